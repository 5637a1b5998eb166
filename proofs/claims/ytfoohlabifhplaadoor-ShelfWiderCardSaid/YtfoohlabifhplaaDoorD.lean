/- The statement ShelfWider holds for every input that its row lets in. Conditions: none. -/
import Derived.Test.YtfoohlabifhplaaDoorC
set_option linter.all false
set_option linter.unusedVariables false
set_option maxRecDepth 100000
namespace Go.AM
open Go Go.Proofs
def zsp (n : Nat) : Nat × X := (n, .ptr 0 n 0)
def zc (n : Nat) (l : List D) : Nat × O := (n, .cells (l.map .d))
section
variable {E : Env} {fid : Nat} {c : Code}
theorem zqn {S R : Type} {S0 : S → St} {R0 : R → Ex × St} {s : S} {x : S ⊕ R} (s' : S) (rs : List Nat) (V : Ovs) (C : Cuts) (h : some (Sum.inl s') = some x) {P : List Prop} (hP : All P) (hr : zvi E V C rs 80 fid c (S0 s) = some (.inl (S0 s'), P)) : z7 E fid c S0 R0 s x := zIv h hP hr
theorem zqo {S R : Type} {S0 : S → St} {R0 : R → Ex × St} {s : S} {r : R} {x : S ⊕ R} (V : Ovs) (C : Cuts) (h : some (Sum.inr r) = some x) {P : List Prop} (hP : All P) (hr : zvi E V C [] 80 fid c (S0 s) = some (.inr (R0 r), P)) : z7 E fid c S0 R0 s x := zKv h hP hr
theorem zYc {A0 R : Type} {S0 : A0 → St} {R0 : R → Ex × St} {W : A0 → Option ((A0) ⊕ R)} (h : ∀ b0 x, W b0 = some x → z7 E fid c S0 R0 b0 x) : ∀ (m : Nat) (s : A0) (r : R), iter (fun s => W s) m s = some r → ev E fid c (S0 s) = some (R0 r) := zpi fun s x e => h s x e
theorem z4b {A0 A1 R : Type} {S0 : A0 × A1 → St} {R0 : R → Ex × St} {W : A0 → A1 → Option ((A0 × A1) ⊕ R)} (h : ∀ b0 b1 x, W b0 b1 = some x → z7 E fid c S0 R0 (b0, b1) x) : ∀ (m : Nat) (s : A0 × A1) (r : R), iter (fun s => W s.1 s.2) m s = some r → ev E fid c (S0 s) = some (R0 r) := zpi fun s x e => h s.1 s.2 x e
theorem zJx {A0 A1 A2 R : Type} {S0 : A0 × A1 × A2 → St} {R0 : R → Ex × St} {W : A0 → A1 → A2 → Option ((A0 × A1 × A2) ⊕ R)} (h : ∀ b0 b1 b2 x, W b0 b1 b2 = some x → z7 E fid c S0 R0 (b0, b1, b2) x) : ∀ (m : Nat) (s : A0 × A1 × A2) (r : R), iter (fun s => W s.1 s.2.1 s.2.2) m s = some r → ev E fid c (S0 s) = some (R0 r) := zpi fun s x e => h s.1 s.2.1 s.2.2 x e
theorem zQv {A0 A1 A2 A3 R : Type} {S0 : A0 × A1 × A2 × A3 → St} {R0 : R → Ex × St} {W : A0 → A1 → A2 → A3 → Option ((A0 × A1 × A2 × A3) ⊕ R)} (h : ∀ b0 b1 b2 b3 x, W b0 b1 b2 b3 = some x → z7 E fid c S0 R0 (b0, b1, b2, b3) x) : ∀ (m : Nat) (s : A0 × A1 × A2 × A3) (r : R), iter (fun s => W s.1 s.2.1 s.2.2.1 s.2.2.2) m s = some r → ev E fid c (S0 s) = some (R0 r) := zpi fun s x e => h s.1 s.2.1 s.2.2.1 s.2.2.2 x e
theorem zFy {A0 A1 A2 A3 A4 R : Type} {S0 : A0 × A1 × A2 × A3 × A4 → St} {R0 : R → Ex × St} {W : A0 → A1 → A2 → A3 → A4 → Option ((A0 × A1 × A2 × A3 × A4) ⊕ R)} (h : ∀ b0 b1 b2 b3 b4 x, W b0 b1 b2 b3 b4 = some x → z7 E fid c S0 R0 (b0, b1, b2, b3, b4) x) : ∀ (m : Nat) (s : A0 × A1 × A2 × A3 × A4) (r : R), iter (fun s => W s.1 s.2.1 s.2.2.1 s.2.2.2.1 s.2.2.2.2) m s = some r → ev E fid c (S0 s) = some (R0 r) := zpi fun s x e => h s.1 s.2.1 s.2.2.1 s.2.2.2.1 s.2.2.2.2 x e
theorem zGy {A0 A1 A2 A3 A4 A5 R : Type} {S0 : A0 × A1 × A2 × A3 × A4 × A5 → St} {R0 : R → Ex × St} {W : A0 → A1 → A2 → A3 → A4 → A5 → Option ((A0 × A1 × A2 × A3 × A4 × A5) ⊕ R)} (h : ∀ b0 b1 b2 b3 b4 b5 x, W b0 b1 b2 b3 b4 b5 = some x → z7 E fid c S0 R0 (b0, b1, b2, b3, b4, b5) x) : ∀ (m : Nat) (s : A0 × A1 × A2 × A3 × A4 × A5) (r : R), iter (fun s => W s.1 s.2.1 s.2.2.1 s.2.2.2.1 s.2.2.2.2.1 s.2.2.2.2.2) m s = some r → ev E fid c (S0 s) = some (R0 r) := zpi fun s x e => h s.1 s.2.1 s.2.2.1 s.2.2.2.1 s.2.2.2.2.1 s.2.2.2.2.2 x e
theorem zqe {st : St} {r : Ex × St} {P : List Prop} (V : Ovs) (C : Cuts) (hP : All P) (h : evV E V C 80 fid c st = some (r, P)) : ev E fid c st = some r := zLv hP h
theorem zqc {f : Nat} {ds : List D} {d : D} {P : List Prop} (V : Ovs) (C : Cuts) (hP : All P) (h : zJq E V C 80 f ds = some (d, P)) : zV E (ev E) f ds = some d := zJu hP h
theorem zqr {f : Nat} {ds : List D} {d : D} {P : List Prop} (V : Ovs) (C : Cuts) (res : List D) (hP : All P) (h : zap E V C 80 f ds res = some (d, P)) : zV E (ev E) f ds = some d := zpt hP h
end
section
variable {α : Type}
theorem zqa (T : TypeId) (bt lv s : Nat) (n : Int) (b : Bool) (z : Nat) (e : α → List D) (l : List α) (w : Bool) {y : α} (ha : arT TE.P T = none) (hs : slT TE.P T = some (z, bt)) (h : idx l n = some y) : iaX TE.P (fun _ _ => some (rowO b z e l w)) T (.row lv s l.length) (xi n) = some (.rp lv s l.length n.toNat 0) := zlx ha hs h
theorem zql (T : TypeId) (q : Nat × Bool) (lv s o : Nat) (n : Int) (x : X) (b : Bool) (z : Nat) (e : α → List D) (l : List α) (w : Bool) {y : α} (ht : tyT TE.P T = some q) (h : idx l n = some y) (hx : (zYg q.2 q.1 ((e y).drop o)).map X.d = some x) : ldX TE.P (fun _ _ => some (rowO b z e l w)) T (.rp lv s l.length n.toNat o) = some x := zCw ht h hx
theorem zqf (T : TypeId) (q : Nat × Nat × Bool) (lv s o f : Nat) (n : Int) (b : Bool) (z : Nat) (e : α → List D) (l : List α) (w : Bool) {y : α} (hf : fdT TE.P T f = some q) (hq : q.2.1 ≠ 0) (h : idx l n = some y) : faX TE.P (fun _ _ => some (rowO b z e l w)) T (.rp lv s l.length n.toNat o) f = some (.rp lv s l.length n.toNat (o + q.1)) := zbw hf hq h
end
theorem zN (k : Nat) (p0 p1 p2 : Int) (r : Bool) (h : zeb k p0 p1 p2 = some r) : zV TE (ev TE) 60 [(di p0), (di p1), (di p2)] = some (zei r) := by
 unfold zeb at h
 refine zr h (fun h1 g1 => ?_) (fun h1 g1 => ?_)
 ·exact zM (g := zei) g1 (zqc [(60, 1, 3, .q (xb true))] [] (ob (o_b h1) ob0) (by kernel_rfl))
 ·exact zM (g := zei) g1 (zqc [(60, 1, 3, .q (xb false))] [] (ob (o_b h1) ob0) (by kernel_rfl))
theorem zTe (k : Nat) (p0 : zm) (p1 p2 : Int) (r : Bool) (h : zBd k p0 p1 p2 = some r) : zV TE (ev TE) 61 [(.agg [(di p0.Low), (di p0.High)]), (di p1), (di p2)] = some (ztg r) := by
 unfold zBd at h
 refine zr h (fun h1 g1 => ?_) (fun h1 g1 => ?_)
 ·refine zr g1 (fun h2 g2 => ?_) (fun h2 g2 => ?_)
  ·exact zM (g := ztg) g2 (zqc [(61, 1, 4, .q (xb true)), (61, 1, 11, .q (xb true))] [] (ob (o_b h1) (ob (o_b h2) ob0)) (by kernel_rfl))
  ·exact zM (g := ztg) g2 (zqc [(61, 1, 4, .q (xb true)), (61, 1, 11, .q (xb false))] [] (ob (o_b h1) (ob (o_b h2) ob0)) (by kernel_rfl))
 ·exact zM (g := ztg) g1 (zqc [(61, 1, 4, .q (xb false))] [] (ob (o_b h1) ob0) (by kernel_rfl))
noncomputable def zk1 (p0 : zb) (r : Bool) : TM := [(0, (.d (.agg (za p0)))), (zsp 1), (2, (xi 0)), (3, (xb r))]
noncomputable def zmc (p0 : zb) (r : Bool) : St := ⟨(zk1 p0 r), ⟨[(zc 1 (za p0))], []⟩, []⟩
theorem zBj (k : Nat) (p0 : zb) (r : Bool) (h : zrf k p0 = some r) : ev TE 18 (rgn TE 18 1) ⟨[(0, (.d (.agg (za p0)))), (zsp 1), (2, (xi 0))], ⟨[(zc 1 (za p0))], []⟩, []⟩ = some (.nor, zmc p0 r) := by
 unfold zrf at h
 refine zp h (fun v201 h202 g1 => ?_)
 refine zr g1 (fun h203 g2 => ?_) (fun h203 g2 => ?_)
 ·refine zp g2 (fun v204 h205 g3 => ?_)
  refine zr g3 (fun h206 g4 => ?_) (fun h206 g4 => ?_)
  ·refine zr g4 (fun h207 g5 => ?_) (fun h207 g5 => ?_)
   ·refine zr g5 (fun h208 g6 => ?_) (fun h208 g6 => ?_)
    ·exact zJ (g := fun r => (Ex.nor, zmc p0 r)) g6 (zqe [(18, 1, 2, .c (db v201)), (18, 1, 3, .q (xb true)), (18, 1, 6, .q (xi (p0.Shelves.1.length : Int))), (18, 1, 7, .c (db v204)), (18, 1, 9, .q (xb true)), (18, 1, 12, .q (xi (p0.Moves.1.length : Int))), (18, 1, 15, .q (xb true)), (18, 1, 18, .q (xi (p0.Deliveries.1.length : Int))), (18, 1, 21, .q (xb true)), (18, 1, 24, .q (xi (p0.Counts.1.length : Int)))] [] (ob (zN k p0.Days 1 12 _ h202) (ob (o_b h203) (ob (zx zi p0.Shelves.1) (ob (zN k (p0.Shelves.1.length : Int) 1 4 _ h205) (ob (o_b h206) (ob (zx zk p0.Moves.1) (ob (o_b h207) (ob (zx zd p0.Deliveries.1) (ob (o_b h208) (ob (zx zh p0.Counts.1) ob0)))))))))) (by kernel_rfl))
    ·exact zJ (g := fun r => (Ex.nor, zmc p0 r)) g6 (zqe [(18, 1, 2, .c (db v201)), (18, 1, 3, .q (xb true)), (18, 1, 6, .q (xi (p0.Shelves.1.length : Int))), (18, 1, 7, .c (db v204)), (18, 1, 9, .q (xb true)), (18, 1, 12, .q (xi (p0.Moves.1.length : Int))), (18, 1, 15, .q (xb true)), (18, 1, 18, .q (xi (p0.Deliveries.1.length : Int))), (18, 1, 21, .q (xb false))] [] (ob (zN k p0.Days 1 12 _ h202) (ob (o_b h203) (ob (zx zi p0.Shelves.1) (ob (zN k (p0.Shelves.1.length : Int) 1 4 _ h205) (ob (o_b h206) (ob (zx zk p0.Moves.1) (ob (o_b h207) (ob (zx zd p0.Deliveries.1) (ob (o_b h208) ob0))))))))) (by kernel_rfl))
   ·exact zJ (g := fun r => (Ex.nor, zmc p0 r)) g5 (zqe [(18, 1, 2, .c (db v201)), (18, 1, 3, .q (xb true)), (18, 1, 6, .q (xi (p0.Shelves.1.length : Int))), (18, 1, 7, .c (db v204)), (18, 1, 9, .q (xb true)), (18, 1, 12, .q (xi (p0.Moves.1.length : Int))), (18, 1, 15, .q (xb false))] [] (ob (zN k p0.Days 1 12 _ h202) (ob (o_b h203) (ob (zx zi p0.Shelves.1) (ob (zN k (p0.Shelves.1.length : Int) 1 4 _ h205) (ob (o_b h206) (ob (zx zk p0.Moves.1) (ob (o_b h207) ob0))))))) (by kernel_rfl))
  ·exact zJ (g := fun r => (Ex.nor, zmc p0 r)) g4 (zqe [(18, 1, 2, .c (db v201)), (18, 1, 3, .q (xb true)), (18, 1, 6, .q (xi (p0.Shelves.1.length : Int))), (18, 1, 7, .c (db v204)), (18, 1, 9, .q (xb false))] [] (ob (zN k p0.Days 1 12 _ h202) (ob (o_b h203) (ob (zx zi p0.Shelves.1) (ob (zN k (p0.Shelves.1.length : Int) 1 4 _ h205) (ob (o_b h206) ob0))))) (by kernel_rfl))
 ·exact zJ (g := fun r => (Ex.nor, zmc p0 r)) g2 (zqe [(18, 1, 2, .c (db v201)), (18, 1, 3, .q (xb false))] [] (ob (zN k p0.Days 1 12 _ h202) (ob (o_b h203) ob0)) (by kernel_rfl))
noncomputable def zk2 (p0 : zb) (r : Bool) (s2_9 : Int) : TM := zk1 p0 r ++ [(40, (.d (dl zi p0.Shelves.1 p0.Shelves.2))), (41, (xi (p0.Shelves.1.length : Int))), (42, (xi s2_9)), (43, (xb true)), (zsp 5)]
noncomputable def zne (p0 : zb) (s2_6 : Bool) (s2_9 : Int) (v402 : zt) (r : Bool) : St := ⟨(zk2 p0 r s2_9), ⟨[(zc 1 (za p0)), (zc 5 (zi v402))], []⟩, []⟩
noncomputable def zk3 (p0 : zb) (s2_6 : Bool) (s2_9 : Int) : TM := [(0, (.d (.agg (za p0)))), (zsp 1), (2, (xi 0)), (3, (xb s2_6)), (40, (.d (dl zi p0.Shelves.1 p0.Shelves.2))), (41, (xi (p0.Shelves.1.length : Int))), (42, (xi s2_9)), (43, (xb true)), (zsp 5)]
theorem zZn (k : Nat) (p0 : zb) (s2_6 : Bool) (s2_9 : Int) (v402 : zt) (r : Bool) (h : zpf k p0 s2_6 s2_9 v402 = some r) : ev TE 18 (rgn TE 18 5) ⟨(zk3 p0 s2_6 s2_9), ⟨[(zc 1 (za p0)), (zc 5 (zi v402))], []⟩, []⟩ = some (.nor, zne p0 s2_6 s2_9 v402 r) := by
 unfold zpf at h
 refine zr h (fun h501 g1 => ?_) (fun h501 g1 => ?_)
 ·refine zp g1 (fun v502 h503 g2 => ?_)
  refine zr g2 (fun h504 g3 => ?_) (fun h504 g3 => ?_)
  ·refine zp g3 (fun v505 h506 g4 => ?_)
   exact zJ (g := fun r => (Ex.nor, zne p0 s2_6 s2_9 v402 r)) g4 (zqe [(18, 5, 1, .q (xb true)), (18, 5, 4, .c (db v502)), (18, 5, 6, .q (xb true)), (18, 5, 11, .c (db v505))] [] (ob (o_b h501) (ob (zN k v402.Room 1 60 _ h503) (ob (o_b h504) (ob (zTe k v402.Begin 0 v402.Room _ h506) ob0)))) (by kernel_rfl))
  ·exact zJ (g := fun r => (Ex.nor, zne p0 s2_6 s2_9 v402 r)) g3 (zqe [(18, 5, 1, .q (xb true)), (18, 5, 4, .c (db v502)), (18, 5, 6, .q (xb false))] [] (ob (o_b h501) (ob (zN k v402.Room 1 60 _ h503) (ob (o_b h504) ob0))) (by kernel_rfl))
 ·exact zJ (g := fun r => (Ex.nor, zne p0 s2_6 s2_9 v402 r)) g1 (zqe [(18, 5, 1, .q (xb false))] [] (ob (o_b h501) ob0) (by kernel_rfl))
noncomputable def zk4 (p0 : zb) (s2_6 : Bool) (s2_9 : Int) : TM := [(0, (.d (.agg (za p0)))), (zsp 1), (2, (xi 0)), (3, (xb s2_6)), (40, (.d (dl zi p0.Shelves.1 p0.Shelves.2))), (41, (xi (p0.Shelves.1.length : Int))), (42, (xi s2_9))]
noncomputable def zjo (p0 : zb) (s2_6 : Bool) (s2_9 : Int) : St := ⟨(zk4 p0 s2_6 s2_9), ⟨[(zc 1 (za p0))], []⟩, []⟩
noncomputable def zk5 (p0 : zb) (r : zt1) : TM := [(0, (.d (.agg (za p0)))), (zsp 1), (2, (xi 0)), (3, (xb r.1)), (40, (.d (dl zi p0.Shelves.1 p0.Shelves.2))), (41, (xi (p0.Shelves.1.length : Int))), (42, (xi r.2)), (43, (xb false))]
noncomputable def z5d (p0 : zb) (r : zt1) : St := ⟨(zk5 p0 r), ⟨[(zc 1 (za p0))], []⟩, []⟩
noncomputable def zFo (p0 : zb) : (Bool × Int) → Ex × St := fun r => ((.exit 0), z5d p0 r)
theorem zrj (k : Nat) (p0 : zb) (s2_6 : Bool) (s2_9 : Int) (x : (Bool × Int) ⊕ (Bool × Int)) (h : zOc k p0 s2_6 s2_9 = some x) : z7 TE 18 (blk TE 18 0) (fun s : (Bool × Int) => zjo p0 s.1 s.2) (zFo p0) (s2_6, s2_9) x := by
 unfold zOc at h
 refine zr h (fun h401 g1 => ?_) (fun h401 g1 => ?_)
 ·refine zp g1 (fun v402 h403 g2 => ?_)
  refine zp g2 (fun v404 h405 g3 => ?_)
  exact zqn (v404, (w64 (s2_9 + 1))) [] [(18, 3, 0, .q (xb true)), (18, 4, 0, .q (.d (.pin (zi v402))))] [(18, 1000005, (.nor, zne p0 s2_6 s2_9 v402 v404))] g3 (ob (o_b h401) (ob (o_ia (e := zi) 3 h403 rfl) (ob (zZn k p0 s2_6 s2_9 v402 _ h405) ob0))) (by kernel_rfl)
 ·exact zqo [(18, 3, 0, .q (xb false))] [] g1 (ob (o_b h401) ob0) (by kernel_rfl)
noncomputable def zk6 (p0 : zb) (r : Bool) (v3 : zt1) (s5_13 : Int) : TM := zk1 p0 r ++ [(40, (.d (dl zi p0.Shelves.1 p0.Shelves.2))), (41, (xi (p0.Shelves.1.length : Int))), (42, (xi v3.2)), (43, (xb false)), (61, (.d (dl zk p0.Moves.1 p0.Moves.2))), (62, (xi (p0.Moves.1.length : Int))), (63, (xi s5_13)), (64, (xb true)), (zsp 7)]
noncomputable def zqd (p0 : zb) (v3 : zt1) (s5_6 : Bool) (s5_13 : Int) (v702 : zq) (r : Bool) : St := ⟨(zk6 p0 r v3 s5_13), ⟨[(zc 1 (za p0)), (zc 7 (zk v702))], []⟩, []⟩
noncomputable def zk7 (p0 : zb) (s5_6 : Bool) (v3 : zt1) (s5_13 : Int) : TM := [(0, (.d (.agg (za p0)))), (zsp 1), (2, (xi 0)), (3, (xb s5_6)), (40, (.d (dl zi p0.Shelves.1 p0.Shelves.2))), (41, (xi (p0.Shelves.1.length : Int))), (42, (xi v3.2)), (43, (xb false)), (61, (.d (dl zk p0.Moves.1 p0.Moves.2))), (62, (xi (p0.Moves.1.length : Int))), (63, (xi s5_13)), (64, (xb true)), (zsp 7)]
theorem zOn (k : Nat) (p0 : zb) (v3 : zt1) (s5_6 : Bool) (s5_13 : Int) (v702 : zq) (r : Bool) (h : znf k p0 v3 s5_6 s5_13 v702 = some r) : ev TE 18 (rgn TE 18 10) ⟨(zk7 p0 s5_6 v3 s5_13), ⟨[(zc 1 (za p0)), (zc 7 (zk v702))], []⟩, []⟩ = some (.nor, zqd p0 v3 s5_6 s5_13 v702 r) := by
 unfold znf at h
 refine zr h (fun h801 g1 => ?_) (fun h801 g1 => ?_)
 ·refine zp g1 (fun v802 h803 g2 => ?_)
  refine zr g2 (fun h804 g3 => ?_) (fun h804 g3 => ?_)
  ·refine zp g3 (fun v805 h806 g4 => ?_)
   refine zr g4 (fun h807 g5 => ?_) (fun h807 g5 => ?_)
   ·refine zp g5 (fun v808 h809 g6 => ?_)
    exact zJ (g := fun r => (Ex.nor, zqd p0 v3 s5_6 s5_13 v702 r)) g6 (zqe [(18, 10, 1, .q (xb true)), (18, 10, 7, .c (db v802)), (18, 10, 9, .q (xb true)), (18, 10, 14, .q (xi (p0.Shelves.1.length : Int))), (18, 10, 16, .c (db v805)), (18, 10, 18, .q (xb true)), (18, 10, 21, .c (db v808))] [] (ob (o_b h801) (ob (zN k v702.Day 0 (w64 (p0.Days - 1)) _ h803) (ob (o_b h804) (ob (zx zi p0.Shelves.1) (ob (zN k v702.Shelf 0 (w64 ((p0.Shelves.1.length : Int) - 1)) _ h806) (ob (o_b h807) (ob (zTe k v702.By 0 60 _ h809) ob0))))))) (by kernel_rfl))
   ·exact zJ (g := fun r => (Ex.nor, zqd p0 v3 s5_6 s5_13 v702 r)) g5 (zqe [(18, 10, 1, .q (xb true)), (18, 10, 7, .c (db v802)), (18, 10, 9, .q (xb true)), (18, 10, 14, .q (xi (p0.Shelves.1.length : Int))), (18, 10, 16, .c (db v805)), (18, 10, 18, .q (xb false))] [] (ob (o_b h801) (ob (zN k v702.Day 0 (w64 (p0.Days - 1)) _ h803) (ob (o_b h804) (ob (zx zi p0.Shelves.1) (ob (zN k v702.Shelf 0 (w64 ((p0.Shelves.1.length : Int) - 1)) _ h806) (ob (o_b h807) ob0)))))) (by kernel_rfl))
  ·exact zJ (g := fun r => (Ex.nor, zqd p0 v3 s5_6 s5_13 v702 r)) g3 (zqe [(18, 10, 1, .q (xb true)), (18, 10, 7, .c (db v802)), (18, 10, 9, .q (xb false))] [] (ob (o_b h801) (ob (zN k v702.Day 0 (w64 (p0.Days - 1)) _ h803) (ob (o_b h804) ob0))) (by kernel_rfl))
 ·exact zJ (g := fun r => (Ex.nor, zqd p0 v3 s5_6 s5_13 v702 r)) g1 (zqe [(18, 10, 1, .q (xb false))] [] (ob (o_b h801) ob0) (by kernel_rfl))
noncomputable def zk8 (p0 : zb) (s5_6 : Bool) (v3 : zt1) (s5_13 : Int) : TM := [(0, (.d (.agg (za p0)))), (zsp 1), (2, (xi 0)), (3, (xb s5_6)), (40, (.d (dl zi p0.Shelves.1 p0.Shelves.2))), (41, (xi (p0.Shelves.1.length : Int))), (42, (xi v3.2)), (43, (xb false)), (61, (.d (dl zk p0.Moves.1 p0.Moves.2))), (62, (xi (p0.Moves.1.length : Int))), (63, (xi s5_13))]
noncomputable def zDo (p0 : zb) (v3 : zt1) (s5_6 : Bool) (s5_13 : Int) : St := ⟨(zk8 p0 s5_6 v3 s5_13), ⟨[(zc 1 (za p0))], []⟩, []⟩
noncomputable def zk9 (p0 : zb) (r v3 : zt1) : TM := [(0, (.d (.agg (za p0)))), (zsp 1), (2, (xi 0)), (3, (xb r.1)), (40, (.d (dl zi p0.Shelves.1 p0.Shelves.2))), (41, (xi (p0.Shelves.1.length : Int))), (42, (xi v3.2)), (43, (xb false)), (61, (.d (dl zk p0.Moves.1 p0.Moves.2))), (62, (xi (p0.Moves.1.length : Int))), (63, (xi r.2)), (64, (xb false))]
noncomputable def zUd (p0 : zb) (v3 r : zt1) : St := ⟨(zk9 p0 r v3), ⟨[(zc 1 (za p0))], []⟩, []⟩
noncomputable def zno (p0 : zb) (v3 : zt1) : (Bool × Int) → Ex × St := fun r => ((.exit 2), zUd p0 v3 r)
theorem zFj (k : Nat) (p0 : zb) (v3 : zt1) (s5_6 : Bool) (s5_13 : Int) (x : (Bool × Int) ⊕ (Bool × Int)) (h : zMc k p0 v3 s5_6 s5_13 = some x) : z7 TE 18 (blk TE 18 2) (fun s : (Bool × Int) => zDo p0 v3 s.1 s.2) (zno p0 v3) (s5_6, s5_13) x := by
 unfold zMc at h
 refine zr h (fun h701 g1 => ?_) (fun h701 g1 => ?_)
 ·refine zp g1 (fun v702 h703 g2 => ?_)
  refine zp g2 (fun v704 h705 g3 => ?_)
  exact zqn (v704, (w64 (s5_13 + 1))) [] [(18, 8, 0, .q (xb true)), (18, 9, 0, .q (.d (.pin (zk v702))))] [(18, 1000010, (.nor, zqd p0 v3 s5_6 s5_13 v702 v704))] g3 (ob (o_b h701) (ob (o_ia (e := zk) 5 h703 rfl) (ob (zOn k p0 v3 s5_6 s5_13 v702 _ h705) ob0))) (by kernel_rfl)
 ·exact zqo [(18, 8, 0, .q (xb false))] [] g1 (ob (o_b h701) ob0) (by kernel_rfl)
noncomputable def zzy (p0 : zb) (r : Bool) (v3 v5 : zt1) (s8_17 : Int) : TM := zk1 p0 r ++ [(40, (.d (dl zi p0.Shelves.1 p0.Shelves.2))), (41, (xi (p0.Shelves.1.length : Int))), (42, (xi v3.2)), (43, (xb false)), (61, (.d (dl zk p0.Moves.1 p0.Moves.2))), (62, (xi (p0.Moves.1.length : Int))), (63, (xi v5.2)), (64, (xb false)), (92, (.d (dl zd p0.Deliveries.1 p0.Deliveries.2))), (93, (xi (p0.Deliveries.1.length : Int))), (94, (xi s8_17)), (95, (xb true)), (zsp 9)]
noncomputable def z8c (p0 : zb) (v3 v5 : zt1) (s8_6 : Bool) (s8_17 : Int) (v1002 : zn) (r : Bool) : St := ⟨(zzy p0 r v3 v5 s8_17), ⟨[(zc 1 (za p0)), (zc 9 (zd v1002))], []⟩, []⟩
noncomputable def zyy (p0 : zb) (s8_6 : Bool) (v3 v5 : zt1) (s8_17 : Int) : TM := [(0, (.d (.agg (za p0)))), (zsp 1), (2, (xi 0)), (3, (xb s8_6)), (40, (.d (dl zi p0.Shelves.1 p0.Shelves.2))), (41, (xi (p0.Shelves.1.length : Int))), (42, (xi v3.2)), (43, (xb false)), (61, (.d (dl zk p0.Moves.1 p0.Moves.2))), (62, (xi (p0.Moves.1.length : Int))), (63, (xi v5.2)), (64, (xb false)), (92, (.d (dl zd p0.Deliveries.1 p0.Deliveries.2))), (93, (xi (p0.Deliveries.1.length : Int))), (94, (xi s8_17)), (95, (xb true)), (zsp 9)]
theorem zbn (k : Nat) (p0 : zb) (v3 v5 : zt1) (s8_6 : Bool) (s8_17 : Int) (v1002 : zn) (r : Bool) (h : zPe k p0 v3 v5 s8_6 s8_17 v1002 = some r) : ev TE 18 (rgn TE 18 15) ⟨(zyy p0 s8_6 v3 v5 s8_17), ⟨[(zc 1 (za p0)), (zc 9 (zd v1002))], []⟩, []⟩ = some (.nor, z8c p0 v3 v5 s8_6 s8_17 v1002 r) := by
 unfold zPe at h
 refine zr h (fun h1101 g1 => ?_) (fun h1101 g1 => ?_)
 ·refine zp g1 (fun v1102 h1103 g2 => ?_)
  refine zr g2 (fun h1104 g3 => ?_) (fun h1104 g3 => ?_)
  ·refine zp g3 (fun v1105 h1106 g4 => ?_)
   refine zr g4 (fun h1107 g5 => ?_) (fun h1107 g5 => ?_)
   ·refine zp g5 (fun v1108 h1109 g6 => ?_)
    exact zJ (g := fun r => (Ex.nor, z8c p0 v3 v5 s8_6 s8_17 v1002 r)) g6 (zqe [(18, 15, 1, .q (xb true)), (18, 15, 6, .q (xi (p0.Shelves.1.length : Int))), (18, 15, 8, .c (db v1102)), (18, 15, 10, .q (xb true)), (18, 15, 16, .c (db v1105)), (18, 15, 18, .q (xb true)), (18, 15, 21, .c (db v1108))] [] (ob (o_b h1101) (ob (zx zi p0.Shelves.1) (ob (zN k v1002.Shelf 0 (w64 ((p0.Shelves.1.length : Int) - 1)) _ h1103) (ob (o_b h1104) (ob (zTe k v1002.Days 0 (w64 (p0.Days - 1)) _ h1106) (ob (o_b h1107) (ob (zTe k v1002.By 0 60 _ h1109) ob0))))))) (by kernel_rfl))
   ·exact zJ (g := fun r => (Ex.nor, z8c p0 v3 v5 s8_6 s8_17 v1002 r)) g5 (zqe [(18, 15, 1, .q (xb true)), (18, 15, 6, .q (xi (p0.Shelves.1.length : Int))), (18, 15, 8, .c (db v1102)), (18, 15, 10, .q (xb true)), (18, 15, 16, .c (db v1105)), (18, 15, 18, .q (xb false))] [] (ob (o_b h1101) (ob (zx zi p0.Shelves.1) (ob (zN k v1002.Shelf 0 (w64 ((p0.Shelves.1.length : Int) - 1)) _ h1103) (ob (o_b h1104) (ob (zTe k v1002.Days 0 (w64 (p0.Days - 1)) _ h1106) (ob (o_b h1107) ob0)))))) (by kernel_rfl))
  ·exact zJ (g := fun r => (Ex.nor, z8c p0 v3 v5 s8_6 s8_17 v1002 r)) g3 (zqe [(18, 15, 1, .q (xb true)), (18, 15, 6, .q (xi (p0.Shelves.1.length : Int))), (18, 15, 8, .c (db v1102)), (18, 15, 10, .q (xb false))] [] (ob (o_b h1101) (ob (zx zi p0.Shelves.1) (ob (zN k v1002.Shelf 0 (w64 ((p0.Shelves.1.length : Int) - 1)) _ h1103) (ob (o_b h1104) ob0)))) (by kernel_rfl))
 ·exact zJ (g := fun r => (Ex.nor, z8c p0 v3 v5 s8_6 s8_17 v1002 r)) g1 (zqe [(18, 15, 1, .q (xb false))] [] (ob (o_b h1101) ob0) (by kernel_rfl))
noncomputable def zIx (p0 : zb) (s8_6 : Bool) (v3 v5 : zt1) (s8_17 : Int) : TM := [(0, (.d (.agg (za p0)))), (zsp 1), (2, (xi 0)), (3, (xb s8_6)), (40, (.d (dl zi p0.Shelves.1 p0.Shelves.2))), (41, (xi (p0.Shelves.1.length : Int))), (42, (xi v3.2)), (43, (xb false)), (61, (.d (dl zk p0.Moves.1 p0.Moves.2))), (62, (xi (p0.Moves.1.length : Int))), (63, (xi v5.2)), (64, (xb false)), (92, (.d (dl zd p0.Deliveries.1 p0.Deliveries.2))), (93, (xi (p0.Deliveries.1.length : Int))), (94, (xi s8_17))]
noncomputable def zzo (p0 : zb) (v3 v5 : zt1) (s8_6 : Bool) (s8_17 : Int) : St := ⟨(zIx p0 s8_6 v3 v5 s8_17), ⟨[(zc 1 (za p0))], []⟩, []⟩
noncomputable def zfy (p0 : zb) (r v3 v5 : zt1) : TM := [(0, (.d (.agg (za p0)))), (zsp 1), (2, (xi 0)), (3, (xb r.1)), (40, (.d (dl zi p0.Shelves.1 p0.Shelves.2))), (41, (xi (p0.Shelves.1.length : Int))), (42, (xi v3.2)), (43, (xb false)), (61, (.d (dl zk p0.Moves.1 p0.Moves.2))), (62, (xi (p0.Moves.1.length : Int))), (63, (xi v5.2)), (64, (xb false)), (92, (.d (dl zd p0.Deliveries.1 p0.Deliveries.2))), (93, (xi (p0.Deliveries.1.length : Int))), (94, (xi r.2)), (95, (xb false))]
noncomputable def zXd (p0 : zb) (v3 v5 r : zt1) : St := ⟨(zfy p0 r v3 v5), ⟨[(zc 1 (za p0))], []⟩, []⟩
noncomputable def zIo (p0 : zb) (v3 v5 : zt1) : (Bool × Int) → Ex × St := fun r => ((.exit 4), zXd p0 v3 v5 r)
theorem zEj (k : Nat) (p0 : zb) (v3 v5 : zt1) (s8_6 : Bool) (s8_17 : Int) (x : (Bool × Int) ⊕ (Bool × Int)) (h : zPc k p0 v3 v5 s8_6 s8_17 = some x) : z7 TE 18 (blk TE 18 4) (fun s : (Bool × Int) => zzo p0 v3 v5 s.1 s.2) (zIo p0 v3 v5) (s8_6, s8_17) x := by
 unfold zPc at h
 refine zr h (fun h1001 g1 => ?_) (fun h1001 g1 => ?_)
 ·refine zp g1 (fun v1002 h1003 g2 => ?_)
  refine zp g2 (fun v1004 h1005 g3 => ?_)
  exact zqn (v1004, (w64 (s8_17 + 1))) [] [(18, 13, 0, .q (xb true)), (18, 14, 0, .q (.d (.pin (zd v1002))))] [(18, 1000015, (.nor, z8c p0 v3 v5 s8_6 s8_17 v1002 v1004))] g3 (ob (o_b h1001) (ob (o_ia (e := zd) 5 h1003 rfl) (ob (zbn k p0 v3 v5 s8_6 s8_17 v1002 _ h1005) ob0))) (by kernel_rfl)
 ·exact zqo [(18, 13, 0, .q (xb false))] [] g1 (ob (o_b h1001) ob0) (by kernel_rfl)
noncomputable def zyx (p0 : zb) (r : Bool) (v3 v5 v7 : zt1) (s11_21 : Int) : TM := zk1 p0 r ++ [(40, (.d (dl zi p0.Shelves.1 p0.Shelves.2))), (41, (xi (p0.Shelves.1.length : Int))), (42, (xi v3.2)), (43, (xb false)), (61, (.d (dl zk p0.Moves.1 p0.Moves.2))), (62, (xi (p0.Moves.1.length : Int))), (63, (xi v5.2)), (64, (xb false)), (92, (.d (dl zd p0.Deliveries.1 p0.Deliveries.2))), (93, (xi (p0.Deliveries.1.length : Int))), (94, (xi v7.2)), (95, (xb false)), (123, (.d (dl zh p0.Counts.1 p0.Counts.2))), (124, (xi (p0.Counts.1.length : Int))), (125, (xi s11_21)), (126, (xb true)), (zsp 11)]
noncomputable def zzc (p0 : zb) (v3 v5 v7 : zt1) (s11_6 : Bool) (s11_21 : Int) (v1302 : zo) (r : Bool) : St := ⟨(zyx p0 r v3 v5 v7 s11_21), ⟨[(zc 1 (za p0)), (zc 11 (zh v1302))], []⟩, []⟩
noncomputable def zqx (p0 : zb) (s11_6 : Bool) (v3 v5 v7 : zt1) (s11_21 : Int) : TM := [(0, (.d (.agg (za p0)))), (zsp 1), (2, (xi 0)), (3, (xb s11_6)), (40, (.d (dl zi p0.Shelves.1 p0.Shelves.2))), (41, (xi (p0.Shelves.1.length : Int))), (42, (xi v3.2)), (43, (xb false)), (61, (.d (dl zk p0.Moves.1 p0.Moves.2))), (62, (xi (p0.Moves.1.length : Int))), (63, (xi v5.2)), (64, (xb false)), (92, (.d (dl zd p0.Deliveries.1 p0.Deliveries.2))), (93, (xi (p0.Deliveries.1.length : Int))), (94, (xi v7.2)), (95, (xb false)), (123, (.d (dl zh p0.Counts.1 p0.Counts.2))), (124, (xi (p0.Counts.1.length : Int))), (125, (xi s11_21)), (126, (xb true)), (zsp 11)]
theorem z6m (k : Nat) (p0 : zb) (v3 v5 v7 : zt1) (s11_6 : Bool) (s11_21 : Int) (v1302 : zo) (r : Bool) (h : zWe k p0 v3 v5 v7 s11_6 s11_21 v1302 = some r) : ev TE 18 (rgn TE 18 20) ⟨(zqx p0 s11_6 v3 v5 v7 s11_21), ⟨[(zc 1 (za p0)), (zc 11 (zh v1302))], []⟩, []⟩ = some (.nor, zzc p0 v3 v5 v7 s11_6 s11_21 v1302 r) := by
 unfold zWe at h
 refine zr h (fun h1401 g1 => ?_) (fun h1401 g1 => ?_)
 ·refine zp g1 (fun v1402 h1403 g2 => ?_)
  refine zr g2 (fun h1404 g3 => ?_) (fun h1404 g3 => ?_)
  ·refine zp g3 (fun v1405 h1406 g4 => ?_)
   refine zr g4 (fun h1407 g5 => ?_) (fun h1407 g5 => ?_)
   ·refine zp g5 (fun v1408 h1409 g6 => ?_)
    refine zr g6 (fun h1410 g7 => ?_) (fun h1410 g7 => ?_)
    ·refine zp g7 (fun v1411 h1412 g8 => ?_)
     exact zJ (g := fun r => (Ex.nor, zzc p0 v3 v5 v7 s11_6 s11_21 v1302 r)) g8 (zqe [(18, 20, 1, .q (xb true)), (18, 20, 7, .c (db v1402)), (18, 20, 9, .q (xb true)), (18, 20, 14, .q (xi (p0.Shelves.1.length : Int))), (18, 20, 16, .c (db v1405)), (18, 20, 18, .q (xb true)), (18, 20, 21, .c (db v1408)), (18, 20, 23, .q (xb true)), (18, 20, 26, .c (db v1411))] [] (ob (o_b h1401) (ob (zN k v1302.Day 0 (w64 (p0.Days - 1)) _ h1403) (ob (o_b h1404) (ob (zx zi p0.Shelves.1) (ob (zN k v1302.Shelf 0 (w64 ((p0.Shelves.1.length : Int) - 1)) _ h1406) (ob (o_b h1407) (ob (zN k v1302.Read 0 60 _ h1409) (ob (o_b h1410) (ob (zN k v1302.Err 0 20 _ h1412) ob0))))))))) (by kernel_rfl))
    ·exact zJ (g := fun r => (Ex.nor, zzc p0 v3 v5 v7 s11_6 s11_21 v1302 r)) g7 (zqe [(18, 20, 1, .q (xb true)), (18, 20, 7, .c (db v1402)), (18, 20, 9, .q (xb true)), (18, 20, 14, .q (xi (p0.Shelves.1.length : Int))), (18, 20, 16, .c (db v1405)), (18, 20, 18, .q (xb true)), (18, 20, 21, .c (db v1408)), (18, 20, 23, .q (xb false))] [] (ob (o_b h1401) (ob (zN k v1302.Day 0 (w64 (p0.Days - 1)) _ h1403) (ob (o_b h1404) (ob (zx zi p0.Shelves.1) (ob (zN k v1302.Shelf 0 (w64 ((p0.Shelves.1.length : Int) - 1)) _ h1406) (ob (o_b h1407) (ob (zN k v1302.Read 0 60 _ h1409) (ob (o_b h1410) ob0)))))))) (by kernel_rfl))
   ·exact zJ (g := fun r => (Ex.nor, zzc p0 v3 v5 v7 s11_6 s11_21 v1302 r)) g5 (zqe [(18, 20, 1, .q (xb true)), (18, 20, 7, .c (db v1402)), (18, 20, 9, .q (xb true)), (18, 20, 14, .q (xi (p0.Shelves.1.length : Int))), (18, 20, 16, .c (db v1405)), (18, 20, 18, .q (xb false))] [] (ob (o_b h1401) (ob (zN k v1302.Day 0 (w64 (p0.Days - 1)) _ h1403) (ob (o_b h1404) (ob (zx zi p0.Shelves.1) (ob (zN k v1302.Shelf 0 (w64 ((p0.Shelves.1.length : Int) - 1)) _ h1406) (ob (o_b h1407) ob0)))))) (by kernel_rfl))
  ·exact zJ (g := fun r => (Ex.nor, zzc p0 v3 v5 v7 s11_6 s11_21 v1302 r)) g3 (zqe [(18, 20, 1, .q (xb true)), (18, 20, 7, .c (db v1402)), (18, 20, 9, .q (xb false))] [] (ob (o_b h1401) (ob (zN k v1302.Day 0 (w64 (p0.Days - 1)) _ h1403) (ob (o_b h1404) ob0))) (by kernel_rfl))
 ·exact zJ (g := fun r => (Ex.nor, zzc p0 v3 v5 v7 s11_6 s11_21 v1302 r)) g1 (zqe [(18, 20, 1, .q (xb false))] [] (ob (o_b h1401) ob0) (by kernel_rfl))
noncomputable def zGx (p0 : zb) (s11_6 : Bool) (v3 v5 v7 : zt1) (s11_21 : Int) : TM := [(0, (.d (.agg (za p0)))), (zsp 1), (2, (xi 0)), (3, (xb s11_6)), (40, (.d (dl zi p0.Shelves.1 p0.Shelves.2))), (41, (xi (p0.Shelves.1.length : Int))), (42, (xi v3.2)), (43, (xb false)), (61, (.d (dl zk p0.Moves.1 p0.Moves.2))), (62, (xi (p0.Moves.1.length : Int))), (63, (xi v5.2)), (64, (xb false)), (92, (.d (dl zd p0.Deliveries.1 p0.Deliveries.2))), (93, (xi (p0.Deliveries.1.length : Int))), (94, (xi v7.2)), (95, (xb false)), (123, (.d (dl zh p0.Counts.1 p0.Counts.2))), (124, (xi (p0.Counts.1.length : Int))), (125, (xi s11_21))]
noncomputable def zWn (p0 : zb) (v3 v5 v7 : zt1) (s11_6 : Bool) (s11_21 : Int) : St := ⟨(zGx p0 s11_6 v3 v5 v7 s11_21), ⟨[(zc 1 (za p0))], []⟩, []⟩
noncomputable def zoy (p0 : zb) (r v3 v5 v7 : zt1) : TM := [(0, (.d (.agg (za p0)))), (zsp 1), (2, (xi 0)), (3, (xb r.1)), (40, (.d (dl zi p0.Shelves.1 p0.Shelves.2))), (41, (xi (p0.Shelves.1.length : Int))), (42, (xi v3.2)), (43, (xb false)), (61, (.d (dl zk p0.Moves.1 p0.Moves.2))), (62, (xi (p0.Moves.1.length : Int))), (63, (xi v5.2)), (64, (xb false)), (92, (.d (dl zd p0.Deliveries.1 p0.Deliveries.2))), (93, (xi (p0.Deliveries.1.length : Int))), (94, (xi v7.2)), (95, (xb false)), (123, (.d (dl zh p0.Counts.1 p0.Counts.2))), (124, (xi (p0.Counts.1.length : Int))), (125, (xi r.2)), (126, (xb false))]
noncomputable def zEd (p0 : zb) (v3 v5 v7 r : zt1) : St := ⟨(zoy p0 r v3 v5 v7), ⟨[(zc 1 (za p0))], []⟩, []⟩
noncomputable def z3n (p0 : zb) (v3 v5 v7 : zt1) : (Bool × Int) → Ex × St := fun r => ((.exit 6), zEd p0 v3 v5 v7 r)
theorem z4i (k : Nat) (p0 : zb) (v3 v5 v7 : zt1) (s11_6 : Bool) (s11_21 : Int) (x : (Bool × Int) ⊕ (Bool × Int)) (h : zAc k p0 v3 v5 v7 s11_6 s11_21 = some x) : z7 TE 18 (blk TE 18 6) (fun s : (Bool × Int) => zWn p0 v3 v5 v7 s.1 s.2) (z3n p0 v3 v5 v7) (s11_6, s11_21) x := by
 unfold zAc at h
 refine zr h (fun h1301 g1 => ?_) (fun h1301 g1 => ?_)
 ·refine zp g1 (fun v1302 h1303 g2 => ?_)
  refine zp g2 (fun v1304 h1305 g3 => ?_)
  exact zqn (v1304, (w64 (s11_21 + 1))) [] [(18, 18, 0, .q (xb true)), (18, 19, 0, .q (.d (.pin (zh v1302))))] [(18, 1000020, (.nor, zzc p0 v3 v5 v7 s11_6 s11_21 v1302 v1304))] g3 (ob (o_b h1301) (ob (o_ia (e := zh) 4 h1303 rfl) (ob (z6m k p0 v3 v5 v7 s11_6 s11_21 v1302 _ h1305) ob0))) (by kernel_rfl)
 ·exact zqo [(18, 18, 0, .q (xb false))] [] g1 (ob (o_b h1301) ob0) (by kernel_rfl)
theorem zEb (k : Nat) (p0 : zb) (r : Int) (h : zge k p0 = some r) : zV TE (ev TE) 18 [(.agg (za p0))] = some (zhj r) := by
 unfold zge at h
 refine zp h (fun v1 h2 g1 => ?_)
 refine zp g1 (fun v3 h4 g2 => ?_)
 refine zp g2 (fun v5 h6 g3 => ?_)
 refine zp g3 (fun v7 h8 g4 => ?_)
 refine zp g4 (fun v9 h10 g5 => ?_)
 refine zr g5 (fun h11 g6 => ?_) (fun h11 g6 => ?_)
 ·exact zM (g := zhj) g6 (zqc [(18, 2, 2, .q (xi (p0.Shelves.1.length : Int))), (18, 7, 2, .q (xi (p0.Moves.1.length : Int))), (18, 12, 2, .q (xi (p0.Deliveries.1.length : Int))), (18, 17, 2, .q (xi (p0.Counts.1.length : Int))), (18, 22, 1, .q (xb true))] [(18, 1000001, (.nor, zmc p0 v1)), (18, 0, (.nor, z5d p0 v3)), (18, 2, (.nor, zUd p0 v3 v5)), (18, 4, (.nor, zXd p0 v3 v5 v7)), (18, 6, (.nor, zEd p0 v3 v5 v7 v9))] (ob (zBj k p0 _ h2) (ob (zx zi p0.Shelves.1) (ob (zR (id := 0) (r' := (.nor, z5d p0 v3)) (z4b (zrj k p0) k _ _ h4) rfl) (ob (zx zk p0.Moves.1) (ob (zR (id := 2) (r' := (.nor, zUd p0 v3 v5)) (z4b (zFj k p0 v3) k _ _ h6) rfl) (ob (zx zd p0.Deliveries.1) (ob (zR (id := 4) (r' := (.nor, zXd p0 v3 v5 v7)) (z4b (zEj k p0 v3 v5) k _ _ h8) rfl) (ob (zx zh p0.Counts.1) (ob (zR (id := 6) (r' := (.nor, zEd p0 v3 v5 v7 v9)) (z4b (z4i k p0 v3 v5 v7) k _ _ h10) rfl) (ob (o_b h11) ob0)))))))))) (by kernel_rfl))
 ·exact zM (g := zhj) g6 (zqc [(18, 2, 2, .q (xi (p0.Shelves.1.length : Int))), (18, 7, 2, .q (xi (p0.Moves.1.length : Int))), (18, 12, 2, .q (xi (p0.Deliveries.1.length : Int))), (18, 17, 2, .q (xi (p0.Counts.1.length : Int))), (18, 22, 1, .q (xb false))] [(18, 1000001, (.nor, zmc p0 v1)), (18, 0, (.nor, z5d p0 v3)), (18, 2, (.nor, zUd p0 v3 v5)), (18, 4, (.nor, zXd p0 v3 v5 v7)), (18, 6, (.nor, zEd p0 v3 v5 v7 v9))] (ob (zBj k p0 _ h2) (ob (zx zi p0.Shelves.1) (ob (zR (id := 0) (r' := (.nor, z5d p0 v3)) (z4b (zrj k p0) k _ _ h4) rfl) (ob (zx zk p0.Moves.1) (ob (zR (id := 2) (r' := (.nor, zUd p0 v3 v5)) (z4b (zFj k p0 v3) k _ _ h6) rfl) (ob (zx zd p0.Deliveries.1) (ob (zR (id := 4) (r' := (.nor, zXd p0 v3 v5 v7)) (z4b (zEj k p0 v3 v5) k _ _ h8) rfl) (ob (zx zh p0.Counts.1) (ob (zR (id := 6) (r' := (.nor, zEd p0 v3 v5 v7 v9)) (z4b (z4i k p0 v3 v5 v7) k _ _ h10) rfl) (ob (o_b h11) ob0)))))))))) (by kernel_rfl))
theorem zP (k : Nat) (p0 p1 p2 : Int) (r : Bool) (h : zjb k p0 p1 p2 = some r) : zV TE (ev TE) 62 [(di p0), (di p1), (di p2)] = some (zmf r) := by
 unfold zjb at h
 refine zr h (fun h1 g1 => ?_) (fun h1 g1 => ?_)
 ·exact zM (g := zmf) g1 (zqc [(62, 1, 3, .q (xb true))] [] (ob (o_b h1) ob0) (by kernel_rfl))
 ·exact zM (g := zmf) g1 (zqc [(62, 1, 3, .q (xb false))] [] (ob (o_b h1) ob0) (by kernel_rfl))
theorem zxc (k : Nat) (p0 : zm) (p1 p2 : Int) (r : Bool) (h : zLb k p0 p1 p2 = some r) : zV TE (ev TE) 43 [(.agg [(di p0.Low), (di p0.High)]), (di p1), (di p2)] = some (zwd r) := by
 unfold zLb at h
 refine zr h (fun h1 g1 => ?_) (fun h1 g1 => ?_)
 ·refine zr g1 (fun h2 g2 => ?_) (fun h2 g2 => ?_)
  ·exact zM (g := zwd) g2 (zqc [(43, 1, 4, .q (xb true)), (43, 1, 11, .q (xb true))] [] (ob (o_b h1) (ob (o_b h2) ob0)) (by kernel_rfl))
  ·exact zM (g := zwd) g2 (zqc [(43, 1, 4, .q (xb true)), (43, 1, 11, .q (xb false))] [] (ob (o_b h1) (ob (o_b h2) ob0)) (by kernel_rfl))
 ·exact zM (g := zwd) g1 (zqc [(43, 1, 4, .q (xb false))] [] (ob (o_b h1) ob0) (by kernel_rfl))
noncomputable def zbr (p0 : zb) (r : Bool) : TM := [(0, (.d (.agg (za p0)))), (zsp 1), (2, (xb false)), (3, (xb r))]
noncomputable def zwb (p0 : zb) (r : Bool) : St := ⟨(zbr p0 r), ⟨[(zc 1 (za p0))], []⟩, []⟩
theorem zQj (k : Nat) (p0 : zb) (r : Bool) (h : zHc k p0 = some r) : ev TE 37 (rgn TE 37 1) ⟨[(0, (.d (.agg (za p0)))), (zsp 1), (2, (xb false))], ⟨[(zc 1 (za p0))], []⟩, []⟩ = some (.nor, zwb p0 r) := by
 unfold zHc at h
 refine zp h (fun v201 h202 g1 => ?_)
 refine zr g1 (fun h203 g2 => ?_) (fun h203 g2 => ?_)
 ·refine zp g2 (fun v204 h205 g3 => ?_)
  refine zr g3 (fun h206 g4 => ?_) (fun h206 g4 => ?_)
  ·refine zp g4 (fun v207 h208 g5 => ?_)
   refine zr g5 (fun h209 g6 => ?_) (fun h209 g6 => ?_)
   ·refine zr g6 (fun h210 g7 => ?_) (fun h210 g7 => ?_)
    ·refine zr g7 (fun h211 g8 => ?_) (fun h211 g8 => ?_)
     ·exact zJ (g := fun r => (Ex.nor, zwb p0 r)) g8 (zqe [(37, 1, 1, .c (di v201)), (37, 1, 3, .q (xb true)), (37, 1, 6, .c (db v204)), (37, 1, 8, .q (xb true)), (37, 1, 11, .q (xi (p0.Shelves.1.length : Int))), (37, 1, 12, .c (db v207)), (37, 1, 14, .q (xb true)), (37, 1, 17, .q (xi (p0.Moves.1.length : Int))), (37, 1, 20, .q (xb true)), (37, 1, 23, .q (xi (p0.Deliveries.1.length : Int))), (37, 1, 26, .q (xb true)), (37, 1, 29, .q (xi (p0.Counts.1.length : Int)))] [] (ob (zEb k p0 _ h202) (ob (o_b h203) (ob (zP k p0.Days 1 12 _ h205) (ob (o_b h206) (ob (zx zi p0.Shelves.1) (ob (zP k (p0.Shelves.1.length : Int) 1 4 _ h208) (ob (o_b h209) (ob (zx zk p0.Moves.1) (ob (o_b h210) (ob (zx zd p0.Deliveries.1) (ob (o_b h211) (ob (zx zh p0.Counts.1) ob0)))))))))))) (by kernel_rfl))
     ·exact zJ (g := fun r => (Ex.nor, zwb p0 r)) g8 (zqe [(37, 1, 1, .c (di v201)), (37, 1, 3, .q (xb true)), (37, 1, 6, .c (db v204)), (37, 1, 8, .q (xb true)), (37, 1, 11, .q (xi (p0.Shelves.1.length : Int))), (37, 1, 12, .c (db v207)), (37, 1, 14, .q (xb true)), (37, 1, 17, .q (xi (p0.Moves.1.length : Int))), (37, 1, 20, .q (xb true)), (37, 1, 23, .q (xi (p0.Deliveries.1.length : Int))), (37, 1, 26, .q (xb false))] [] (ob (zEb k p0 _ h202) (ob (o_b h203) (ob (zP k p0.Days 1 12 _ h205) (ob (o_b h206) (ob (zx zi p0.Shelves.1) (ob (zP k (p0.Shelves.1.length : Int) 1 4 _ h208) (ob (o_b h209) (ob (zx zk p0.Moves.1) (ob (o_b h210) (ob (zx zd p0.Deliveries.1) (ob (o_b h211) ob0))))))))))) (by kernel_rfl))
    ·exact zJ (g := fun r => (Ex.nor, zwb p0 r)) g7 (zqe [(37, 1, 1, .c (di v201)), (37, 1, 3, .q (xb true)), (37, 1, 6, .c (db v204)), (37, 1, 8, .q (xb true)), (37, 1, 11, .q (xi (p0.Shelves.1.length : Int))), (37, 1, 12, .c (db v207)), (37, 1, 14, .q (xb true)), (37, 1, 17, .q (xi (p0.Moves.1.length : Int))), (37, 1, 20, .q (xb false))] [] (ob (zEb k p0 _ h202) (ob (o_b h203) (ob (zP k p0.Days 1 12 _ h205) (ob (o_b h206) (ob (zx zi p0.Shelves.1) (ob (zP k (p0.Shelves.1.length : Int) 1 4 _ h208) (ob (o_b h209) (ob (zx zk p0.Moves.1) (ob (o_b h210) ob0))))))))) (by kernel_rfl))
   ·exact zJ (g := fun r => (Ex.nor, zwb p0 r)) g6 (zqe [(37, 1, 1, .c (di v201)), (37, 1, 3, .q (xb true)), (37, 1, 6, .c (db v204)), (37, 1, 8, .q (xb true)), (37, 1, 11, .q (xi (p0.Shelves.1.length : Int))), (37, 1, 12, .c (db v207)), (37, 1, 14, .q (xb false))] [] (ob (zEb k p0 _ h202) (ob (o_b h203) (ob (zP k p0.Days 1 12 _ h205) (ob (o_b h206) (ob (zx zi p0.Shelves.1) (ob (zP k (p0.Shelves.1.length : Int) 1 4 _ h208) (ob (o_b h209) ob0))))))) (by kernel_rfl))
  ·exact zJ (g := fun r => (Ex.nor, zwb p0 r)) g4 (zqe [(37, 1, 1, .c (di v201)), (37, 1, 3, .q (xb true)), (37, 1, 6, .c (db v204)), (37, 1, 8, .q (xb false))] [] (ob (zEb k p0 _ h202) (ob (o_b h203) (ob (zP k p0.Days 1 12 _ h205) (ob (o_b h206) ob0)))) (by kernel_rfl))
 ·exact zJ (g := fun r => (Ex.nor, zwb p0 r)) g2 (zqe [(37, 1, 1, .c (di v201)), (37, 1, 3, .q (xb false))] [] (ob (zEb k p0 _ h202) (ob (o_b h203) ob0)) (by kernel_rfl))
noncomputable def z0x (p0 : zb) (s2_6 : Bool) (s2_7 : Int) (r : Bool) : TM := [(0, (.d (.agg (za p0)))), (zsp 1), (2, (xb false)), (3, (xb s2_6)), (4, (xi s2_7)), (50, (xb r))]
noncomputable def zlc (p0 : zb) (s2_6 : Bool) (s2_7 : Int) (r : Bool) : St := ⟨(z0x p0 s2_6 s2_7 r), ⟨[(zc 1 (za p0))], []⟩, []⟩
noncomputable def zau (p0 : zb) (s2_6 : Bool) (s2_7 : Int) : TM := [(0, (.d (.agg (za p0)))), (zsp 1), (2, (xb false)), (3, (xb s2_6)), (4, (xi s2_7))]
theorem z5f (k : Nat) (p0 : zb) (s2_6 : Bool) (s2_7 : Int) (r : Bool) (h : z5b k p0 s2_6 s2_7 = some r) : ev TE 37 (rgn TE 37 3) ⟨(zau p0 s2_6 s2_7), ⟨[(zc 1 (za p0))], []⟩, []⟩ = some (.nor, zlc p0 s2_6 s2_7 r) := by
 unfold z5b at h
 refine zr h (fun h601 g1 => ?_) (fun h601 g1 => ?_)
 ·exact zJ (g := fun r => (Ex.nor, zlc p0 s2_6 s2_7 r)) g1 (zqe [(37, 3, 1, .q (xb true)), (37, 3, 5, .q (xi (p0.Shelves.1.length : Int)))] [] (ob (o_b h601) (ob (zx zi p0.Shelves.1) ob0)) (by kernel_rfl))
 ·exact zJ (g := fun r => (Ex.nor, zlc p0 s2_6 s2_7 r)) g1 (zqe [(37, 3, 1, .q (xb false))] [] (ob (o_b h601) ob0) (by kernel_rfl))
noncomputable def z6c (p0 : zb) (s2_6 : Bool) (s2_7 : Int) (r : Bool) : St := ⟨(zbr p0 r ++ [(4, (xi s2_7)), (50, (xb true))]), ⟨[(zc 1 (za p0))], []⟩, []⟩
theorem zIj (k : Nat) (p0 : zb) (s2_6 : Bool) (s2_7 : Int) (r : Bool) (h : zyd k p0 s2_6 s2_7 = some r) : ev TE 37 (rgn TE 37 5) ⟨(zau p0 s2_6 s2_7 ++ [(50, (xb true))]), ⟨[(zc 1 (za p0))], []⟩, []⟩ = some (.nor, z6c p0 s2_6 s2_7 r) := by
 unfold zyd at h
 refine zp h (fun v701 h702 g1 => ?_)
 refine zp g1 (fun v703 h704 g2 => ?_)
 refine zr g2 (fun h705 g3 => ?_) (fun h705 g3 => ?_)
 ·refine zp g3 (fun v706 h707 g4 => ?_)
  refine zp g4 (fun v708 h709 g5 => ?_)
  refine zp g5 (fun v710 h711 g6 => ?_)
  exact zJ (g := fun r => (Ex.nor, z6c p0 s2_6 s2_7 r)) g6 (zqe [(37, 5, 3, .q (.d (.pin (zi v701)))), (37, 5, 6, .c (db v703)), (37, 5, 7, .q (xb true)), (37, 5, 11, .q (.d (.pin (zi v706)))), (37, 5, 17, .q (.d (.pin (zi v708)))), (37, 5, 20, .c (db v710))] [] (ob (o_ia (e := zi) 3 h702 rfl) (ob (zP k v701.Room 1 60 _ h704) (ob (o_b h705) (ob (o_ia (e := zi) 3 h707 rfl) (ob (o_ia (e := zi) 3 h709 rfl) (ob (zxc k v706.Begin 0 v708.Room _ h711) ob0)))))) (by kernel_rfl))
 ·exact zJ (g := fun r => (Ex.nor, z6c p0 s2_6 s2_7 r)) g3 (zqe [(37, 5, 3, .q (.d (.pin (zi v701)))), (37, 5, 6, .c (db v703)), (37, 5, 7, .q (xb false))] [] (ob (o_ia (e := zi) 3 h702 rfl) (ob (zP k v701.Room 1 60 _ h704) (ob (o_b h705) ob0))) (by kernel_rfl))
noncomputable def z9j (p0 : zb) (s2_6 : Bool) (s2_7 : Int) : St := ⟨(zau p0 s2_6 s2_7), ⟨[(zc 1 (za p0))], []⟩, []⟩
noncomputable def zDx (p0 : zb) (r : zt1) : TM := [(0, (.d (.agg (za p0)))), (zsp 1), (2, (xb false)), (3, (xb r.1)), (4, (xi r.2)), (50, (xb false))]
noncomputable def zbe (p0 : zb) (r : zt1) : St := ⟨(zDx p0 r), ⟨[(zc 1 (za p0))], []⟩, []⟩
noncomputable def zfk (p0 : zb) : (Bool × Int) → Ex × St := fun r => ((.exit 0), zbe p0 r)
theorem zLj (k : Nat) (p0 : zb) (s2_6 : Bool) (s2_7 : Int) (x : (Bool × Int) ⊕ (Bool × Int)) (h : z6b k p0 s2_6 s2_7 = some x) : z7 TE 37 (blk TE 37 0) (fun s : (Bool × Int) => z9j p0 s.1 s.2) (zfk p0) (s2_6, s2_7) x := by
 unfold z6b at h
 refine zp h (fun v501 h502 g1 => ?_)
 refine zr g1 (fun h503 g2 => ?_) (fun h503 g2 => ?_)
 ·subst h503
  refine zp g2 (fun v504 h505 g3 => ?_)
  exact zqn (v504, (w64 (s2_7 + 1))) [] [] [(37, 1000003, (.nor, zlc p0 s2_6 s2_7 true)), (37, 1000005, (.nor, z6c p0 s2_6 s2_7 v504))] g3 (ob (z5f k p0 s2_6 s2_7 _ h502) (ob (zIj k p0 s2_6 s2_7 _ h505) ob0)) (by kernel_rfl)
 ·subst h503
  exact zqo [] [(37, 1000003, (.nor, zlc p0 s2_6 s2_7 false))] g2 (ob (z5f k p0 s2_6 s2_7 _ h502) ob0) (by kernel_rfl)
noncomputable def z4x (p0 : zb) (s7_6 : Bool) (v3 : zt1) (s7_9 : Int) (r : Bool) : TM := [(0, (.d (.agg (za p0)))), (zsp 1), (2, (xb false)), (3, (xb s7_6)), (4, (xi v3.2)), (50, (xb false)), (5, (xi s7_9)), (82, (xb r))]
noncomputable def zcc (p0 : zb) (v3 : zt1) (s7_6 : Bool) (s7_9 : Int) (r : Bool) : St := ⟨(z4x p0 s7_6 v3 s7_9 r), ⟨[(zc 1 (za p0))], []⟩, []⟩
noncomputable def zuu (p0 : zb) (s7_6 : Bool) (v3 : zt1) (s7_9 : Int) : TM := [(0, (.d (.agg (za p0)))), (zsp 1), (2, (xb false)), (3, (xb s7_6)), (4, (xi v3.2)), (50, (xb false)), (5, (xi s7_9))]
theorem zQf (k : Nat) (p0 : zb) (v3 : zt1) (s7_6 : Bool) (s7_9 : Int) (r : Bool) (h : z0b k p0 v3 s7_6 s7_9 = some r) : ev TE 37 (rgn TE 37 7) ⟨(zuu p0 s7_6 v3 s7_9), ⟨[(zc 1 (za p0))], []⟩, []⟩ = some (.nor, zcc p0 v3 s7_6 s7_9 r) := by
 unfold z0b at h
 refine zr h (fun h1101 g1 => ?_) (fun h1101 g1 => ?_)
 ·exact zJ (g := fun r => (Ex.nor, zcc p0 v3 s7_6 s7_9 r)) g1 (zqe [(37, 7, 1, .q (xb true)), (37, 7, 5, .q (xi (p0.Moves.1.length : Int)))] [] (ob (o_b h1101) (ob (zx zk p0.Moves.1) ob0)) (by kernel_rfl))
 ·exact zJ (g := fun r => (Ex.nor, zcc p0 v3 s7_6 s7_9 r)) g1 (zqe [(37, 7, 1, .q (xb false))] [] (ob (o_b h1101) ob0) (by kernel_rfl))
noncomputable def zZx (p0 : zb) (r : Bool) (v3 : zt1) (s7_9 : Int) : TM := zbr p0 r ++ [(4, (xi v3.2)), (50, (xb false)), (5, (xi s7_9)), (82, (xb true)), (zsp 6)]
noncomputable def zdc (p0 : zb) (v3 : zt1) (s7_6 : Bool) (s7_9 : Int) (v1004 : zq) (r : Bool) : St := ⟨(zZx p0 r v3 s7_9), ⟨[(zc 1 (za p0)), (zc 6 (zk v1004))], []⟩, []⟩
theorem zgj (k : Nat) (p0 : zb) (v3 : zt1) (s7_6 : Bool) (s7_9 : Int) (v1004 : zq) (r : Bool) (h : zbd k p0 v3 s7_6 s7_9 v1004 = some r) : ev TE 37 (rgn TE 37 10) ⟨(zuu p0 s7_6 v3 s7_9 ++ [(82, (xb true)), (zsp 6)]), ⟨[(zc 1 (za p0)), (zc 6 (zk v1004))], []⟩, []⟩ = some (.nor, zdc p0 v3 s7_6 s7_9 v1004 r) := by
 unfold zbd at h
 refine zp h (fun v1201 h1202 g1 => ?_)
 refine zr g1 (fun h1203 g2 => ?_) (fun h1203 g2 => ?_)
 ·refine zp g2 (fun v1204 h1205 g3 => ?_)
  refine zr g3 (fun h1206 g4 => ?_) (fun h1206 g4 => ?_)
  ·refine zp g4 (fun v1207 h1208 g5 => ?_)
   exact zJ (g := fun r => (Ex.nor, zdc p0 v3 s7_6 s7_9 v1004 r)) g5 (zqe [(37, 10, 5, .c (db v1201)), (37, 10, 6, .q (xb true)), (37, 10, 11, .q (xi (p0.Shelves.1.length : Int))), (37, 10, 13, .c (db v1204)), (37, 10, 15, .q (xb true)), (37, 10, 18, .c (db v1207))] [] (ob (zP k v1004.Day 0 (w64 (p0.Days - 1)) _ h1202) (ob (o_b h1203) (ob (zx zi p0.Shelves.1) (ob (zP k v1004.Shelf 0 (w64 ((p0.Shelves.1.length : Int) - 1)) _ h1205) (ob (o_b h1206) (ob (zxc k v1004.By 0 60 _ h1208) ob0)))))) (by kernel_rfl))
  ·exact zJ (g := fun r => (Ex.nor, zdc p0 v3 s7_6 s7_9 v1004 r)) g4 (zqe [(37, 10, 5, .c (db v1201)), (37, 10, 6, .q (xb true)), (37, 10, 11, .q (xi (p0.Shelves.1.length : Int))), (37, 10, 13, .c (db v1204)), (37, 10, 15, .q (xb false))] [] (ob (zP k v1004.Day 0 (w64 (p0.Days - 1)) _ h1202) (ob (o_b h1203) (ob (zx zi p0.Shelves.1) (ob (zP k v1004.Shelf 0 (w64 ((p0.Shelves.1.length : Int) - 1)) _ h1205) (ob (o_b h1206) ob0))))) (by kernel_rfl))
 ·exact zJ (g := fun r => (Ex.nor, zdc p0 v3 s7_6 s7_9 v1004 r)) g2 (zqe [(37, 10, 5, .c (db v1201)), (37, 10, 6, .q (xb false))] [] (ob (zP k v1004.Day 0 (w64 (p0.Days - 1)) _ h1202) (ob (o_b h1203) ob0)) (by kernel_rfl))
noncomputable def zmk (p0 : zb) (v3 : zt1) (s7_6 : Bool) (s7_9 : Int) : St := ⟨(zuu p0 s7_6 v3 s7_9), ⟨[(zc 1 (za p0))], []⟩, []⟩
noncomputable def ziy (p0 : zb) (r v3 : zt1) : TM := [(0, (.d (.agg (za p0)))), (zsp 1), (2, (xb false)), (3, (xb r.1)), (4, (xi v3.2)), (50, (xb false)), (5, (xi r.2)), (82, (xb false))]
noncomputable def zde (p0 : zb) (v3 r : zt1) : St := ⟨(ziy p0 r v3), ⟨[(zc 1 (za p0))], []⟩, []⟩
noncomputable def zpk (p0 : zb) (v3 : zt1) : (Bool × Int) → Ex × St := fun r => ((.exit 2), zde p0 v3 r)
theorem zWj (k : Nat) (p0 : zb) (v3 : zt1) (s7_6 : Bool) (s7_9 : Int) (x : (Bool × Int) ⊕ (Bool × Int)) (h : z7b k p0 v3 s7_6 s7_9 = some x) : z7 TE 37 (blk TE 37 2) (fun s : (Bool × Int) => zmk p0 v3 s.1 s.2) (zpk p0 v3) (s7_6, s7_9) x := by
 unfold z7b at h
 refine zp h (fun v1001 h1002 g1 => ?_)
 refine zr g1 (fun h1003 g2 => ?_) (fun h1003 g2 => ?_)
 ·subst h1003
  refine zp g2 (fun v1004 h1005 g3 => ?_)
  refine zp g3 (fun v1006 h1007 g4 => ?_)
  exact zqn (v1006, (w64 (s7_9 + 1))) [] [(37, 9, 3, .q (.d (.pin (zk v1004))))] [(37, 1000007, (.nor, zcc p0 v3 s7_6 s7_9 true)), (37, 1000010, (.nor, zdc p0 v3 s7_6 s7_9 v1004 v1006))] g4 (ob (zQf k p0 v3 s7_6 s7_9 _ h1002) (ob (o_ia (e := zk) 5 h1005 rfl) (ob (zgj k p0 v3 s7_6 s7_9 v1004 _ h1007) ob0))) (by kernel_rfl)
 ·subst h1003
  exact zqo [] [(37, 1000007, (.nor, zcc p0 v3 s7_6 s7_9 false))] g2 (ob (zQf k p0 v3 s7_6 s7_9 _ h1002) ob0) (by kernel_rfl)
noncomputable def zTx (p0 : zb) (s12_6 : Bool) (v3 v5 : zt1) (s12_11 : Int) (r : Bool) : TM := [(0, (.d (.agg (za p0)))), (zsp 1), (2, (xb false)), (3, (xb s12_6)), (4, (xi v3.2)), (50, (xb false)), (5, (xi v5.2)), (82, (xb false)), (7, (xi s12_11)), (117, (xb r))]
noncomputable def z9b (p0 : zb) (v3 v5 : zt1) (s12_6 : Bool) (s12_11 : Int) (r : Bool) : St := ⟨(zTx p0 s12_6 v3 v5 s12_11 r), ⟨[(zc 1 (za p0))], []⟩, []⟩
noncomputable def zUu (p0 : zb) (s12_6 : Bool) (v3 v5 : zt1) (s12_11 : Int) : TM := [(0, (.d (.agg (za p0)))), (zsp 1), (2, (xb false)), (3, (xb s12_6)), (4, (xi v3.2)), (50, (xb false)), (5, (xi v5.2)), (82, (xb false)), (7, (xi s12_11))]
theorem zVf (k : Nat) (p0 : zb) (v3 v5 : zt1) (s12_6 : Bool) (s12_11 : Int) (r : Bool) (h : z1b k p0 v3 v5 s12_6 s12_11 = some r) : ev TE 37 (rgn TE 37 12) ⟨(zUu p0 s12_6 v3 v5 s12_11), ⟨[(zc 1 (za p0))], []⟩, []⟩ = some (.nor, z9b p0 v3 v5 s12_6 s12_11 r) := by
 unfold z1b at h
 refine zr h (fun h1601 g1 => ?_) (fun h1601 g1 => ?_)
 ·exact zJ (g := fun r => (Ex.nor, z9b p0 v3 v5 s12_6 s12_11 r)) g1 (zqe [(37, 12, 1, .q (xb true)), (37, 12, 5, .q (xi (p0.Deliveries.1.length : Int)))] [] (ob (o_b h1601) (ob (zx zd p0.Deliveries.1) ob0)) (by kernel_rfl))
 ·exact zJ (g := fun r => (Ex.nor, z9b p0 v3 v5 s12_6 s12_11 r)) g1 (zqe [(37, 12, 1, .q (xb false))] [] (ob (o_b h1601) ob0) (by kernel_rfl))
noncomputable def zFx (p0 : zb) (r : Bool) (v3 v5 : zt1) (s12_11 : Int) : TM := zbr p0 r ++ [(4, (xi v3.2)), (50, (xb false)), (5, (xi v5.2)), (82, (xb false)), (7, (xi s12_11)), (117, (xb true)), (zsp 8)]
noncomputable def zac (p0 : zb) (v3 v5 : zt1) (s12_6 : Bool) (s12_11 : Int) (v1504 : zn) (r : Bool) : St := ⟨(zFx p0 r v3 v5 s12_11), ⟨[(zc 1 (za p0)), (zc 8 (zd v1504))], []⟩, []⟩
theorem zkj (k : Nat) (p0 : zb) (v3 v5 : zt1) (s12_6 : Bool) (s12_11 : Int) (v1504 : zn) (r : Bool) (h : zed k p0 v3 v5 s12_6 s12_11 v1504 = some r) : ev TE 37 (rgn TE 37 15) ⟨(zUu p0 s12_6 v3 v5 s12_11 ++ [(117, (xb true)), (zsp 8)]), ⟨[(zc 1 (za p0)), (zc 8 (zd v1504))], []⟩, []⟩ = some (.nor, zac p0 v3 v5 s12_6 s12_11 v1504 r) := by
 unfold zed at h
 refine zp h (fun v1701 h1702 g1 => ?_)
 refine zr g1 (fun h1703 g2 => ?_) (fun h1703 g2 => ?_)
 ·refine zp g2 (fun v1704 h1705 g3 => ?_)
  refine zr g3 (fun h1706 g4 => ?_) (fun h1706 g4 => ?_)
  ·refine zp g4 (fun v1707 h1708 g5 => ?_)
   exact zJ (g := fun r => (Ex.nor, zac p0 v3 v5 s12_6 s12_11 v1504 r)) g5 (zqe [(37, 15, 4, .q (xi (p0.Shelves.1.length : Int))), (37, 15, 6, .c (db v1701)), (37, 15, 7, .q (xb true)), (37, 15, 13, .c (db v1704)), (37, 15, 15, .q (xb true)), (37, 15, 18, .c (db v1707))] [] (ob (zx zi p0.Shelves.1) (ob (zP k v1504.Shelf 0 (w64 ((p0.Shelves.1.length : Int) - 1)) _ h1702) (ob (o_b h1703) (ob (zxc k v1504.Days 0 (w64 (p0.Days - 1)) _ h1705) (ob (o_b h1706) (ob (zxc k v1504.By 0 60 _ h1708) ob0)))))) (by kernel_rfl))
  ·exact zJ (g := fun r => (Ex.nor, zac p0 v3 v5 s12_6 s12_11 v1504 r)) g4 (zqe [(37, 15, 4, .q (xi (p0.Shelves.1.length : Int))), (37, 15, 6, .c (db v1701)), (37, 15, 7, .q (xb true)), (37, 15, 13, .c (db v1704)), (37, 15, 15, .q (xb false))] [] (ob (zx zi p0.Shelves.1) (ob (zP k v1504.Shelf 0 (w64 ((p0.Shelves.1.length : Int) - 1)) _ h1702) (ob (o_b h1703) (ob (zxc k v1504.Days 0 (w64 (p0.Days - 1)) _ h1705) (ob (o_b h1706) ob0))))) (by kernel_rfl))
 ·exact zJ (g := fun r => (Ex.nor, zac p0 v3 v5 s12_6 s12_11 v1504 r)) g2 (zqe [(37, 15, 4, .q (xi (p0.Shelves.1.length : Int))), (37, 15, 6, .c (db v1701)), (37, 15, 7, .q (xb false))] [] (ob (zx zi p0.Shelves.1) (ob (zP k v1504.Shelf 0 (w64 ((p0.Shelves.1.length : Int) - 1)) _ h1702) (ob (o_b h1703) ob0))) (by kernel_rfl))
noncomputable def z0j (p0 : zb) (v3 v5 : zt1) (s12_6 : Bool) (s12_11 : Int) : St := ⟨(zUu p0 s12_6 v3 v5 s12_11), ⟨[(zc 1 (za p0))], []⟩, []⟩
noncomputable def zqy (p0 : zb) (r v3 v5 : zt1) : TM := [(0, (.d (.agg (za p0)))), (zsp 1), (2, (xb false)), (3, (xb r.1)), (4, (xi v3.2)), (50, (xb false)), (5, (xi v5.2)), (82, (xb false)), (7, (xi r.2)), (117, (xb false))]
noncomputable def zSd (p0 : zb) (v3 v5 r : zt1) : St := ⟨(zqy p0 r v3 v5), ⟨[(zc 1 (za p0))], []⟩, []⟩
noncomputable def zXj (p0 : zb) (v3 v5 : zt1) : (Bool × Int) → Ex × St := fun r => ((.exit 4), zSd p0 v3 v5 r)
theorem zej (k : Nat) (p0 : zb) (v3 v5 : zt1) (s12_6 : Bool) (s12_11 : Int) (x : (Bool × Int) ⊕ (Bool × Int)) (h : z2b k p0 v3 v5 s12_6 s12_11 = some x) : z7 TE 37 (blk TE 37 4) (fun s : (Bool × Int) => z0j p0 v3 v5 s.1 s.2) (zXj p0 v3 v5) (s12_6, s12_11) x := by
 unfold z2b at h
 refine zp h (fun v1501 h1502 g1 => ?_)
 refine zr g1 (fun h1503 g2 => ?_) (fun h1503 g2 => ?_)
 ·subst h1503
  refine zp g2 (fun v1504 h1505 g3 => ?_)
  refine zp g3 (fun v1506 h1507 g4 => ?_)
  exact zqn (v1506, (w64 (s12_11 + 1))) [] [(37, 14, 3, .q (.d (.pin (zd v1504))))] [(37, 1000012, (.nor, z9b p0 v3 v5 s12_6 s12_11 true)), (37, 1000015, (.nor, zac p0 v3 v5 s12_6 s12_11 v1504 v1506))] g4 (ob (zVf k p0 v3 v5 s12_6 s12_11 _ h1502) (ob (o_ia (e := zd) 5 h1505 rfl) (ob (zkj k p0 v3 v5 s12_6 s12_11 v1504 _ h1507) ob0))) (by kernel_rfl)
 ·subst h1503
  exact zqo [] [(37, 1000012, (.nor, z9b p0 v3 v5 s12_6 s12_11 false))] g2 (ob (zVf k p0 v3 v5 s12_6 s12_11 _ h1502) ob0) (by kernel_rfl)
noncomputable def zey (p0 : zb) (s17_6 : Bool) (v3 v5 v7 : zt1) (s17_13 : Int) (r : Bool) : TM := [(0, (.d (.agg (za p0)))), (zsp 1), (2, (xb false)), (3, (xb s17_6)), (4, (xi v3.2)), (50, (xb false)), (5, (xi v5.2)), (82, (xb false)), (7, (xi v7.2)), (117, (xb false)), (9, (xi s17_13)), (152, (xb r))]
noncomputable def zec (p0 : zb) (v3 v5 v7 : zt1) (s17_6 : Bool) (s17_13 : Int) (r : Bool) : St := ⟨(zey p0 s17_6 v3 v5 v7 s17_13 r), ⟨[(zc 1 (za p0))], []⟩, []⟩
noncomputable def zou (p0 : zb) (s17_6 : Bool) (v3 v5 v7 : zt1) (s17_13 : Int) : TM := [(0, (.d (.agg (za p0)))), (zsp 1), (2, (xb false)), (3, (xb s17_6)), (4, (xi v3.2)), (50, (xb false)), (5, (xi v5.2)), (82, (xb false)), (7, (xi v7.2)), (117, (xb false)), (9, (xi s17_13))]
theorem zRf (k : Nat) (p0 : zb) (v3 v5 v7 : zt1) (s17_6 : Bool) (s17_13 : Int) (r : Bool) (h : z3b k p0 v3 v5 v7 s17_6 s17_13 = some r) : ev TE 37 (rgn TE 37 17) ⟨(zou p0 s17_6 v3 v5 v7 s17_13), ⟨[(zc 1 (za p0))], []⟩, []⟩ = some (.nor, zec p0 v3 v5 v7 s17_6 s17_13 r) := by
 unfold z3b at h
 refine zr h (fun h2101 g1 => ?_) (fun h2101 g1 => ?_)
 ·exact zJ (g := fun r => (Ex.nor, zec p0 v3 v5 v7 s17_6 s17_13 r)) g1 (zqe [(37, 17, 1, .q (xb true)), (37, 17, 5, .q (xi (p0.Counts.1.length : Int)))] [] (ob (o_b h2101) (ob (zx zh p0.Counts.1) ob0)) (by kernel_rfl))
 ·exact zJ (g := fun r => (Ex.nor, zec p0 v3 v5 v7 s17_6 s17_13 r)) g1 (zqe [(37, 17, 1, .q (xb false))] [] (ob (o_b h2101) ob0) (by kernel_rfl))
noncomputable def zCy (p0 : zb) (r : Bool) (v3 v5 v7 : zt1) (s17_13 : Int) : TM := zbr p0 r ++ [(4, (xi v3.2)), (50, (xb false)), (5, (xi v5.2)), (82, (xb false)), (7, (xi v7.2)), (117, (xb false)), (9, (xi s17_13)), (152, (xb true)), (zsp 10)]
noncomputable def zOb (p0 : zb) (v3 v5 v7 : zt1) (s17_6 : Bool) (s17_13 : Int) (v2004 : zo) (r : Bool) : St := ⟨(zCy p0 r v3 v5 v7 s17_13), ⟨[(zc 1 (za p0)), (zc 10 (zh v2004))], []⟩, []⟩
theorem zmj (k : Nat) (p0 : zb) (v3 v5 v7 : zt1) (s17_6 : Bool) (s17_13 : Int) (v2004 : zo) (r : Bool) (h : zhd k p0 v3 v5 v7 s17_6 s17_13 v2004 = some r) : ev TE 37 (rgn TE 37 20) ⟨(zou p0 s17_6 v3 v5 v7 s17_13 ++ [(152, (xb true)), (zsp 10)]), ⟨[(zc 1 (za p0)), (zc 10 (zh v2004))], []⟩, []⟩ = some (.nor, zOb p0 v3 v5 v7 s17_6 s17_13 v2004 r) := by
 unfold zhd at h
 refine zp h (fun v2201 h2202 g1 => ?_)
 refine zr g1 (fun h2203 g2 => ?_) (fun h2203 g2 => ?_)
 ·refine zp g2 (fun v2204 h2205 g3 => ?_)
  refine zr g3 (fun h2206 g4 => ?_) (fun h2206 g4 => ?_)
  ·refine zp g4 (fun v2207 h2208 g5 => ?_)
   refine zr g5 (fun h2209 g6 => ?_) (fun h2209 g6 => ?_)
   ·refine zp g6 (fun v2210 h2211 g7 => ?_)
    exact zJ (g := fun r => (Ex.nor, zOb p0 v3 v5 v7 s17_6 s17_13 v2004 r)) g7 (zqe [(37, 20, 5, .c (db v2201)), (37, 20, 6, .q (xb true)), (37, 20, 11, .q (xi (p0.Shelves.1.length : Int))), (37, 20, 13, .c (db v2204)), (37, 20, 15, .q (xb true)), (37, 20, 18, .c (db v2207)), (37, 20, 20, .q (xb true)), (37, 20, 23, .c (db v2210))] [] (ob (zP k v2004.Day 0 (w64 (p0.Days - 1)) _ h2202) (ob (o_b h2203) (ob (zx zi p0.Shelves.1) (ob (zP k v2004.Shelf 0 (w64 ((p0.Shelves.1.length : Int) - 1)) _ h2205) (ob (o_b h2206) (ob (zP k v2004.Read 0 60 _ h2208) (ob (o_b h2209) (ob (zP k v2004.Err 0 20 _ h2211) ob0)))))))) (by kernel_rfl))
   ·exact zJ (g := fun r => (Ex.nor, zOb p0 v3 v5 v7 s17_6 s17_13 v2004 r)) g6 (zqe [(37, 20, 5, .c (db v2201)), (37, 20, 6, .q (xb true)), (37, 20, 11, .q (xi (p0.Shelves.1.length : Int))), (37, 20, 13, .c (db v2204)), (37, 20, 15, .q (xb true)), (37, 20, 18, .c (db v2207)), (37, 20, 20, .q (xb false))] [] (ob (zP k v2004.Day 0 (w64 (p0.Days - 1)) _ h2202) (ob (o_b h2203) (ob (zx zi p0.Shelves.1) (ob (zP k v2004.Shelf 0 (w64 ((p0.Shelves.1.length : Int) - 1)) _ h2205) (ob (o_b h2206) (ob (zP k v2004.Read 0 60 _ h2208) (ob (o_b h2209) ob0))))))) (by kernel_rfl))
  ·exact zJ (g := fun r => (Ex.nor, zOb p0 v3 v5 v7 s17_6 s17_13 v2004 r)) g4 (zqe [(37, 20, 5, .c (db v2201)), (37, 20, 6, .q (xb true)), (37, 20, 11, .q (xi (p0.Shelves.1.length : Int))), (37, 20, 13, .c (db v2204)), (37, 20, 15, .q (xb false))] [] (ob (zP k v2004.Day 0 (w64 (p0.Days - 1)) _ h2202) (ob (o_b h2203) (ob (zx zi p0.Shelves.1) (ob (zP k v2004.Shelf 0 (w64 ((p0.Shelves.1.length : Int) - 1)) _ h2205) (ob (o_b h2206) ob0))))) (by kernel_rfl))
 ·exact zJ (g := fun r => (Ex.nor, zOb p0 v3 v5 v7 s17_6 s17_13 v2004 r)) g2 (zqe [(37, 20, 5, .c (db v2201)), (37, 20, 6, .q (xb false))] [] (ob (zP k v2004.Day 0 (w64 (p0.Days - 1)) _ h2202) (ob (o_b h2203) ob0)) (by kernel_rfl))
noncomputable def zMj (p0 : zb) (v3 v5 v7 : zt1) (s17_6 : Bool) (s17_13 : Int) : St := ⟨(zou p0 s17_6 v3 v5 v7 s17_13), ⟨[(zc 1 (za p0))], []⟩, []⟩
noncomputable def zly (p0 : zb) (r v3 v5 v7 : zt1) : TM := [(0, (.d (.agg (za p0)))), (zsp 1), (2, (xb false)), (3, (xb r.1)), (4, (xi v3.2)), (50, (xb false)), (5, (xi v5.2)), (82, (xb false)), (7, (xi v7.2)), (117, (xb false)), (9, (xi r.2)), (152, (xb false))]
noncomputable def zTd (p0 : zb) (v3 v5 v7 r : zt1) : St := ⟨(zly p0 r v3 v5 v7), ⟨[(zc 1 (za p0))], []⟩, []⟩
noncomputable def zVj (p0 : zb) (v3 v5 v7 : zt1) : (Bool × Int) → Ex × St := fun r => ((.exit 6), zTd p0 v3 v5 v7 r)
theorem zfj (k : Nat) (p0 : zb) (v3 v5 v7 : zt1) (s17_6 : Bool) (s17_13 : Int) (x : (Bool × Int) ⊕ (Bool × Int)) (h : zZb k p0 v3 v5 v7 s17_6 s17_13 = some x) : z7 TE 37 (blk TE 37 6) (fun s : (Bool × Int) => zMj p0 v3 v5 v7 s.1 s.2) (zVj p0 v3 v5 v7) (s17_6, s17_13) x := by
 unfold zZb at h
 refine zp h (fun v2001 h2002 g1 => ?_)
 refine zr g1 (fun h2003 g2 => ?_) (fun h2003 g2 => ?_)
 ·subst h2003
  refine zp g2 (fun v2004 h2005 g3 => ?_)
  refine zp g3 (fun v2006 h2007 g4 => ?_)
  exact zqn (v2006, (w64 (s17_13 + 1))) [] [(37, 19, 3, .q (.d (.pin (zh v2004))))] [(37, 1000017, (.nor, zec p0 v3 v5 v7 s17_6 s17_13 true)), (37, 1000020, (.nor, zOb p0 v3 v5 v7 s17_6 s17_13 v2004 v2006))] g4 (ob (zRf k p0 v3 v5 v7 s17_6 s17_13 _ h2002) (ob (o_ia (e := zh) 4 h2005 rfl) (ob (zmj k p0 v3 v5 v7 s17_6 s17_13 v2004 _ h2007) ob0))) (by kernel_rfl)
 ·subst h2003
  exact zqo [] [(37, 1000017, (.nor, zec p0 v3 v5 v7 s17_6 s17_13 false))] g2 (ob (zRf k p0 v3 v5 v7 s17_6 s17_13 _ h2002) ob0) (by kernel_rfl)
theorem zD (k : Nat) (p0 : zb) (r : Bool) (h : zmd k p0 = some r) : zV TE (ev TE) 37 [(.agg (za p0))] = some (zwh r) := by
 unfold zmd at h
 refine zp h (fun v1 h2 g1 => ?_)
 refine zp g1 (fun v3 h4 g2 => ?_)
 refine zp g2 (fun v5 h6 g3 => ?_)
 refine zp g3 (fun v7 h8 g4 => ?_)
 refine zp g4 (fun v9 h10 g5 => ?_)
 exact zM (g := zwh) g5 (zqc [] [(37, 1000001, (.nor, zwb p0 v1)), (37, 0, (.nor, zbe p0 v3)), (37, 2, (.nor, zde p0 v3 v5)), (37, 4, (.nor, zSd p0 v3 v5 v7)), (37, 6, (.nor, zTd p0 v3 v5 v7 v9))] (ob (zQj k p0 _ h2) (ob (zR (id := 0) (r' := (.nor, zbe p0 v3)) (z4b (zLj k p0) k _ _ h4) rfl) (ob (zR (id := 2) (r' := (.nor, zde p0 v3 v5)) (z4b (zWj k p0 v3) k _ _ h6) rfl) (ob (zR (id := 4) (r' := (.nor, zSd p0 v3 v5 v7)) (z4b (zej k p0 v3 v5) k _ _ h8) rfl) (ob (zR (id := 6) (r' := (.nor, zTd p0 v3 v5 v7 v9)) (z4b (zfj k p0 v3 v5 v7) k _ _ h10) rfl) ob0))))) (by kernel_rfl))
theorem zO (k : Nat) (p0 p1 : Int) (r : zm) (h : zib k p0 p1 = some r) : zV TE (ev TE) 42 [(di p0), (di p1)] = some (zJi r) := by
 unfold zib at h
 exact zM (g := zJi) h (zqc [] [] ob0 (by kernel_rfl))
theorem zX (k : Nat) (p0 p1 p2 p3 : Int) (r : zo) (h : zEc k p0 p1 p2 p3 = some r) : zV TE (ev TE) 44 [(di p0), (di p1), (di p2), (di p3)] = some (zph r) := by
 unfold zEc at h
 exact zM (g := zph) h (zqc [] [] ob0 (by kernel_rfl))
theorem zw (k : Nat) (p0 : (SL zo)) (r : zb) (h : zCb k p0 = some r) : zV TE (ev TE) 50 [(dl zh p0.1 p0.2)] = some (zHh r) := by
 unfold zCb at h
 refine zp h (fun v1 h2 g1 => ?_)
 refine zp g1 (fun v3 h4 g2 => ?_)
 refine zp g2 (fun v5 h6 g3 => ?_)
 refine zp g3 (fun v7 h8 g4 => ?_)
 refine zp g4 (fun v9 h10 g5 => ?_)
 refine zp g5 (fun v11 h12 g6 => ?_)
 refine zp g6 (fun v13 h14 g7 => ?_)
 refine zp g7 (fun v15 h16 g8 => ?_)
 refine zp g8 (fun v17 h18 g9 => ?_)
 refine zp g9 (fun v19 h20 g10 => ?_)
 refine z8 g10 (fun h21 g11 => ?_)
 exact zM (g := zHh) g11 (zqc [(50, 1, 0, .c (.agg [(di v1.Low), (di v1.High)])), (50, 1, 2, .c (.agg [(di v3.Low), (di v3.High)])), (50, 1, 5, .c (.agg [(di v5.Low), (di v5.High)])), (50, 1, 7, .c (.agg [(di v7.Low), (di v7.High)])), (50, 1, 9, .c (.agg [(di v9.Low), (di v9.High)])), (50, 1, 11, .c (.agg [(di v11.Low), (di v11.High)])), (50, 1, 14, .c (.agg [(di v13.Low), (di v13.High)])), (50, 1, 15, .c (.agg [(di v15.Low), (di v15.High)])), (50, 1, 18, .c (.agg (zh v17))), (50, 1, 19, .c (.agg (zh v19))), (50, 2, 3, .q (.d (dl zh (([v17, v19] : List zo) ++ p0.1) (cond p0.1.isEmpty .ex .ro))))] [] (ob (zO k 10 12 _ h2) (ob (zO k 5 5 _ h4) (ob (zO k 3 4 _ h6) (ob (zO k 5 8 _ h8) (ob (zO k 0 2 _ h10) (ob (zO k 2 2 _ h12) (ob (zO k 1 3 _ h14) (ob (zO k 10 10 _ h16) (ob (zX k 2 0 12 2 _ h18) (ob (zX k 1 1 3 0 _ h20) (ob (zgw (P := TE.P) (φ := fun _ _ => none) (T := 25) (q := (4, [(di 0), (di 0), (di 0), (di 0)])) (c := .ex) (c' := p0.2) (e := zh) ([v17, v19] : List zo) p0.1 (by kernel_rfl) (fun _ => rfl) rfl h21) ob0))))))))))) (by kernel_rfl))
theorem z5c (k : Nat) (p0 : zb) (p1 p2 : Int) (r : Bool) (h : zve k p0 p1 p2 = some r) : zV TE (ev TE) 52 [(.agg (za p0)), (di p1), (di p2)] = some (zji r) := by
 unfold zve at h
 refine zp h (fun v1 h2 g1 => ?_)
 refine zr g1 (fun h3 g2 => ?_) (fun h3 g2 => ?_)
 ·refine zp g2 (fun v4 h5 g3 => ?_)
  exact zM (g := zji) g3 (zqc [(52, 1, 3, .q (xi (p0.Shelves.1.length : Int))), (52, 1, 5, .c (db v1)), (52, 1, 6, .q (xb true)), (52, 1, 11, .c (db v4))] [] (ob (zx zi p0.Shelves.1) (ob (zN k p1 0 (w64 ((p0.Shelves.1.length : Int) - 1)) _ h2) (ob (o_b h3) (ob (zN k p2 0 (w64 (p0.Days - 1)) _ h5) ob0)))) (by kernel_rfl))
 ·exact zM (g := zji) g2 (zqc [(52, 1, 3, .q (xi (p0.Shelves.1.length : Int))), (52, 1, 5, .c (db v1)), (52, 1, 6, .q (xb false))] [] (ob (zx zi p0.Shelves.1) (ob (zN k p1 0 (w64 ((p0.Shelves.1.length : Int) - 1)) _ h2) (ob (o_b h3) ob0))) (by kernel_rfl))
noncomputable def zNx (p0 : zl) (s1_7 : Int) : TM := [(0, (.d (.agg (zu p0)))), (zsp 1), (zsp 2), (zsp 3), (4, (xi s1_7))]
noncomputable def zYl (p0 : zl) (s1_7 : Int) (s1_16 : zt0) : St := ⟨(zNx p0 s1_7), ⟨[(zc 1 (zu p0)), (zc 2 (aB 61 (fun _ => false))), (zc 3 (aB 61 s1_16))], []⟩, []⟩
noncomputable def zmy (p0 : zl) (r : zt8) : TM := [(0, (.d (.agg (zu p0)))), (zsp 1), (zsp 2), (zsp 3), (4, (xi r.1)), (24, (xb false))]
noncomputable def z5e (p0 : zl) (r : zt8) : St := ⟨(zmy p0 r), ⟨[(zc 1 (zu p0)), (zc 2 (aB 61 (fun _ => false))), (zc 3 (aB 61 r.2))], []⟩, []⟩
noncomputable def zhm (p0 : zl) : (Int × (Nat → Bool)) → Ex × St := fun r => ((.exit 0), z5e p0 r)
theorem zjl (k : Nat) (p0 : zl) (s1_7 : Int) (s1_16 : zt0) (x : (Int × (Nat → Bool)) ⊕ (Int × (Nat → Bool))) (h : zid k p0 s1_7 s1_16 = some x) : z7 TE 90 (blk TE 90 0) (fun s : (Int × (Nat → Bool)) => zYl p0 s.1 s.2) (zhm p0) (s1_7, s1_16) x := by
 unfold zid at h
 refine zp h (fun v201 h202 g1 => ?_)
 refine zr g1 (fun h203 g2 => ?_) (fun h203 g2 => ?_)
 ·refine z8 g2 (fun h204 g3 => ?_)
  exact zqn ((w64 (s1_7 + 1)), (upd s1_16 s1_7.toNat true)) [] [(90, 3, 6, .q (.d (.pin (zi v201)))), (90, 3, 10, .q (xb true)), (90, 5, 1, .q (.ptr 0 3 (s1_7.toNat))), (90, 5, 2, .st ((aB 61 (upd s1_16 s1_7.toNat true)).map .d))] [] g3 (ob (o_ia (e := zi) 3 h202 rfl) (ob (o_b h203) (ob (zVc (m := 61) 0 3 0 1 s1_7.toNat h204 (by omega)) (ob (zDi 61 s1_16 s1_7.toNat true (by have := h204; simp only [Bool.and_eq_true, decide_eq_true_eq] at this; omega)) ob0)))) (by kernel_rfl)
 ·exact zqo [(90, 3, 6, .q (.d (.pin (zi v201)))), (90, 3, 10, .q (xb false))] [] g2 (ob (o_ia (e := zi) 3 h202 rfl) (ob (o_b h203) ob0)) (by kernel_rfl)
theorem z1m (k : Nat) (p0 : zl) (r : zt0) (h : zoe k p0 = some r) : zV TE (ev TE) 90 [(.agg (zu p0))] = some (zPi r) := by
 unfold zoe at h
 refine zp h (fun v1 h2 g1 => ?_)
 refine zp g1 (fun v3 h4 g2 => ?_)
 exact zM (g := zPi) g2 (zqc [(90, 2, 5, .q (.d (.pin (zi v1))))] [(90, 0, (.nor, z5e p0 v3))] (ob (o_ia (e := zi) 3 h2 rfl) (ob (zR (id := 0) (r' := (.nor, z5e p0 v3)) (z4b (zjl k p0) k _ _ h4) rfl) ob0)) (by kernel_rfl))
theorem zEf (k : Nat) (r : zt0) (h : zNe k = some r) : zV TE (ev TE) 87 [] = some (z3k r) := by
 unfold zNe at h
 exact zM (g := z3k) h (zqc [] [] ob0 (by kernel_rfl))
theorem z2i (k : Nat) (p0 : zl) (p1 p2 : Int) (r : zt5) (h : zOd k p0 p1 p2 = some r) : zV TE (ev TE) 91 [(.agg (zu p0)), (di p1), (di p2)] = some (zvj r) := by
 unfold zOd at h
 exact zM (g := zvj) h (zqc [] [] ob0 (by kernel_rfl))
noncomputable def zDy (p0 : zl) (p1 p2 : Int) (s1_20 : zt9) (s1_12 : Int) : TM := [(0, (.d (.agg (zu p0)))), (1, (xi p1)), (2, (xi p2)), (zsp 3), (6, (.d (.sl [] .nil))), (7, (.row 0 7 s1_20.length)), (15, (.d (dl zd p0.ShelfBook.Deliveries.1 p0.ShelfBook.Deliveries.2))), (16, (xi (p0.ShelfBook.Deliveries.1.length : Int))), (17, (xi s1_12))]
noncomputable def zcm (p0 : zl) (p1 p2 s1_12 : Int) (s1_20 : zt9) : St := ⟨(zDy p0 p1 p2 s1_20 s1_12), ⟨[(zc 3 (zu p0)), (7, (rowO true 3 zW s1_20 true))], []⟩, []⟩
noncomputable def zux (p0 : zl) (p1 p2 : Int) (r : zt7) : TM := [(0, (.d (.agg (zu p0)))), (1, (xi p1)), (2, (xi p2)), (zsp 3), (6, (.d (.sl [] .nil))), (7, (.row 0 7 r.2.length)), (15, (.d (dl zd p0.ShelfBook.Deliveries.1 p0.ShelfBook.Deliveries.2))), (16, (xi (p0.ShelfBook.Deliveries.1.length : Int))), (17, (xi r.1)), (18, (xb false))]
noncomputable def z1e (p0 : zl) (p1 p2 : Int) (r : zt7) : St := ⟨(zux p0 p1 p2 r), ⟨[(zc 3 (zu p0)), (7, (rowO true 3 zW r.2 true))], []⟩, []⟩
noncomputable def z5l (p0 : zl) (p1 p2 : Int) : (Int × (List zL)) → Ex × St := fun r => ((.exit 0), z1e p0 p1 p2 r)
theorem zkl (k : Nat) (p0 : zl) (p1 p2 s1_12 : Int) (s1_20 : zt9) (x : (Int × (List zL)) ⊕ (Int × (List zL))) (h : zkd k p0 p1 p2 s1_12 s1_20 = some x) : z7 TE 92 (blk TE 92 0) (fun s : (Int × (List zL)) => zcm p0 p1 p2 s.1 s.2) (z5l p0 p1 p2) (s1_12, s1_20) x := by
 unfold zkd at h
 refine zr h (fun h301 g1 => ?_) (fun h301 g1 => ?_)
 ·refine zp g1 (fun v302 h303 g2 => ?_)
  refine zr g2 (fun h304 g3 => ?_) (fun h304 g3 => ?_)
  ·cases g3
  ·refine zr g3 (fun h305 g4 => ?_) (fun h305 g4 => ?_)
   ·refine z8 g4 (fun h306 g5 => ?_)
    exact zqn ((w64 (s1_12 + 1)), (s1_20 ++ [(⟨1, v302.By⟩ : zL)])) [7] [(92, 3, 0, .q (xb true)), (92, 4, 1, .q (.d (.pin (zd v302)))), (92, 5, 2, .q (xi (zfb p2 s1_12))), (92, 5, 4, .q (xb true)), (92, 6, 5, .ap (s1_20 ++ [(⟨1, v302.By⟩ : zL)]).length (rowO true 3 zW (s1_20 ++ [(⟨1, v302.By⟩ : zL)]) true))] [] g5 (ob (o_b h301) (ob (o_ia (e := zd) 5 h303 rfl) (ob (zae (x := p2) h304) (ob (o_b h305) (ob (o_ap (b := true) (z := 3) (e := zW) (l := s1_20) (w := true) (⟨1, v302.By⟩ : zL) (fun _ => rfl) h306) (ob (z5g true 3 zW (s1_20 ++ [(⟨1, v302.By⟩ : zL)]) true) ob0)))))) (by kernel_rfl)
   ·exact zqn ((w64 (s1_12 + 1)), s1_20) [7] [(92, 3, 0, .q (xb true)), (92, 4, 1, .q (.d (.pin (zd v302)))), (92, 5, 2, .q (xi (zfb p2 s1_12))), (92, 5, 4, .q (xb false))] [] g4 (ob (o_b h301) (ob (o_ia (e := zd) 5 h303 rfl) (ob (zae (x := p2) h304) (ob (o_b h305) (ob (z5g true 3 zW s1_20 true) ob0))))) (by kernel_rfl)
 ·exact zqo [(92, 3, 0, .q (xb false))] [] g1 (ob (o_b h301) ob0) (by kernel_rfl)
noncomputable def ztx (p0 : zl) (p1 p2 : Int) (s3_24 : zt9) (v1 : zt7) (s3_16 : Int) (r : Bool) : TM := [(0, (.d (.agg (zu p0)))), (1, (xi p1)), (2, (xi p2)), (zsp 3), (6, (.d (.sl [] .nil))), (7, (.row 0 7 s3_24.length)), (15, (.d (dl zd p0.ShelfBook.Deliveries.1 p0.ShelfBook.Deliveries.2))), (16, (xi (p0.ShelfBook.Deliveries.1.length : Int))), (17, (xi v1.1)), (18, (xb false)), (36, (.d (dl zk p0.ShelfBook.Moves.1 p0.ShelfBook.Moves.2))), (37, (xi (p0.ShelfBook.Moves.1.length : Int))), (38, (xi s3_16)), (39, (xb true)), (zsp 11), (52, (xb r))]
noncomputable def zNc (p0 : zl) (p1 p2 : Int) (v1 : zt7) (s3_16 : Int) (s3_24 : zt9) (v702 : zq) (r : Bool) : St := ⟨(ztx p0 p1 p2 s3_24 v1 s3_16 r), ⟨[(zc 3 (zu p0)), (7, (rowO true 3 zW s3_24 true)), (zc 11 (zk v702))], []⟩, []⟩
noncomputable def zPu (p0 : zl) (p1 p2 : Int) (s3_24 : zt9) (v1 : zt7) (s3_16 : Int) : TM := [(0, (.d (.agg (zu p0)))), (1, (xi p1)), (2, (xi p2)), (zsp 3), (6, (.d (.sl [] .nil))), (7, (.row 0 7 s3_24.length)), (15, (.d (dl zd p0.ShelfBook.Deliveries.1 p0.ShelfBook.Deliveries.2))), (16, (xi (p0.ShelfBook.Deliveries.1.length : Int))), (17, (xi v1.1)), (18, (xb false)), (36, (.d (dl zk p0.ShelfBook.Moves.1 p0.ShelfBook.Moves.2))), (37, (xi (p0.ShelfBook.Moves.1.length : Int))), (38, (xi s3_16)), (39, (xb true)), (zsp 11)]
theorem zXg (k : Nat) (p0 : zl) (p1 p2 : Int) (v1 : zt7) (s3_16 : Int) (s3_24 : zt9) (v702 : zq) (r : Bool) (h : zye k p0 p1 p2 v1 s3_16 s3_24 v702 = some r) : ev TE 92 (rgn TE 92 11) ⟨(zPu p0 p1 p2 s3_24 v1 s3_16), ⟨[(zc 3 (zu p0)), (7, (rowO true 3 zW s3_24 true)), (zc 11 (zk v702))], []⟩, []⟩ = some (.nor, zNc p0 p1 p2 v1 s3_16 s3_24 v702 r) := by
 unfold zye at h
 refine zr h (fun h801 g1 => ?_) (fun h801 g1 => ?_)
 ·exact zJ (g := fun r => (Ex.nor, zNc p0 p1 p2 v1 s3_16 s3_24 v702 r)) g1 (zqe [(92, 11, 4, .q (xb true))] [] (ob (o_b h801) ob0) (by kernel_rfl))
 ·exact zJ (g := fun r => (Ex.nor, zNc p0 p1 p2 v1 s3_16 s3_24 v702 r)) g1 (zqe [(92, 11, 4, .q (xb false))] [] (ob (o_b h801) ob0) (by kernel_rfl))
noncomputable def zJd (p0 : zl) (p1 p2 : Int) (v1 : zt7) (s3_16 : Int) (s3_24 : zt9) (v702 : zq) (cb : Bool) (r : zt1) : St := ⟨(zPu p0 p1 p2 s3_24 v1 s3_16 ++ [(52, (xb true)), (zsp 12), (57, (xb r.1))]), ⟨[(zc 3 (zu p0)), (7, (rowO true 3 zW s3_24 true)), (zc 11 (zk v702)), (12, (.cells [(xi r.2), (xi v702.By.Low), (xi v702.By.High)]))], []⟩, []⟩
theorem zsl (k : Nat) (p0 : zl) (p1 p2 : Int) (v1 : zt7) (s3_16 : Int) (s3_24 : zt9) (v702 : zq) (cb : Bool) (r : zt1) (h : zYf k p0 p1 p2 v1 s3_16 s3_24 v702 cb = some r) : ev TE 92 (cnd TE 92 57) ⟨(zPu p0 p1 p2 s3_24 v1 s3_16 ++ [(52, (xb true)), (zsp 12), (57, (xb cb))]), ⟨[(zc 3 (zu p0)), (7, (rowO true 3 zW s3_24 true)), (zc 11 (zk v702)), (12, (.cells [(xi 0), (xi v702.By.Low), (xi v702.By.High)]))], []⟩, []⟩ = some (.nor, zJd p0 p1 p2 v1 s3_16 s3_24 v702 cb r) := by
 unfold zYf at h
 refine zr h (fun h1001 g1 => ?_) (fun h1001 g1 => ?_)
 ·subst h1001
  exact zJ (g := fun r => (Ex.nor, zJd p0 p1 p2 v1 s3_16 s3_24 v702 true r)) g1 (zqe [] [] ob0 (by kernel_rfl))
 ·subst h1001
  exact zJ (g := fun r => (Ex.nor, zJd p0 p1 p2 v1 s3_16 s3_24 v702 false r)) g1 (zqe [] [] ob0 (by kernel_rfl))
noncomputable def zpy (p0 : zl) (p1 p2 : Int) (s3_24 : zt9) (v1 : zt7) (s3_16 : Int) : TM := [(0, (.d (.agg (zu p0)))), (1, (xi p1)), (2, (xi p2)), (zsp 3), (6, (.d (.sl [] .nil))), (7, (.row 0 7 s3_24.length)), (15, (.d (dl zd p0.ShelfBook.Deliveries.1 p0.ShelfBook.Deliveries.2))), (16, (xi (p0.ShelfBook.Deliveries.1.length : Int))), (17, (xi v1.1)), (18, (xb false)), (36, (.d (dl zk p0.ShelfBook.Moves.1 p0.ShelfBook.Moves.2))), (37, (xi (p0.ShelfBook.Moves.1.length : Int))), (38, (xi s3_16))]
noncomputable def zdm (p0 : zl) (p1 p2 : Int) (v1 : zt7) (s3_16 : Int) (s3_24 : zt9) : St := ⟨(zpy p0 p1 p2 s3_24 v1 s3_16), ⟨[(zc 3 (zu p0)), (7, (rowO true 3 zW s3_24 true))], []⟩, []⟩
noncomputable def zVx (p0 : zl) (p1 p2 : Int) (r v1 : zt7) : TM := [(0, (.d (.agg (zu p0)))), (1, (xi p1)), (2, (xi p2)), (zsp 3), (6, (.d (.sl [] .nil))), (7, (.row 0 7 r.2.length)), (15, (.d (dl zd p0.ShelfBook.Deliveries.1 p0.ShelfBook.Deliveries.2))), (16, (xi (p0.ShelfBook.Deliveries.1.length : Int))), (17, (xi v1.1)), (18, (xb false)), (36, (.d (dl zk p0.ShelfBook.Moves.1 p0.ShelfBook.Moves.2))), (37, (xi (p0.ShelfBook.Moves.1.length : Int))), (38, (xi r.1)), (39, (xb false))]
noncomputable def z2e (p0 : zl) (p1 p2 : Int) (v1 r : zt7) : St := ⟨(zVx p0 p1 p2 r v1), ⟨[(zc 3 (zu p0)), (7, (rowO true 3 zW r.2 true))], []⟩, []⟩
noncomputable def zRl (p0 : zl) (p1 p2 : Int) (v1 : zt7) : (Int × (List zL)) → Ex × St := fun r => ((.exit 2), z2e p0 p1 p2 v1 r)
theorem zil (k : Nat) (p0 : zl) (p1 p2 : Int) (v1 : zt7) (s3_16 : Int) (s3_24 : zt9) (x : (Int × (List zL)) ⊕ (Int × (List zL))) (h : zpd k p0 p1 p2 v1 s3_16 s3_24 = some x) : z7 TE 92 (blk TE 92 2) (fun s : (Int × (List zL)) => zdm p0 p1 p2 v1 s.1 s.2) (zRl p0 p1 p2 v1) (s3_16, s3_24) x := by
 unfold zpd at h
 refine zr h (fun h701 g1 => ?_) (fun h701 g1 => ?_)
 ·refine zp g1 (fun v702 h703 g2 => ?_)
  refine zp g2 (fun v704 h705 g3 => ?_)
  refine zr g3 (fun h706 g4 => ?_) (fun h706 g4 => ?_)
  ·subst h706
   refine zp g4 (fun v707 h708 g5 => ?_)
   refine z8 g5 (fun h709 g6 => ?_)
   exact zqn ((w64 (s3_16 + 1)), (s3_24 ++ [(⟨v707.2, v702.By⟩ : zL)])) [7] [(92, 9, 0, .q (xb true)), (92, 10, 0, .q (.d (.pin (zk v702)))), (92, 15, 3, .ap (s3_24 ++ [(⟨v707.2, v702.By⟩ : zL)]).length (rowO true 3 zW (s3_24 ++ [(⟨v707.2, v702.By⟩ : zL)]) true))] [(92, 1000011, (.nor, zNc p0 p1 p2 v1 s3_16 s3_24 v702 true)), (92, 2000057, (.nor, zJd p0 p1 p2 v1 s3_16 s3_24 v702 v702.Back v707))] g6 (ob (o_b h701) (ob (o_ia (e := zk) 5 h703 rfl) (ob (zXg k p0 p1 p2 v1 s3_16 s3_24 v702 _ h705) (ob (zsl k p0 p1 p2 v1 s3_16 s3_24 v702 v702.Back _ h708) (ob (o_ap (b := true) (z := 3) (e := zW) (l := s3_24) (w := true) (⟨v707.2, v702.By⟩ : zL) (fun _ => rfl) h709) (ob (z5g true 3 zW (s3_24 ++ [(⟨v707.2, v702.By⟩ : zL)]) true) ob0)))))) (by kernel_rfl)
  ·subst h706
   exact zqn ((w64 (s3_16 + 1)), s3_24) [7] [(92, 9, 0, .q (xb true)), (92, 10, 0, .q (.d (.pin (zk v702))))] [(92, 1000011, (.nor, zNc p0 p1 p2 v1 s3_16 s3_24 v702 false))] g4 (ob (o_b h701) (ob (o_ia (e := zk) 5 h703 rfl) (ob (zXg k p0 p1 p2 v1 s3_16 s3_24 v702 _ h705) (ob (z5g true 3 zW s3_24 true) ob0)))) (by kernel_rfl)
 ·exact zqo [(92, 9, 0, .q (xb false))] [] g1 (ob (o_b h701) ob0) (by kernel_rfl)
theorem z2h (k : Nat) (p0 : zl) (p1 p2 : Int) (r : (SL zL)) (h : zrd k p0 p1 p2 = some r) : zV TE (ev TE) 92 [(.agg (zu p0)), (di p1), (di p2)] = some (zTi r) := by
 unfold zrd at h
 refine zp h (fun v1 h2 g1 => ?_)
 refine zp g1 (fun v3 h4 g2 => ?_)
 exact zM (g := zTi) g2 (zqr [(92, 2, 3, .q (xi (p0.ShelfBook.Deliveries.1.length : Int))), (92, 8, 3, .q (xi (p0.ShelfBook.Moves.1.length : Int)))] [(92, 0, (.nor, z1e p0 p1 p2 v1)), (92, 2, (.nor, z2e p0 p1 p2 v1 v3))] [(dl zW v3.2 (rcap true v3.2))] (ob (zx zd p0.ShelfBook.Deliveries.1) (ob (zR (id := 0) (r' := (.nor, z1e p0 p1 p2 v1)) (z4b (zkl k p0 p1 p2) k _ _ h2) rfl) (ob (zx zk p0.ShelfBook.Moves.1) (ob (zR (id := 2) (r' := (.nor, z2e p0 p1 p2 v1 v3)) (z4b (zil k p0 p1 p2 v1) k _ _ h4) rfl) (ob (show zWc ⟨[(7, (rowO true 3 zW v3.2 true))], []⟩ _ = _ from (o_s1 (x := (.row 0 7 v3.2.length)) (zWt true 3 zW v3.2 true rfl) o_s0)) ob0))))) (by kernel_rfl))
theorem zad (k : Nat) (p0 r : zt0) (h : zvb k p0 = some r) : zV TE (ev TE) 83 [(.agg (aB 61 p0))] = some (zWg r) := by
 unfold zvb at h
 exact zM (g := zWg) h (zqc [] [] ob0 (by kernel_rfl))
theorem zan (k : Nat) (p0 : zl) (p1 p2 r : Int) (h : z2f k p0 p1 p2 = some r) : zV TE (ev TE) 114 [(.agg (zu p0)), (di p1), (di p2)] = some (zsj r) := by
 unfold z2f at h
 exact zM (g := zsj) h (zqc [] [] ob0 (by kernel_rfl))
theorem z8m (k : Nat) (p0 : zl) (p1 p2 r : Int) (h : z6f k p0 p1 p2 = some r) : zV TE (ev TE) 115 [(.agg (zu p0)), (di p1), (di p2)] = some (zwj r) := by
 unfold z6f at h
 exact zM (g := zwj) h (zqc [] [] ob0 (by kernel_rfl))
noncomputable def zgy (p0 : zl) (p1 : zt0) (p2 : Int) (p3 : zm) (v1 : zt0) (s1_2 s9_14 v1203 : Int) (r : (Bool × (Nat → Bool))) : TM := [(0, (.d (.agg (zu p0)))), (1, (.d (.agg (aB 61 p1)))), (2, (xi p2)), (3, (.d (.agg [(di p3.Low), (di p3.High)]))), (zsp 4), (zsp 5), (zsp 6), (zsp 7), (zsp 8), (zsp 9), (14, (.d (.fn 96 [] [(.pin (aB 61 v1))]))), (15, (xi s1_2)), (10, (xi s1_2)), (11, (xi s9_14)), (21, (xb true)), (12, (xi v1203)), (40, (xb r.1))]
noncomputable def zdh (p0 : zl) (p1 : zt0) (p2 : Int) (p3 : zm) (v1 : zt0) : TM := [(0, (.d (.agg (zu p0)))), (1, (.d (.agg (aB 61 p1)))), (2, (xi p2)), (3, (.d (.agg [(di p3.Low), (di p3.High)]))), (zsp 4), (zsp 5), (zsp 6), (zsp 7), (zsp 8), (zsp 9), (14, (.d (.fn 96 [] [(.pin (aB 61 v1))])))]
noncomputable def zzd (p0 : zl) (p1 : zt0) (p2 : Int) (p3 : zm) (v1 : zt0) (s1_2 s9_14 : Int) (s9_27 : zt0) (v1203 : Int) (v1207 : Bool) (r : (Bool × (Nat → Bool))) : St := ⟨(zgy p0 p1 p2 p3 v1 s1_2 s9_14 v1203 r), ⟨[], [[(zc 4 (zu p0)), (zc 5 (aB 61 p1)), (6, (.cells [(xi p2)])), (7, (.cells [(xi p3.Low), (xi p3.High)])), (zc 8 (aB 61 (fun _ => false))), (zc 9 (aB 61 r.2))], []]⟩, [⟨(zdh p0 p1 p2 p3 v1), 0, rfP (blk TE 93 0), rfA (blk TE 93 0), rfB (blk TE 93 0), 93, .busy⟩]⟩
noncomputable def zvx (p0 : zl) (p1 : zt0) (p2 : Int) (p3 : zm) (v1 : zt0) (s1_2 s9_14 v1203 : Int) (v1207 : Bool) : TM := zdh p0 p1 p2 p3 v1 ++ [(15, (xi s1_2)), (10, (xi s1_2)), (11, (xi s9_14)), (21, (xb true)), (12, (xi v1203)), (40, (xb v1207))]
theorem zOk (k : Nat) (p0 : zl) (p1 : zt0) (p2 : Int) (p3 : zm) (v1 : zt0) (s1_2 s9_14 : Int) (s9_27 : zt0) (v1203 : Int) (v1207 : Bool) (r : (Bool × (Nat → Bool))) (h : z3c k p0 p1 p2 p3 v1 s1_2 s9_14 s9_27 v1203 v1207 = some r) : ev TE 93 (cnd TE 93 40) ⟨(zvx p0 p1 p2 p3 v1 s1_2 s9_14 v1203 v1207), ⟨[], [[(zc 4 (zu p0)), (zc 5 (aB 61 p1)), (6, (.cells [(xi p2)])), (7, (.cells [(xi p3.Low), (xi p3.High)])), (zc 8 (aB 61 (fun _ => false))), (zc 9 (aB 61 s9_27))], []]⟩, [⟨(zdh p0 p1 p2 p3 v1), 0, rfP (blk TE 93 0), rfA (blk TE 93 0), rfB (blk TE 93 0), 93, .busy⟩]⟩ = some (.nor, zzd p0 p1 p2 p3 v1 s1_2 s9_14 s9_27 v1203 v1207 r) := by
 unfold z3c at h
 refine zr h (fun h1301 g1 => ?_) (fun h1301 g1 => ?_)
 ·subst h1301
  refine z8 g1 (fun h1302 g2 => ?_)
  exact zJ (g := fun r => (Ex.nor, zzd p0 p1 p2 p3 v1 s1_2 s9_14 s9_27 v1203 true r)) g2 (zqe [(93, 9, 1, .q (.ptr 0 9 (v1203.toNat))), (93, 9, 2, .st ((aB 61 (upd s9_27 v1203.toNat true)).map .d))] [] (ob (zVc (m := 61) 0 9 0 1 v1203.toNat h1302 (by omega)) (ob (zDi 61 s9_27 v1203.toNat true (by have := h1302; simp only [Bool.and_eq_true, decide_eq_true_eq] at this; omega)) ob0)) (by kernel_rfl))
 ·subst h1301
  exact zJ (g := fun r => (Ex.nor, zzd p0 p1 p2 p3 v1 s1_2 s9_14 s9_27 v1203 false r)) g1 (zqe [] [] ob0 (by kernel_rfl))
noncomputable def z7x (p0 : zl) (p1 : zt0) (p2 : Int) (p3 : zm) (v1 : zt0) (s1_2 s9_14 v1204 : Int) (r : (Bool × (Nat → Bool))) : TM := zdh p0 p1 p2 p3 v1 ++ [(15, (xi s1_2)), (10, (xi s1_2)), (11, (xi s9_14)), (21, (xb true)), (12, (xi v1204)), (40, (xb r.1))]
noncomputable def zxd (p0 : zl) (p1 : zt0) (p2 : Int) (p3 : zm) (v1 : zt0) (s1_2 s9_14 : Int) (s9_27 : zt0) (v1204 : Int) (v1208 : Bool) (r : (Bool × (Nat → Bool))) : St := ⟨(z7x p0 p1 p2 p3 v1 s1_2 s9_14 v1204 r), ⟨[], [[(zc 4 (zu p0)), (zc 5 (aB 61 p1)), (6, (.cells [(xi p2)])), (7, (.cells [(xi p3.Low), (xi p3.High)])), (zc 8 (aB 61 (fun _ => false))), (zc 9 (aB 61 r.2))], []]⟩, [⟨(zdh p0 p1 p2 p3 v1), 0, rfP (blk TE 93 0), rfA (blk TE 93 0), rfB (blk TE 93 0), 93, .busy⟩]⟩
noncomputable def zMx (p0 : zl) (p1 : zt0) (p2 : Int) (p3 : zm) (v1 : zt0) (s1_2 s9_14 v1204 : Int) (v1208 : Bool) : TM := zdh p0 p1 p2 p3 v1 ++ [(15, (xi s1_2)), (10, (xi s1_2)), (11, (xi s9_14)), (21, (xb true)), (12, (xi v1204)), (40, (xb v1208))]
theorem zPk (k : Nat) (p0 : zl) (p1 : zt0) (p2 : Int) (p3 : zm) (v1 : zt0) (s1_2 s9_14 : Int) (s9_27 : zt0) (v1204 : Int) (v1208 : Bool) (r : (Bool × (Nat → Bool))) (h : z7c k p0 p1 p2 p3 v1 s1_2 s9_14 s9_27 v1204 v1208 = some r) : ev TE 93 (cnd TE 93 40) ⟨(zMx p0 p1 p2 p3 v1 s1_2 s9_14 v1204 v1208), ⟨[], [[(zc 4 (zu p0)), (zc 5 (aB 61 p1)), (6, (.cells [(xi p2)])), (7, (.cells [(xi p3.Low), (xi p3.High)])), (zc 8 (aB 61 (fun _ => false))), (zc 9 (aB 61 s9_27))], []]⟩, [⟨(zdh p0 p1 p2 p3 v1), 0, rfP (blk TE 93 0), rfA (blk TE 93 0), rfB (blk TE 93 0), 93, .busy⟩]⟩ = some (.nor, zxd p0 p1 p2 p3 v1 s1_2 s9_14 s9_27 v1204 v1208 r) := by
 unfold z7c at h
 refine zr h (fun h1401 g1 => ?_) (fun h1401 g1 => ?_)
 ·subst h1401
  refine z8 g1 (fun h1402 g2 => ?_)
  exact zJ (g := fun r => (Ex.nor, zxd p0 p1 p2 p3 v1 s1_2 s9_14 s9_27 v1204 true r)) g2 (zqe [(93, 9, 1, .q (.ptr 0 9 (v1204.toNat))), (93, 9, 2, .st ((aB 61 (upd s9_27 v1204.toNat true)).map .d))] [] (ob (zVc (m := 61) 0 9 0 1 v1204.toNat h1402 (by omega)) (ob (zDi 61 s9_27 v1204.toNat true (by have := h1402; simp only [Bool.and_eq_true, decide_eq_true_eq] at this; omega)) ob0)) (by kernel_rfl))
 ·subst h1401
  exact zJ (g := fun r => (Ex.nor, zxd p0 p1 p2 p3 v1 s1_2 s9_14 s9_27 v1204 false r)) g1 (zqe [] [] ob0 (by kernel_rfl))
noncomputable def zmm (p0 : zl) (p1 : zt0) (p2 : Int) (p3 : zm) (v1 : zt0) (s1_2 s9_14 : Int) (s9_27 : zt0) : St := ⟨(zdh p0 p1 p2 p3 v1 ++ [(15, (xi s1_2)), (10, (xi s1_2)), (11, (xi s9_14))]), ⟨[], [[(zc 4 (zu p0)), (zc 5 (aB 61 p1)), (6, (.cells [(xi p2)])), (7, (.cells [(xi p3.Low), (xi p3.High)])), (zc 8 (aB 61 (fun _ => false))), (zc 9 (aB 61 s9_27))], []]⟩, [⟨(zdh p0 p1 p2 p3 v1), 0, rfP (blk TE 93 0), rfA (blk TE 93 0), rfB (blk TE 93 0), 93, .busy⟩]⟩
noncomputable def z0e (p0 : zl) (p1 : zt0) (p2 : Int) (p3 : zm) (v1 : zt0) (s1_2 : Int) (r : zt8) : St := ⟨(zdh p0 p1 p2 p3 v1 ++ [(15, (xi s1_2)), (10, (xi s1_2)), (11, (xi r.1)), (21, (xb false))]), ⟨[], [[(zc 4 (zu p0)), (zc 5 (aB 61 p1)), (6, (.cells [(xi p2)])), (7, (.cells [(xi p3.Low), (xi p3.High)])), (zc 8 (aB 61 (fun _ => false))), (zc 9 (aB 61 r.2))], []]⟩, [⟨(zdh p0 p1 p2 p3 v1), 0, rfP (blk TE 93 0), rfA (blk TE 93 0), rfB (blk TE 93 0), 93, .busy⟩]⟩
noncomputable def zlm (p0 : zl) (p1 : zt0) (p2 : Int) (p3 : zm) (v1 : zt0) (s1_2 : Int) : (Int × (Nat → Bool)) → Ex × St := fun r => ((.exit 2), z0e p0 p1 p2 p3 v1 s1_2 r)
theorem znl (k : Nat) (p0 : zl) (p1 : zt0) (p2 : Int) (p3 : zm) (v1 : zt0) (s1_2 s9_14 : Int) (s9_27 : zt0) (x : (Int × (Nat → Bool)) ⊕ (Int × (Nat → Bool))) (h : z8b k p0 p1 p2 p3 v1 s1_2 s9_14 s9_27 = some x) : z7 TE 93 (blk TE 93 2) (fun s : (Int × (Nat → Bool)) => zmm p0 p1 p2 p3 v1 s1_2 s.1 s.2) (zlm p0 p1 p2 p3 v1 s1_2) (s9_14, s9_27) x := by
 unfold z8b at h
 refine zr h (fun h1201 g1 => ?_) (fun h1201 g1 => ?_)
 ·refine zr g1 (fun h1202 g2 => ?_) (fun h1202 g2 => ?_)
  ·refine zp g2 (fun v1203 h1204 g3 => ?_)
   refine zp g3 (fun v1205 h1206 g4 => ?_)
   refine zp g4 (fun v1207 h1208 g5 => ?_)
   refine zp g5 (fun v1209 h1210 g6 => ?_)
   exact zqn ((w64 (s9_14 + 1)), v1209.2) [] [(93, 5, 3, .q (xb true)), (93, 7, 1, .q (.d (.pin [(.fn 114 [] []), (.fn 115 [] [])]))), (93, 7, 6, .c (di v1203)), (93, 8, 6, .q (.d (.pin (zi v1205)))), (93, 8, 9, .c (db v1207))] [(93, 2000040, (.nor, zzd p0 p1 p2 p3 v1 s1_2 s9_14 s9_27 v1203 v1207 v1209))] g6 (ob (o_b h1201) (ob (zNt [(.fn 114 [] []), (.fn 115 [] [])] 2 1 (j := 0) (eq_of_beq h1202) (by decide)) (ob (zan k p0 s1_2 s9_14 _ h1204) (ob (o_ia (e := zi) 3 h1206 rfl) (ob (zN k v1203 0 v1205.Room _ h1208) (ob (zOk k p0 p1 p2 p3 v1 s1_2 s9_14 s9_27 v1203 v1207 _ h1210) ob0)))))) (by kernel_rfl)
  ·refine zr g2 (fun h1203 g3 => ?_) (fun h1203 g3 => ?_)
   ·refine zp g3 (fun v1204 h1205 g4 => ?_)
    refine zp g4 (fun v1206 h1207 g5 => ?_)
    refine zp g5 (fun v1208 h1209 g6 => ?_)
    refine zp g6 (fun v1210 h1211 g7 => ?_)
    exact zqn ((w64 (s9_14 + 1)), v1210.2) [] [(93, 5, 3, .q (xb true)), (93, 7, 1, .q (.d (.pin [(.fn 115 [] [])]))), (93, 7, 6, .c (di v1204)), (93, 8, 6, .q (.d (.pin (zi v1206)))), (93, 8, 9, .c (db v1208))] [(93, 2000040, (.nor, zxd p0 p1 p2 p3 v1 s1_2 s9_14 s9_27 v1204 v1208 v1210))] g7 (ob (o_b h1201) (ob (zNt [(.fn 114 [] []), (.fn 115 [] [])] 2 1 (j := 1) (eq_of_beq h1203) (by decide)) (ob (z8m k p0 s1_2 s9_14 _ h1205) (ob (o_ia (e := zi) 3 h1207 rfl) (ob (zN k v1204 0 v1206.Room _ h1209) (ob (zPk k p0 p1 p2 p3 v1 s1_2 s9_14 s9_27 v1204 v1208 _ h1211) ob0)))))) (by kernel_rfl)
   ·cases g3
 ·exact zqo [(93, 5, 3, .q (xb false))] [] g1 (ob (o_b h1201) ob0) (by kernel_rfl)
noncomputable def zCx (v1 : zt0) (s1_2 : Int) : TM := [(0, (.yld 0)), (1, (.d (.pin (aB 61 v1)))), (5, (.d (.agg (aB 61 v1)))), (6, (xi s1_2)), (7, (xb true)), (3, (xi s1_2)), (4, (xb (v1 s1_2.toNat))), (16, (xb false))]
noncomputable def zId (p0 : zl) (p1 : zt0) (p2 : Int) (p3 : zm) (v1 : zt0) (s1_2 : Int) (s1_15 r : zt0) : St := ⟨(zCx v1 s1_2), ⟨[], [[(zc 4 (zu p0)), (zc 5 (aB 61 p1)), (6, (.cells [(xi p2)])), (7, (.cells [(xi p3.Low), (xi p3.High)])), (zc 8 (aB 61 (fun _ => false))), (zc 9 (aB 61 r))]]⟩, [⟨(zdh p0 p1 p2 p3 v1), 0, rfP (blk TE 93 0), rfA (blk TE 93 0), rfB (blk TE 93 0), 93, .rdy⟩]⟩
noncomputable def z3x (v1 : zt0) (s1_2 : Int) : TM := [(0, (.yld 0)), (1, (.d (.pin (aB 61 v1)))), (5, (.d (.agg (aB 61 v1)))), (6, (xi s1_2)), (7, (xb true)), (3, (xi s1_2)), (4, (xb (v1 s1_2.toNat)))]
theorem zAl (k : Nat) (p0 : zl) (p1 : zt0) (p2 : Int) (p3 : zm) (v1 : zt0) (s1_2 : Int) (s1_15 r : zt0) (h : zxe k p0 p1 p2 p3 v1 s1_2 s1_15 = some r) : ev TE 96 (rgn TE 96 3) ⟨(z3x v1 s1_2), ⟨[], [[(zc 4 (zu p0)), (zc 5 (aB 61 p1)), (6, (.cells [(xi p2)])), (7, (.cells [(xi p3.Low), (xi p3.High)])), (zc 8 (aB 61 (fun _ => false))), (zc 9 (aB 61 s1_15))]]⟩, [⟨(zdh p0 p1 p2 p3 v1), 0, rfP (blk TE 93 0), rfA (blk TE 93 0), rfB (blk TE 93 0), 93, .rdy⟩]⟩ = some (.nor, zId p0 p1 p2 p3 v1 s1_2 s1_15 r) := by
 unfold zxe at h
 refine zr h (fun h901 g1 => ?_) (fun h901 g1 => ?_)
 ·refine zp g1 (fun v902 h903 g2 => ?_)
  exact zJ (g := fun r => (Ex.nor, zId p0 p1 p2 p3 v1 s1_2 s1_15 r)) g2 (zqe [(96, 3, 1, .q (xb true))] [(93, 2, (.nor, z0e p0 p1 p2 p3 v1 s1_2 v902))] (ob (o_b h901) (ob (zR (id := 2) (r' := (.nor, z0e p0 p1 p2 p3 v1 s1_2 v902)) (z4b (znl k p0 p1 p2 p3 v1 s1_2) k _ _ h903) rfl) ob0)) (by kernel_rfl))
 ·exact zJ (g := fun r => (Ex.nor, zId p0 p1 p2 p3 v1 s1_2 s1_15 r)) g1 (zqe [(96, 3, 1, .q (xb false))] [] (ob (o_b h901) ob0) (by kernel_rfl))
noncomputable def z2x (v1 : zt0) (s1_2 : Int) : TM := [(0, (.yld 0)), (1, (.d (.pin (aB 61 v1)))), (5, (.d (.agg (aB 61 v1)))), (6, (xi s1_2))]
noncomputable def zTl (p0 : zl) (p1 : zt0) (p2 : Int) (p3 : zm) (v1 : zt0) (s1_2 : Int) (s1_15 : zt0) : St := ⟨(z2x v1 s1_2), ⟨[], [[(zc 4 (zu p0)), (zc 5 (aB 61 p1)), (6, (.cells [(xi p2)])), (7, (.cells [(xi p3.Low), (xi p3.High)])), (zc 8 (aB 61 (fun _ => false))), (zc 9 (aB 61 s1_15))]]⟩, [⟨(zdh p0 p1 p2 p3 v1), 0, rfP (blk TE 93 0), rfA (blk TE 93 0), rfB (blk TE 93 0), 93, .rdy⟩]⟩
noncomputable def zdy (v1 : zt0) (r : zt8) : TM := [(0, (.yld 0)), (1, (.d (.pin (aB 61 v1)))), (5, (.d (.agg (aB 61 v1)))), (6, (xi r.1)), (7, (xb false))]
noncomputable def z6e (p0 : zl) (p1 : zt0) (p2 : Int) (p3 : zm) (v1 : zt0) (r : zt8) : St := ⟨(zdy v1 r), ⟨[], [[(zc 4 (zu p0)), (zc 5 (aB 61 p1)), (6, (.cells [(xi p2)])), (7, (.cells [(xi p3.Low), (xi p3.High)])), (zc 8 (aB 61 (fun _ => false))), (zc 9 (aB 61 r.2))]]⟩, [⟨(zdh p0 p1 p2 p3 v1), 0, rfP (blk TE 93 0), rfA (blk TE 93 0), rfB (blk TE 93 0), 93, .rdy⟩]⟩
noncomputable def z7l (p0 : zl) (p1 : zt0) (p2 : Int) (p3 : zm) (v1 : zt0) : (Int × (Nat → Bool)) → Ex × St := fun r => ((.exit 0), z6e p0 p1 p2 p3 v1 r)
theorem zOl (k : Nat) (p0 : zl) (p1 : zt0) (p2 : Int) (p3 : zm) (v1 : zt0) (s1_2 : Int) (s1_15 : zt0) (x : (Int × (Nat → Bool)) ⊕ (Int × (Nat → Bool))) (h : zjd k p0 p1 p2 p3 v1 s1_2 s1_15 = some x) : z7 TE 96 (blk TE 96 0) (fun s : (Int × (Nat → Bool)) => zTl p0 p1 p2 p3 v1 s.1 s.2) (z7l p0 p1 p2 p3 v1) (s1_2, s1_15) x := by
 unfold zjd at h
 refine zr h (fun h801 g1 => ?_) (fun h801 g1 => ?_)
 ·refine z8 g1 (fun h802 g2 => ?_)
  refine zp g2 (fun v803 h804 g3 => ?_)
  exact zqn ((w64 (s1_2 + 1)), v803) [] [(96, 1, 0, .q (xb true)), (96, 2, 1, .q (xb (v1 s1_2.toNat)))] [(96, 1000003, (.nor, zId p0 p1 p2 p3 v1 s1_2 s1_15 v803))] g3 (ob (o_b h801) (ob (zup 61 v1 s1_2 h802) (ob (zAl k p0 p1 p2 p3 v1 s1_2 s1_15 _ h804) ob0))) (by kernel_rfl)
 ·exact zqo [(96, 1, 0, .q (xb false))] [] g1 (ob (o_b h801) ob0) (by kernel_rfl)
theorem z1h (k : Nat) (p0 : zl) (p1 : zt0) (p2 : Int) (p3 : zm) (r : zt0) (h : zLc k p0 p1 p2 p3 = some r) : zV TE (ev TE) 93 [(.agg (zu p0)), (.agg (aB 61 p1)), (di p2), (.agg [(di p3.Low), (di p3.High)])] = some (zMi r) := by
 unfold zLc at h
 refine zp h (fun v1 h2 g1 => ?_)
 refine zp g1 (fun v3 h4 g2 => ?_)
 exact zM (g := zMi) g2 (zqc [(93, 2, 1, .c (.fn 96 [] [(.pin (aB 61 v1))]))] [(96, 0, (.nor, z6e p0 p1 p2 p3 v1 v3))] (ob (zad k p1 _ h2) (ob (zR (id := 0) (r' := (.nor, z6e p0 p1 p2 p3 v1 v3)) (z4b (zOl k p0 p1 p2 p3 v1) k _ _ h4) rfl) ob0)) (by kernel_rfl))
noncomputable def zAy (p0 : zl) (p1 : zt0) (p2 s1_11 : Int) (r : Bool) : TM := [(0, (.d (.agg (zu p0)))), (1, (.d (.agg (aB 61 p1)))), (2, (xi p2)), (zsp 3), (zsp 4), (zsp 6), (12, (.d (dl zh p0.ShelfBook.Counts.1 p0.ShelfBook.Counts.2))), (13, (xi (p0.ShelfBook.Counts.1.length : Int))), (14, (xi s1_11)), (15, (xb true)), (zsp 8), (7, (xi s1_11)), (37, (xb r))]
noncomputable def zYb (p0 : zl) (p1 : zt0) (p2 s1_11 : Int) (s1_19 : zt0) (v602 : zo) (r : Bool) : St := ⟨(zAy p0 p1 p2 s1_11 r), ⟨[(zc 3 (zu p0)), (zc 4 (aB 61 s1_19)), (zc 6 (aB 61 (fun _ => false))), (zc 8 (zh v602))], []⟩, []⟩
noncomputable def zLr (p0 : zl) (p1 : zt0) (p2 s1_11 : Int) : TM := [(0, (.d (.agg (zu p0)))), (1, (.d (.agg (aB 61 p1)))), (2, (xi p2)), (zsp 3), (zsp 4), (zsp 6), (12, (.d (dl zh p0.ShelfBook.Counts.1 p0.ShelfBook.Counts.2))), (13, (xi (p0.ShelfBook.Counts.1.length : Int))), (14, (xi s1_11)), (15, (xb true)), (zsp 8), (7, (xi s1_11))]
theorem z9f (k : Nat) (p0 : zl) (p1 : zt0) (p2 s1_11 : Int) (s1_19 : zt0) (v602 : zo) (r : Bool) (h : zLd k p0 p1 p2 s1_11 s1_19 v602 = some r) : ev TE 95 (rgn TE 95 4) ⟨(zLr p0 p1 p2 s1_11), ⟨[(zc 3 (zu p0)), (zc 4 (aB 61 s1_19)), (zc 6 (aB 61 (fun _ => false))), (zc 8 (zh v602))], []⟩, []⟩ = some (.nor, zYb p0 p1 p2 s1_11 s1_19 v602 r) := by
 unfold zLd at h
 refine zr h (fun h701 g1 => ?_) (fun h701 g1 => ?_)
 ·exact zJ (g := fun r => (Ex.nor, zYb p0 p1 p2 s1_11 s1_19 v602 r)) g1 (zqe [(95, 4, 4, .q (xb true))] [] (ob (o_b h701) ob0) (by kernel_rfl))
 ·refine zr g1 (fun h702 g2 => ?_) (fun h702 g2 => ?_)
  ·exact zJ (g := fun r => (Ex.nor, zYb p0 p1 p2 s1_11 s1_19 v602 r)) g2 (zqe [(95, 4, 4, .q (xb false)), (95, 4, 11, .q (xb true))] [] (ob (o_b h701) (ob (o_b h702) ob0)) (by kernel_rfl))
  ·refine zr g2 (fun h703 g3 => ?_) (fun h703 g3 => ?_)
   ·cases g3
   ·exact zJ (g := fun r => (Ex.nor, zYb p0 p1 p2 s1_11 s1_19 v602 r)) g3 (zqe [(95, 4, 4, .q (xb false)), (95, 4, 11, .q (xb false)), (95, 4, 15, .q (xi (zfb p0.left s1_11)))] [] (ob (o_b h701) (ob (o_b h702) (ob (zae (x := p0.left) h703) ob0))) (by kernel_rfl))
noncomputable def zdd (p0 : zl) (p1 : zt0) (p2 s1_11 : Int) (v602 : zo) (s7_15 : Int) (s7_23 r : zt0) : St := ⟨(zLr p0 p1 p2 s1_11 ++ [(37, (xb false)), (38, (xi s7_15)), (39, (xb true)), (9, (xi s7_15))]), ⟨[(zc 3 (zu p0)), (zc 4 (aB 61 r)), (zc 6 (aB 61 (fun _ => false))), (zc 8 (zh v602))], []⟩, []⟩
theorem ztk (k : Nat) (p0 : zl) (p1 : zt0) (p2 s1_11 : Int) (v602 : zo) (s7_15 : Int) (s7_23 r : zt0) (h : zQd k p0 p1 p2 s1_11 v602 s7_15 s7_23 = some r) : ev TE 95 (rgn TE 95 8) ⟨(zLr p0 p1 p2 s1_11 ++ [(37, (xb false)), (38, (xi s7_15)), (39, (xb true)), (9, (xi s7_15))]), ⟨[(zc 3 (zu p0)), (zc 4 (aB 61 s7_23)), (zc 6 (aB 61 (fun _ => false))), (zc 8 (zh v602))], []⟩, []⟩ = some (.nor, zdd p0 p1 p2 s1_11 v602 s7_15 s7_23 r) := by
 unfold zQd at h
 refine z8 h (fun h1001 g1 => ?_)
 refine zr g1 (fun h1002 g2 => ?_) (fun h1002 g2 => ?_)
 ·refine zp g2 (fun v1003 h1004 g3 => ?_)
  exact zJ (g := fun r => (Ex.nor, zdd p0 p1 p2 s1_11 v602 s7_15 s7_23 r)) g3 (zqe [(95, 8, 2, .q (.ptr 0 4 (s7_15.toNat))), (95, 8, 3, .q (xb (s7_23 s7_15.toNat))), (95, 8, 4, .q (xb true)), (95, 8, 16, .c (db v1003)), (95, 8, 18, .q (.ptr 0 4 (s7_15.toNat))), (95, 8, 19, .st ((aB 61 (upd s7_23 s7_15.toNat v1003)).map .d))] [] (ob (zVc (m := 61) 0 4 0 1 s7_15.toNat h1001 (by omega)) (ob (z4o 61 s7_23 s7_15.toNat (by have := h1001; simp only [Bool.and_eq_true, decide_eq_true_eq] at this; omega)) (ob (o_b h1002) (ob (zN k s7_15 (w64 (v602.Read - v602.Err)) (w64 (v602.Read + v602.Err)) _ h1004) (ob (zVc (m := 61) 0 4 0 1 s7_15.toNat h1001 (by omega)) (ob (zDi 61 s7_23 s7_15.toNat v1003 (by have := h1001; simp only [Bool.and_eq_true, decide_eq_true_eq] at this; omega)) ob0)))))) (by kernel_rfl))
 ·exact zJ (g := fun r => (Ex.nor, zdd p0 p1 p2 s1_11 v602 s7_15 s7_23 r)) g2 (zqe [(95, 8, 2, .q (.ptr 0 4 (s7_15.toNat))), (95, 8, 3, .q (xb (s7_23 s7_15.toNat))), (95, 8, 4, .q (xb false)), (95, 8, 18, .q (.ptr 0 4 (s7_15.toNat))), (95, 8, 19, .st ((aB 61 (upd s7_23 s7_15.toNat false)).map .d))] [] (ob (zVc (m := 61) 0 4 0 1 s7_15.toNat h1001 (by omega)) (ob (z4o 61 s7_23 s7_15.toNat (by have := h1001; simp only [Bool.and_eq_true, decide_eq_true_eq] at this; omega)) (ob (o_b h1002) (ob (zVc (m := 61) 0 4 0 1 s7_15.toNat h1001 (by omega)) (ob (zDi 61 s7_23 s7_15.toNat false (by have := h1001; simp only [Bool.and_eq_true, decide_eq_true_eq] at this; omega)) ob0))))) (by kernel_rfl))
noncomputable def zRk (p0 : zl) (p1 : zt0) (p2 s1_11 : Int) (v602 : zo) (s7_15 : Int) (s7_23 : zt0) : St := ⟨(zLr p0 p1 p2 s1_11 ++ [(37, (xb false)), (38, (xi s7_15))]), ⟨[(zc 3 (zu p0)), (zc 4 (aB 61 s7_23)), (zc 6 (aB 61 (fun _ => false))), (zc 8 (zh v602))], []⟩, []⟩
noncomputable def zhe (p0 : zl) (p1 : zt0) (p2 s1_11 : Int) (v602 : zo) (r : zt8) : St := ⟨(zLr p0 p1 p2 s1_11 ++ [(37, (xb false)), (38, (xi r.1)), (39, (xb false))]), ⟨[(zc 3 (zu p0)), (zc 4 (aB 61 r.2)), (zc 6 (aB 61 (fun _ => false))), (zc 8 (zh v602))], []⟩, []⟩
noncomputable def zKk (p0 : zl) (p1 : zt0) (p2 s1_11 : Int) (v602 : zo) : (Int × (Nat → Bool)) → Ex × St := fun r => ((.exit 2), zhe p0 p1 p2 s1_11 v602 r)
theorem zhk (k : Nat) (p0 : zl) (p1 : zt0) (p2 s1_11 : Int) (v602 : zo) (s7_15 : Int) (s7_23 : zt0) (x : (Int × (Nat → Bool)) ⊕ (Int × (Nat → Bool))) (h : zgc k p0 p1 p2 s1_11 v602 s7_15 s7_23 = some x) : z7 TE 95 (blk TE 95 2) (fun s : (Int × (Nat → Bool)) => zRk p0 p1 p2 s1_11 v602 s.1 s.2) (zKk p0 p1 p2 s1_11 v602) (s7_15, s7_23) x := by
 unfold zgc at h
 refine zr h (fun h901 g1 => ?_) (fun h901 g1 => ?_)
 ·refine zp g1 (fun v902 h903 g2 => ?_)
  exact zqn ((w64 (s7_15 + 1)), v902) [] [(95, 6, 0, .q (xb true))] [(95, 1000008, (.nor, zdd p0 p1 p2 s1_11 v602 s7_15 s7_23 v902))] g2 (ob (o_b h901) (ob (ztk k p0 p1 p2 s1_11 v602 s7_15 s7_23 _ h903) ob0)) (by kernel_rfl)
 ·exact zqo [(95, 6, 0, .q (xb false))] [] g1 (ob (o_b h901) ob0) (by kernel_rfl)
noncomputable def zcy (p0 : zl) (p1 : zt0) (p2 s1_11 : Int) : TM := [(0, (.d (.agg (zu p0)))), (1, (.d (.agg (aB 61 p1)))), (2, (xi p2)), (zsp 3), (zsp 4), (zsp 6), (12, (.d (dl zh p0.ShelfBook.Counts.1 p0.ShelfBook.Counts.2))), (13, (xi (p0.ShelfBook.Counts.1.length : Int))), (14, (xi s1_11))]
noncomputable def zGk (p0 : zl) (p1 : zt0) (p2 s1_11 : Int) (s1_19 : zt0) : St := ⟨(zcy p0 p1 p2 s1_11), ⟨[(zc 3 (zu p0)), (zc 4 (aB 61 s1_19)), (zc 6 (aB 61 (fun _ => false)))], []⟩, []⟩
noncomputable def zSx (p0 : zl) (p1 : zt0) (p2 : Int) (r : zt8) : TM := [(0, (.d (.agg (zu p0)))), (1, (.d (.agg (aB 61 p1)))), (2, (xi p2)), (zsp 3), (zsp 4), (zsp 6), (12, (.d (dl zh p0.ShelfBook.Counts.1 p0.ShelfBook.Counts.2))), (13, (xi (p0.ShelfBook.Counts.1.length : Int))), (14, (xi r.1)), (15, (xb false))]
noncomputable def zle (p0 : zl) (p1 : zt0) (p2 : Int) (r : zt8) : St := ⟨(zSx p0 p1 p2 r), ⟨[(zc 3 (zu p0)), (zc 4 (aB 61 r.2)), (zc 6 (aB 61 (fun _ => false)))], []⟩, []⟩
noncomputable def zTk (p0 : zl) (p1 : zt0) (p2 : Int) : (Int × (Nat → Bool)) → Ex × St := fun r => ((.exit 0), zle p0 p1 p2 r)
theorem zjk (k : Nat) (p0 : zl) (p1 : zt0) (p2 s1_11 : Int) (s1_19 : zt0) (x : (Int × (Nat → Bool)) ⊕ (Int × (Nat → Bool))) (h : zTc k p0 p1 p2 s1_11 s1_19 = some x) : z7 TE 95 (blk TE 95 0) (fun s : (Int × (Nat → Bool)) => zGk p0 p1 p2 s.1 s.2) (zTk p0 p1 p2) (s1_11, s1_19) x := by
 unfold zTc at h
 refine zr h (fun h601 g1 => ?_) (fun h601 g1 => ?_)
 ·refine zp g1 (fun v602 h603 g2 => ?_)
  refine zp g2 (fun v604 h605 g3 => ?_)
  refine zr g3 (fun h606 g4 => ?_) (fun h606 g4 => ?_)
  ·subst h606
   exact zqn ((w64 (s1_11 + 1)), s1_19) [] [(95, 2, 0, .q (xb true)), (95, 3, 1, .q (.d (.pin (zh v602))))] [(95, 1000004, (.nor, zYb p0 p1 p2 s1_11 s1_19 v602 true))] g4 (ob (o_b h601) (ob (o_ia (e := zh) 4 h603 rfl) (ob (z9f k p0 p1 p2 s1_11 s1_19 v602 _ h605) ob0))) (by kernel_rfl)
  ·subst h606
   refine zp g4 (fun v607 h608 g5 => ?_)
   exact zqn ((w64 (s1_11 + 1)), v607.2) [] [(95, 2, 0, .q (xb true)), (95, 3, 1, .q (.d (.pin (zh v602))))] [(95, 1000004, (.nor, zYb p0 p1 p2 s1_11 s1_19 v602 false)), (95, 2, (.nor, zhe p0 p1 p2 s1_11 v602 v607))] g5 (ob (o_b h601) (ob (o_ia (e := zh) 4 h603 rfl) (ob (z9f k p0 p1 p2 s1_11 s1_19 v602 _ h605) (ob (zR (id := 2) (r' := (.nor, zhe p0 p1 p2 s1_11 v602 v607)) (z4b (zhk k p0 p1 p2 s1_11 v602) k _ _ h608) rfl) ob0)))) (by kernel_rfl)
 ·exact zqo [(95, 2, 0, .q (xb false))] [] g1 (ob (o_b h601) ob0) (by kernel_rfl)
theorem zlh (k : Nat) (p0 : zl) (p1 : zt0) (p2 : Int) (r : zt0) (h : zQc k p0 p1 p2 = some r) : zV TE (ev TE) 95 [(.agg (zu p0)), (.agg (aB 61 p1)), (di p2)] = some (zTh r) := by
 unfold zQc at h
 refine zp h (fun v1 h2 g1 => ?_)
 exact zM (g := zTh) g1 (zqc [(95, 1, 3, .q (xi (p0.ShelfBook.Counts.1.length : Int)))] [(95, 0, (.nor, zle p0 p1 p2 v1))] (ob (zx zh p0.ShelfBook.Counts.1) (ob (zR (id := 0) (r' := (.nor, zle p0 p1 p2 v1)) (z4b (zjk k p0 p1 p2) k _ _ h2) rfl) ob0)) (by kernel_rfl))
noncomputable def zAx (v1 : zt0) (s1_2 : Int) : TM := [(0, (.yld 0)), (1, (.d (.pin (aB 61 v1)))), (5, (.d (.agg (aB 61 v1)))), (6, (xi s1_2)), (7, (xb true)), (3, (xi s1_2)), (4, (xb (v1 s1_2.toNat))), (16, (xb false))]
noncomputable def zns (p0 p1 v1 : zt0) : TM := [(0, (.d (.agg (aB 61 p0)))), (1, (.d (.agg (aB 61 p1)))), (zsp 2), (zsp 3), (zsp 4), (7, (.d (.fn 96 [] [(.pin (aB 61 v1))])))]
noncomputable def z1f (p0 p1 v1 : zt0) (s1_2 : Int) (s1_3 r : zt0) : St := ⟨(zAx v1 s1_2), ⟨[], [[(zc 2 (aB 61 r)), (zc 3 (aB 61 p1)), (zc 4 (aB 61 (fun _ => false)))]]⟩, [⟨(zns p0 p1 v1), 0, rfP (blk TE 94 0), rfA (blk TE 94 0), rfB (blk TE 94 0), 94, .rdy⟩]⟩
noncomputable def zsx (v1 : zt0) (s1_2 : Int) : TM := [(0, (.yld 0)), (1, (.d (.pin (aB 61 v1)))), (5, (.d (.agg (aB 61 v1)))), (6, (xi s1_2)), (7, (xb true)), (3, (xi s1_2)), (4, (xb (v1 s1_2.toNat)))]
theorem zSo (k : Nat) (p0 p1 v1 : zt0) (s1_2 : Int) (s1_3 r : zt0) (h : z1g k p0 p1 v1 s1_2 s1_3 = some r) : ev TE 96 (rgn TE 96 3) ⟨(zsx v1 s1_2), ⟨[], [[(zc 2 (aB 61 s1_3)), (zc 3 (aB 61 p1)), (zc 4 (aB 61 (fun _ => false)))]]⟩, [⟨(zns p0 p1 v1), 0, rfP (blk TE 94 0), rfA (blk TE 94 0), rfB (blk TE 94 0), 94, .rdy⟩]⟩ = some (.nor, z1f p0 p1 v1 s1_2 s1_3 r) := by
 unfold z1g at h
 refine zr h (fun h401 g1 => ?_) (fun h401 g1 => ?_)
 ·refine z8 g1 (fun h402 g2 => ?_)
  exact zJ (g := fun r => (Ex.nor, z1f p0 p1 v1 s1_2 s1_3 r)) g2 (zqe [(96, 3, 1, .q (xb true)), (94, 3, 1, .q (.ptr 0 2 (s1_2.toNat))), (94, 3, 2, .st ((aB 61 (upd s1_3 s1_2.toNat true)).map .d))] [] (ob (o_b h401) (ob (zVc (m := 61) 0 2 0 1 s1_2.toNat h402 (by omega)) (ob (zDi 61 s1_3 s1_2.toNat true (by have := h402; simp only [Bool.and_eq_true, decide_eq_true_eq] at this; omega)) ob0))) (by kernel_rfl))
 ·exact zJ (g := fun r => (Ex.nor, z1f p0 p1 v1 s1_2 s1_3 r)) g1 (zqe [(96, 3, 1, .q (xb false))] [] (ob (o_b h401) ob0) (by kernel_rfl))
noncomputable def z6x (v1 : zt0) (s1_2 : Int) : TM := [(0, (.yld 0)), (1, (.d (.pin (aB 61 v1)))), (5, (.d (.agg (aB 61 v1)))), (6, (xi s1_2))]
noncomputable def z3o (p0 p1 v1 : zt0) (s1_2 : Int) (s1_3 : zt0) : St := ⟨(z6x v1 s1_2), ⟨[], [[(zc 2 (aB 61 s1_3)), (zc 3 (aB 61 p1)), (zc 4 (aB 61 (fun _ => false)))]]⟩, [⟨(zns p0 p1 v1), 0, rfP (blk TE 94 0), rfA (blk TE 94 0), rfB (blk TE 94 0), 94, .rdy⟩]⟩
noncomputable def zPx (v1 : zt0) (r : zt8) : TM := [(0, (.yld 0)), (1, (.d (.pin (aB 61 v1)))), (5, (.d (.agg (aB 61 v1)))), (6, (xi r.1)), (7, (xb false))]
noncomputable def zfh (p0 p1 v1 : zt0) (r : zt8) : St := ⟨(zPx v1 r), ⟨[], [[(zc 2 (aB 61 r.2)), (zc 3 (aB 61 p1)), (zc 4 (aB 61 (fun _ => false)))]]⟩, [⟨(zns p0 p1 v1), 0, rfP (blk TE 94 0), rfA (blk TE 94 0), rfB (blk TE 94 0), 94, .rdy⟩]⟩
noncomputable def z2o (p0 p1 v1 : zt0) : (Int × (Nat → Bool)) → Ex × St := fun r => ((.exit 0), zfh p0 p1 v1 r)
theorem zKo (k : Nat) (p0 p1 v1 : zt0) (s1_2 : Int) (s1_3 : zt0) (x : (Int × (Nat → Bool)) ⊕ (Int × (Nat → Bool))) (h : zSf k p0 p1 v1 s1_2 s1_3 = some x) : z7 TE 96 (blk TE 96 0) (fun s : (Int × (Nat → Bool)) => z3o p0 p1 v1 s.1 s.2) (z2o p0 p1 v1) (s1_2, s1_3) x := by
 unfold zSf at h
 refine zr h (fun h301 g1 => ?_) (fun h301 g1 => ?_)
 ·refine z8 g1 (fun h302 g2 => ?_)
  refine zp g2 (fun v303 h304 g3 => ?_)
  exact zqn ((w64 (s1_2 + 1)), v303) [] [(96, 1, 0, .q (xb true)), (96, 2, 1, .q (xb (v1 s1_2.toNat)))] [(96, 1000003, (.nor, z1f p0 p1 v1 s1_2 s1_3 v303))] g3 (ob (o_b h301) (ob (zup 61 v1 s1_2 h302) (ob (zSo k p0 p1 v1 s1_2 s1_3 _ h304) ob0))) (by kernel_rfl)
 ·exact zqo [(96, 1, 0, .q (xb false))] [] g1 (ob (o_b h301) ob0) (by kernel_rfl)
theorem zYm (k : Nat) (p0 p1 r : zt0) (h : zsg k p0 p1 = some r) : zV TE (ev TE) 94 [(.agg (aB 61 p0)), (.agg (aB 61 p1))] = some (zcn r) := by
 unfold zsg at h
 refine zp h (fun v1 h2 g1 => ?_)
 refine zp g1 (fun v3 h4 g2 => ?_)
 exact zM (g := zcn) g2 (zqc [(94, 1, 1, .c (.fn 96 [] [(.pin (aB 61 v1))]))] [(96, 0, (.nor, zfh p0 p1 v1 v3))] (ob (zad k p1 _ h2) (ob (zR (id := 0) (r' := (.nor, zfh p0 p1 v1 v3)) (z4b (zKo k p0 p1 v1) k _ _ h4) rfl) ob0)) (by kernel_rfl))
noncomputable def zox (v3105 : zt5) (s31_10 s36_15 : Int) (r : Bool) : TM := [(0, (.yld 0)), (1, (.d (.pin [(di v3105.1), (dl zi v3105.2.1.1 v3105.2.1.2), (dl zk v3105.2.2.1.1 v3105.2.2.1.2), (dl zd v3105.2.2.2.1.1 v3105.2.2.2.1.2), (dl zh v3105.2.2.2.2.1.1 v3105.2.2.2.2.1.2), (di v3105.2.2.2.2.2.1), (di v3105.2.2.2.2.2.2.1)]))), (2, (.d (.pin [(di v3105.2.2.2.2.2.2.2.1)]))), (3, (.d (.pin [(di v3105.2.2.2.2.2.2.2.2)]))), (14, (xi (zT 1 (v3105.2.2.2.1.1.length : Int)))), (15, (xi s31_10)), (16, (xb true)), (5, (xi s31_10)), (20, (.d (dl zd v3105.2.2.2.1.1 v3105.2.2.2.1.2))), (21, (xi (v3105.2.2.2.1.1.length : Int))), (22, (xi s36_15)), (23, (xb true)), (7, (.ptr 1 7 0)), (6, (xi s36_15)), (8, (xb ((zyb (zfb v3105.2.2.2.2.2.2.2.1 s36_15) 1) == 1))), (9, (xb ((zyb (zfb s31_10 s36_15) 1) == 1))), (41, (xb false)), (76, (xb r))]
noncomputable def zcj (p0 : zl) (s1_8 s21_11 : Int) (v3105 : zt5) : TM := [(0, (.d (.agg (zu p0)))), (zsp 1), (2, (.d .nilm)), (zsp 3), (18, (xi p0.ShelfBook.Days)), (19, (xi s1_8)), (20, (xb true)), (zsp 4), (26, (xi (zT 1 (p0.ShelfBook.Deliveries.1.length : Int)))), (27, (xi s21_11)), (28, (xb true)), (zsp 5), (zsp 6), (38, (xb false)), (42, (.d (.fn 97 [] [(.pin [(di v3105.1), (dl zi v3105.2.1.1 v3105.2.1.2), (dl zk v3105.2.2.1.1 v3105.2.2.1.2), (dl zd v3105.2.2.2.1.1 v3105.2.2.2.1.2), (dl zh v3105.2.2.2.2.1.1 v3105.2.2.2.2.1.2), (di v3105.2.2.2.2.2.1), (di v3105.2.2.2.2.2.2.1)]), (.pin [(di v3105.2.2.2.2.2.2.2.1)]), (.pin [(di v3105.2.2.2.2.2.2.2.2)])])))]
noncomputable def zab (p0 : zl) (s1_8 s21_11 : Int) (s21_19 : zt2) (v3105 : zt5) (s31_10 : Int) (s31_18 : zt2) (s36_15 : Int) (v3802 : zn) (r : Bool) : St := ⟨(zox v3105 s31_10 s36_15 r), ⟨[(zc 7 (zd v3802))], [[(zc 1 (zu p0)), (11, (.map (em (fun k => D.agg (zG k)) (fun v => D.agg ((aB 61) v)) s31_18))), (3, (.cells [(.map 0 11)])), (4, (.cells [(xi s1_8)])), (5, (.cells [(xi s21_11)])), (zc 6 (aB 61 ((zhb zF (⟨(w64 (s1_8 - 1)), s21_11⟩ : zy) s21_19).getD (fun _ => false))))]]⟩, [⟨(zcj p0 s1_8 s21_11 v3105), 0, rfP (blk TE 81 4), rfA (blk TE 81 4), rfB (blk TE 81 4), 81, .rdy⟩]⟩
noncomputable def zRx (v3105 : zt5) (s31_10 s36_15 : Int) : TM := [(0, (.yld 0)), (1, (.d (.pin [(di v3105.1), (dl zi v3105.2.1.1 v3105.2.1.2), (dl zk v3105.2.2.1.1 v3105.2.2.1.2), (dl zd v3105.2.2.2.1.1 v3105.2.2.2.1.2), (dl zh v3105.2.2.2.2.1.1 v3105.2.2.2.2.1.2), (di v3105.2.2.2.2.2.1), (di v3105.2.2.2.2.2.2.1)]))), (2, (.d (.pin [(di v3105.2.2.2.2.2.2.2.1)]))), (3, (.d (.pin [(di v3105.2.2.2.2.2.2.2.2)]))), (14, (xi (zT 1 (v3105.2.2.2.1.1.length : Int)))), (15, (xi s31_10)), (16, (xb true)), (5, (xi s31_10)), (20, (.d (dl zd v3105.2.2.2.1.1 v3105.2.2.2.1.2))), (21, (xi (v3105.2.2.2.1.1.length : Int))), (22, (xi s36_15)), (23, (xb true)), (7, (.ptr 1 7 0)), (6, (xi s36_15)), (8, (xb ((zyb (zfb v3105.2.2.2.2.2.2.2.1 s36_15) 1) == 1))), (9, (xb ((zyb (zfb s31_10 s36_15) 1) == 1))), (41, (xb false))]
theorem zBg (k : Nat) (p0 : zl) (s1_8 s21_11 : Int) (s21_19 : zt2) (v3105 : zt5) (s31_10 : Int) (s31_18 : zt2) (s36_15 : Int) (v3802 : zn) (r : Bool) (h : zce k p0 s1_8 s21_11 s21_19 v3105 s31_10 s31_18 s36_15 v3802 = some r) : ev TE 97 (rgn TE 97 9) ⟨(zRx v3105 s31_10 s36_15), ⟨[(zc 7 (zd v3802))], [[(zc 1 (zu p0)), (11, (.map (em (fun k => D.agg (zG k)) (fun v => D.agg ((aB 61) v)) s31_18))), (3, (.cells [(.map 0 11)])), (4, (.cells [(xi s1_8)])), (5, (.cells [(xi s21_11)])), (zc 6 (aB 61 ((zhb zF (⟨(w64 (s1_8 - 1)), s21_11⟩ : zy) s21_19).getD (fun _ => false))))]]⟩, [⟨(zcj p0 s1_8 s21_11 v3105), 0, rfP (blk TE 81 4), rfA (blk TE 81 4), rfB (blk TE 81 4), 81, .rdy⟩]⟩ = some (.nor, zab p0 s1_8 s21_11 s21_19 v3105 s31_10 s31_18 s36_15 v3802 r) := by
 unfold zce at h
 refine zr h (fun h3901 g1 => ?_) (fun h3901 g1 => ?_)
 ·refine zr g1 (fun h3902 g2 => ?_) (fun h3902 g2 => ?_)
  ·exact zJ (g := fun r => (Ex.nor, zab p0 s1_8 s21_11 s21_19 v3105 s31_10 s31_18 s36_15 v3802 r)) g2 (zqe [(97, 9, 1, .q (xb true)), (97, 9, 5, .q (xb true))] [] (ob (o_b h3901) (ob (o_b h3902) ob0)) (by kernel_rfl))
  ·refine zr g2 (fun h3903 g3 => ?_) (fun h3903 g3 => ?_)
   ·refine zr g3 (fun h3904 g4 => ?_) (fun h3904 g4 => ?_)
    ·refine zp g4 (fun v3905 h3906 g5 => ?_)
     refine zr g5 (fun h3907 g6 => ?_) (fun h3907 g6 => ?_)
     ·exact zJ (g := fun r => (Ex.nor, zab p0 s1_8 s21_11 s21_19 v3105 s31_10 s31_18 s36_15 v3802 r)) g6 (zqe [(97, 9, 1, .q (xb true)), (97, 9, 5, .q (xb false)), (97, 9, 7, .q (xb true)), (97, 9, 11, .q (xb true)), (97, 9, 19, .c (db v3905)), (97, 9, 23, .q (xb true))] [] (ob (o_b h3901) (ob (o_b h3902) (ob (o_b h3903) (ob (o_b h3904) (ob (zN k v3105.2.2.2.2.2.2.2.2 v3802.Days.Low v3802.Days.High _ h3906) (ob (o_b h3907) ob0)))))) (by kernel_rfl))
     ·exact zJ (g := fun r => (Ex.nor, zab p0 s1_8 s21_11 s21_19 v3105 s31_10 s31_18 s36_15 v3802 r)) g6 (zqe [(97, 9, 1, .q (xb true)), (97, 9, 5, .q (xb false)), (97, 9, 7, .q (xb true)), (97, 9, 11, .q (xb true)), (97, 9, 19, .c (db v3905)), (97, 9, 23, .q (xb false)), (97, 9, 26, .q (xb false))] [] (ob (o_b h3901) (ob (o_b h3902) (ob (o_b h3903) (ob (o_b h3904) (ob (zN k v3105.2.2.2.2.2.2.2.2 v3802.Days.Low v3802.Days.High _ h3906) (ob (o_b h3907) (ob (o_b h3902) ob0))))))) (by kernel_rfl))
    ·exact zJ (g := fun r => (Ex.nor, zab p0 s1_8 s21_11 s21_19 v3105 s31_10 s31_18 s36_15 v3802 r)) g4 (zqe [(97, 9, 1, .q (xb true)), (97, 9, 5, .q (xb false)), (97, 9, 7, .q (xb true)), (97, 9, 11, .q (xb false)), (97, 9, 26, .q (xb false))] [] (ob (o_b h3901) (ob (o_b h3902) (ob (o_b h3903) (ob (o_b h3904) (ob (o_b h3902) ob0))))) (by kernel_rfl))
   ·exact zJ (g := fun r => (Ex.nor, zab p0 s1_8 s21_11 s21_19 v3105 s31_10 s31_18 s36_15 v3802 r)) g3 (zqe [(97, 9, 1, .q (xb true)), (97, 9, 5, .q (xb false)), (97, 9, 7, .q (xb false)), (97, 9, 26, .q (xb false))] [] (ob (o_b h3901) (ob (o_b h3902) (ob (o_b h3903) (ob (o_b h3902) ob0)))) (by kernel_rfl))
 ·refine zr g1 (fun h3902 g2 => ?_) (fun h3902 g2 => ?_)
  ·refine zr g2 (fun h3903 g3 => ?_) (fun h3903 g3 => ?_)
   ·refine zp g3 (fun v3904 h3905 g4 => ?_)
    refine zr g4 (fun h3906 g5 => ?_) (fun h3906 g5 => ?_)
    ·exact zJ (g := fun r => (Ex.nor, zab p0 s1_8 s21_11 s21_19 v3105 s31_10 s31_18 s36_15 v3802 r)) g5 (zqe [(97, 9, 1, .q (xb false)), (97, 9, 7, .q (xb true)), (97, 9, 11, .q (xb true)), (97, 9, 19, .c (db v3904)), (97, 9, 23, .q (xb true))] [] (ob (o_b h3901) (ob (o_b h3902) (ob (o_b h3903) (ob (zN k v3105.2.2.2.2.2.2.2.2 v3802.Days.Low v3802.Days.High _ h3905) (ob (o_b h3906) ob0))))) (by kernel_rfl))
    ·refine zr g5 (fun h3907 g6 => ?_) (fun h3907 g6 => ?_)
     ·exact zJ (g := fun r => (Ex.nor, zab p0 s1_8 s21_11 s21_19 v3105 s31_10 s31_18 s36_15 v3802 r)) g6 (zqe [(97, 9, 1, .q (xb false)), (97, 9, 7, .q (xb true)), (97, 9, 11, .q (xb true)), (97, 9, 19, .c (db v3904)), (97, 9, 23, .q (xb false)), (97, 9, 26, .q (xb true))] [] (ob (o_b h3901) (ob (o_b h3902) (ob (o_b h3903) (ob (zN k v3105.2.2.2.2.2.2.2.2 v3802.Days.Low v3802.Days.High _ h3905) (ob (o_b h3906) (ob (o_b h3907) ob0)))))) (by kernel_rfl))
     ·exact zJ (g := fun r => (Ex.nor, zab p0 s1_8 s21_11 s21_19 v3105 s31_10 s31_18 s36_15 v3802 r)) g6 (zqe [(97, 9, 1, .q (xb false)), (97, 9, 7, .q (xb true)), (97, 9, 11, .q (xb true)), (97, 9, 19, .c (db v3904)), (97, 9, 23, .q (xb false)), (97, 9, 26, .q (xb false))] [] (ob (o_b h3901) (ob (o_b h3902) (ob (o_b h3903) (ob (zN k v3105.2.2.2.2.2.2.2.2 v3802.Days.Low v3802.Days.High _ h3905) (ob (o_b h3906) (ob (o_b h3907) ob0)))))) (by kernel_rfl))
   ·refine zr g3 (fun h3904 g4 => ?_) (fun h3904 g4 => ?_)
    ·exact zJ (g := fun r => (Ex.nor, zab p0 s1_8 s21_11 s21_19 v3105 s31_10 s31_18 s36_15 v3802 r)) g4 (zqe [(97, 9, 1, .q (xb false)), (97, 9, 7, .q (xb true)), (97, 9, 11, .q (xb false)), (97, 9, 26, .q (xb true))] [] (ob (o_b h3901) (ob (o_b h3902) (ob (o_b h3903) (ob (o_b h3904) ob0)))) (by kernel_rfl))
    ·exact zJ (g := fun r => (Ex.nor, zab p0 s1_8 s21_11 s21_19 v3105 s31_10 s31_18 s36_15 v3802 r)) g4 (zqe [(97, 9, 1, .q (xb false)), (97, 9, 7, .q (xb true)), (97, 9, 11, .q (xb false)), (97, 9, 26, .q (xb false))] [] (ob (o_b h3901) (ob (o_b h3902) (ob (o_b h3903) (ob (o_b h3904) ob0)))) (by kernel_rfl))
  ·refine zr g2 (fun h3903 g3 => ?_) (fun h3903 g3 => ?_)
   ·exact zJ (g := fun r => (Ex.nor, zab p0 s1_8 s21_11 s21_19 v3105 s31_10 s31_18 s36_15 v3802 r)) g3 (zqe [(97, 9, 1, .q (xb false)), (97, 9, 7, .q (xb false)), (97, 9, 26, .q (xb true))] [] (ob (o_b h3901) (ob (o_b h3902) (ob (o_b h3903) ob0))) (by kernel_rfl))
   ·exact zJ (g := fun r => (Ex.nor, zab p0 s1_8 s21_11 s21_19 v3105 s31_10 s31_18 s36_15 v3802 r)) g3 (zqe [(97, 9, 1, .q (xb false)), (97, 9, 7, .q (xb false)), (97, 9, 26, .q (xb false))] [] (ob (o_b h3901) (ob (o_b h3902) (ob (o_b h3903) ob0))) (by kernel_rfl))
noncomputable def zQx (v3105 : zt5) (s31_10 s36_15 : Int) : TM := [(0, (.yld 0)), (1, (.d (.pin [(di v3105.1), (dl zi v3105.2.1.1 v3105.2.1.2), (dl zk v3105.2.2.1.1 v3105.2.2.1.2), (dl zd v3105.2.2.2.1.1 v3105.2.2.2.1.2), (dl zh v3105.2.2.2.2.1.1 v3105.2.2.2.2.1.2), (di v3105.2.2.2.2.2.1), (di v3105.2.2.2.2.2.2.1)]))), (2, (.d (.pin [(di v3105.2.2.2.2.2.2.2.1)]))), (3, (.d (.pin [(di v3105.2.2.2.2.2.2.2.2)]))), (14, (xi (zT 1 (v3105.2.2.2.1.1.length : Int)))), (15, (xi s31_10)), (16, (xb true)), (5, (xi s31_10)), (20, (.d (dl zd v3105.2.2.2.1.1 v3105.2.2.2.1.2))), (21, (xi (v3105.2.2.2.1.1.length : Int))), (22, (xi s36_15))]
noncomputable def zhl (p0 : zl) (s1_8 s21_11 : Int) (s21_19 : zt2) (v3105 : zt5) (s31_10 : Int) (s31_18 : zt2) (s36_15 : Int) : St := ⟨(zQx v3105 s31_10 s36_15), ⟨[], [[(zc 1 (zu p0)), (11, (.map (em (fun k => D.agg (zG k)) (fun v => D.agg ((aB 61) v)) s31_18))), (3, (.cells [(.map 0 11)])), (4, (.cells [(xi s1_8)])), (5, (.cells [(xi s21_11)])), (zc 6 (aB 61 ((zhb zF (⟨(w64 (s1_8 - 1)), s21_11⟩ : zy) s21_19).getD (fun _ => false))))]]⟩, [⟨(zcj p0 s1_8 s21_11 v3105), 0, rfP (blk TE 81 4), rfA (blk TE 81 4), rfB (blk TE 81 4), 81, .rdy⟩]⟩
noncomputable def zvy (v3105 : zt5) (s31_10 : Int) (r : (Int × Bool × Bool × Int × Int × Int × Int × Int)) : TM := [(0, (.yld 0)), (1, (.d (.pin [(di v3105.1), (dl zi v3105.2.1.1 v3105.2.1.2), (dl zk v3105.2.2.1.1 v3105.2.2.1.2), (dl zd v3105.2.2.2.1.1 v3105.2.2.2.1.2), (dl zh v3105.2.2.2.2.1.1 v3105.2.2.2.2.1.2), (di v3105.2.2.2.2.2.1), (di v3105.2.2.2.2.2.2.1)]))), (2, (.d (.pin [(di v3105.2.2.2.2.2.2.2.1)]))), (3, (.d (.pin [(di v3105.2.2.2.2.2.2.2.2)]))), (14, (xi (zT 1 (v3105.2.2.2.1.1.length : Int)))), (15, (xi s31_10)), (16, (xb true)), (5, (xi s31_10)), (20, (.d (dl zd v3105.2.2.2.1.1 v3105.2.2.2.1.2))), (21, (xi (v3105.2.2.2.1.1.length : Int))), (22, (xi r.1)), (23, (xb true)), (7, (.ptr 1 7 0)), (6, (xi r.1)), (8, (xb r.2.1)), (9, (xb r.2.2.1)), (41, (xb true)), (42, (xb true))]
noncomputable def zIe (p0 : zl) (s1_8 s21_11 : Int) (s21_19 : zt2) (v3105 : zt5) (s31_10 : Int) (s31_18 : zt2) (r : (Int × Bool × Bool × Int × Int × Int × Int × Int)) : St := ⟨(zvy v3105 s31_10 r), ⟨[(7, (.cells [(xi r.2.2.2.1), (xi r.2.2.2.2.1), (xi r.2.2.2.2.2.1), (xi r.2.2.2.2.2.2.1), (xi r.2.2.2.2.2.2.2)]))], [[(zc 1 (zu p0)), (11, (.map (em (fun k => D.agg (zG k)) (fun v => D.agg ((aB 61) v)) s31_18))), (3, (.cells [(.map 0 11)])), (4, (.cells [(xi s1_8)])), (5, (.cells [(xi s21_11)])), (zc 6 (aB 61 ((zhb zF (⟨(w64 (s1_8 - 1)), s21_11⟩ : zy) s21_19).getD (fun _ => false))))]]⟩, [⟨(zcj p0 s1_8 s21_11 v3105), 0, rfP (blk TE 81 4), rfA (blk TE 81 4), rfB (blk TE 81 4), 81, .rdy⟩]⟩
noncomputable def zsy (v3105 : zt5) (s31_10 : Int) (r : (Int × Bool × Bool × Int × Int × Int × Int × Int)) : TM := [(0, (.yld 0)), (1, (.d (.pin [(di v3105.1), (dl zi v3105.2.1.1 v3105.2.1.2), (dl zk v3105.2.2.1.1 v3105.2.2.1.2), (dl zd v3105.2.2.2.1.1 v3105.2.2.2.1.2), (dl zh v3105.2.2.2.2.1.1 v3105.2.2.2.2.1.2), (di v3105.2.2.2.2.2.1), (di v3105.2.2.2.2.2.2.1)]))), (2, (.d (.pin [(di v3105.2.2.2.2.2.2.2.1)]))), (3, (.d (.pin [(di v3105.2.2.2.2.2.2.2.2)]))), (14, (xi (zT 1 (v3105.2.2.2.1.1.length : Int)))), (15, (xi s31_10)), (16, (xb true)), (5, (xi s31_10)), (20, (.d (dl zd v3105.2.2.2.1.1 v3105.2.2.2.1.2))), (21, (xi (v3105.2.2.2.1.1.length : Int))), (22, (xi r.1)), (23, (xb true)), (7, (.ptr 1 7 0)), (6, (xi r.1)), (8, (xb r.2.1)), (9, (xb r.2.2.1)), (41, (xb false)), (76, (xb true))]
noncomputable def zEe (p0 : zl) (s1_8 s21_11 : Int) (s21_19 : zt2) (v3105 : zt5) (s31_10 : Int) (s31_18 : zt2) (r : (Int × Bool × Bool × Int × Int × Int × Int × Int)) : St := ⟨(zsy v3105 s31_10 r), ⟨[(7, (.cells [(xi r.2.2.2.1), (xi r.2.2.2.2.1), (xi r.2.2.2.2.2.1), (xi r.2.2.2.2.2.2.1), (xi r.2.2.2.2.2.2.2)]))], [[(zc 1 (zu p0)), (11, (.map (em (fun k => D.agg (zG k)) (fun v => D.agg ((aB 61) v)) s31_18))), (3, (.cells [(.map 0 11)])), (4, (.cells [(xi s1_8)])), (5, (.cells [(xi s21_11)])), (zc 6 (aB 61 ((zhb zF (⟨(w64 (s1_8 - 1)), s21_11⟩ : zy) s21_19).getD (fun _ => false))))]]⟩, [⟨(zcj p0 s1_8 s21_11 v3105), 0, rfP (blk TE 81 4), rfA (blk TE 81 4), rfB (blk TE 81 4), 81, .rdy⟩]⟩
noncomputable def zBx (v3105 : zt5) (s31_10 r : Int) : TM := [(0, (.yld 0)), (1, (.d (.pin [(di v3105.1), (dl zi v3105.2.1.1 v3105.2.1.2), (dl zk v3105.2.2.1.1 v3105.2.2.1.2), (dl zd v3105.2.2.2.1.1 v3105.2.2.2.1.2), (dl zh v3105.2.2.2.2.1.1 v3105.2.2.2.2.1.2), (di v3105.2.2.2.2.2.1), (di v3105.2.2.2.2.2.2.1)]))), (2, (.d (.pin [(di v3105.2.2.2.2.2.2.2.1)]))), (3, (.d (.pin [(di v3105.2.2.2.2.2.2.2.2)]))), (14, (xi (zT 1 (v3105.2.2.2.1.1.length : Int)))), (15, (xi s31_10)), (16, (xb true)), (5, (xi s31_10)), (20, (.d (dl zd v3105.2.2.2.1.1 v3105.2.2.2.1.2))), (21, (xi (v3105.2.2.2.1.1.length : Int))), (22, (xi r)), (23, (xb false))]
noncomputable def zHe (p0 : zl) (s1_8 s21_11 : Int) (s21_19 : zt2) (v3105 : zt5) (s31_10 : Int) (s31_18 : zt2) (r : Int) : St := ⟨(zBx v3105 s31_10 r), ⟨[], [[(zc 1 (zu p0)), (11, (.map (em (fun k => D.agg (zG k)) (fun v => D.agg ((aB 61) v)) s31_18))), (3, (.cells [(.map 0 11)])), (4, (.cells [(xi s1_8)])), (5, (.cells [(xi s21_11)])), (zc 6 (aB 61 ((zhb zF (⟨(w64 (s1_8 - 1)), s21_11⟩ : zy) s21_19).getD (fun _ => false))))]]⟩, [⟨(zcj p0 s1_8 s21_11 v3105), 0, rfP (blk TE 81 4), rfA (blk TE 81 4), rfB (blk TE 81 4), 81, .rdy⟩]⟩
noncomputable def zNl (p0 : zl) (s1_8 s21_11 : Int) (s21_19 : zt2) (v3105 : zt5) (s31_10 : Int) (s31_18 : zt2) : ((Int × Bool × Bool × Int × Int × Int × Int × Int) ⊕ ((Int × Bool × Bool × Int × Int × Int × Int × Int) ⊕ Int)) → Ex × St := Sum.elim (fun r => ((.exit 1), zIe p0 s1_8 s21_11 s21_19 v3105 s31_10 s31_18 r)) (Sum.elim (fun r => ((.exit 1), zEe p0 s1_8 s21_11 s21_19 v3105 s31_10 s31_18 r)) (fun r => ((.exit 2), zHe p0 s1_8 s21_11 s21_19 v3105 s31_10 s31_18 r)))
theorem zDe (k : Nat) (p0 : zl) (s1_8 s21_11 : Int) (s21_19 : zt2) (v3105 : zt5) (s31_10 : Int) (s31_18 : zt2) (s36_15 : Int) (x : Int ⊕ ((Int × Bool × Bool × Int × Int × Int × Int × Int) ⊕ ((Int × Bool × Bool × Int × Int × Int × Int × Int) ⊕ Int))) (h : zuc k p0 s1_8 s21_11 s21_19 v3105 s31_10 s31_18 s36_15 = some x) : z7 TE 97 (blk TE 97 2) (fun s : Int => zhl p0 s1_8 s21_11 s21_19 v3105 s31_10 s31_18 s) (zNl p0 s1_8 s21_11 s21_19 v3105 s31_10 s31_18) s36_15 x := by
 unfold zuc at h
 refine zr h (fun h3801 g1 => ?_) (fun h3801 g1 => ?_)
 ·refine zp g1 (fun v3802 h3803 g2 => ?_)
  refine zr g2 (fun h3804 g3 => ?_) (fun h3804 g3 => ?_)
  ·cases g3
  ·refine zr g3 (fun h3805 g4 => ?_) (fun h3805 g4 => ?_)
   ·refine zr g4 (fun h3806 g5 => ?_) (fun h3806 g5 => ?_)
    ·exact zqo [(97, 4, 0, .q (xb true)), (97, 5, 1, .q (.d (.pin (zd v3802)))), (97, 6, 2, .q (xi (zfb v3105.2.2.2.2.2.2.2.1 s36_15))), (97, 6, 7, .q (xi (zfb s31_10 s36_15))), (97, 7, 4, .q (xb true)), (97, 8, 0, .q (xb true))] [] g5 (ob (o_b h3801) (ob (o_ia (e := zd) 5 h3803 rfl) (ob (zae (x := v3105.2.2.2.2.2.2.2.1) h3804) (ob (zae (x := s31_10) h3804) (ob (o_b h3805) (ob (o_b h3806) ob0)))))) (by kernel_rfl)
    ·exact zqn (w64 (s36_15 + 1)) [] [(97, 4, 0, .q (xb true)), (97, 5, 1, .q (.d (.pin (zd v3802)))), (97, 6, 2, .q (xi (zfb v3105.2.2.2.2.2.2.2.1 s36_15))), (97, 6, 7, .q (xi (zfb s31_10 s36_15))), (97, 7, 4, .q (xb true)), (97, 8, 0, .q (xb false))] [] g5 (ob (o_b h3801) (ob (o_ia (e := zd) 5 h3803 rfl) (ob (zae (x := v3105.2.2.2.2.2.2.2.1) h3804) (ob (zae (x := s31_10) h3804) (ob (o_b h3805) (ob (o_b h3806) ob0)))))) (by kernel_rfl)
   ·refine zp g4 (fun v3806 h3807 g5 => ?_)
    refine zr g5 (fun h3808 g6 => ?_) (fun h3808 g6 => ?_)
    ·subst h3808
     exact zqo [(97, 4, 0, .q (xb true)), (97, 5, 1, .q (.d (.pin (zd v3802)))), (97, 6, 2, .q (xi (zfb v3105.2.2.2.2.2.2.2.1 s36_15))), (97, 6, 7, .q (xi (zfb s31_10 s36_15))), (97, 7, 4, .q (xb false))] [(97, 1000009, (.nor, zab p0 s1_8 s21_11 s21_19 v3105 s31_10 s31_18 s36_15 v3802 true))] g6 (ob (o_b h3801) (ob (o_ia (e := zd) 5 h3803 rfl) (ob (zae (x := v3105.2.2.2.2.2.2.2.1) h3804) (ob (zae (x := s31_10) h3804) (ob (o_b h3805) (ob (zBg k p0 s1_8 s21_11 s21_19 v3105 s31_10 s31_18 s36_15 v3802 _ h3807) ob0)))))) (by kernel_rfl)
    ·subst h3808
     exact zqn (w64 (s36_15 + 1)) [] [(97, 4, 0, .q (xb true)), (97, 5, 1, .q (.d (.pin (zd v3802)))), (97, 6, 2, .q (xi (zfb v3105.2.2.2.2.2.2.2.1 s36_15))), (97, 6, 7, .q (xi (zfb s31_10 s36_15))), (97, 7, 4, .q (xb false))] [(97, 1000009, (.nor, zab p0 s1_8 s21_11 s21_19 v3105 s31_10 s31_18 s36_15 v3802 false))] g6 (ob (o_b h3801) (ob (o_ia (e := zd) 5 h3803 rfl) (ob (zae (x := v3105.2.2.2.2.2.2.2.1) h3804) (ob (zae (x := s31_10) h3804) (ob (o_b h3805) (ob (zBg k p0 s1_8 s21_11 s21_19 v3105 s31_10 s31_18 s36_15 v3802 _ h3807) ob0)))))) (by kernel_rfl)
 ·exact zqo [(97, 4, 0, .q (xb false))] [] g1 (ob (o_b h3801) ob0) (by kernel_rfl)
noncomputable def zwx (p0 : zl) (s1_8 s21_11 : Int) (v3105 : zt5) (s31_10 : Int) (v3606 : (SL zL)) (s39_27 : Int) : TM := zcj p0 s1_8 s21_11 v3105 ++ [(43, (xi s31_10)), (7, (xi s31_10)), (8, (.ptr 2 8 0)), (50, (.d (dl zW v3606.1 v3606.2))), (51, (xi (v3606.1.length : Int))), (52, (xi s39_27))]
noncomputable def zul (p0 : zl) (s1_8 s21_11 : Int) (s21_19 : zt2) (v3105 : zt5) (s31_10 : Int) (s31_18 : zt2) (v3606 : (SL zL)) (s39_27 : Int) (s39_28 : zt0) : St := ⟨(zwx p0 s1_8 s21_11 v3105 s31_10 v3606 s39_27), ⟨[(zc 8 (aB 61 s39_28))], [[(zc 1 (zu p0)), (11, (.map (em (fun k => D.agg (zG k)) (fun v => D.agg ((aB 61) v)) s31_18))), (3, (.cells [(.map 0 11)])), (4, (.cells [(xi s1_8)])), (5, (.cells [(xi s21_11)])), (zc 6 (aB 61 ((zhb zF (⟨(w64 (s1_8 - 1)), s21_11⟩ : zy) s21_19).getD (fun _ => false))))], []]⟩, [⟨(zcj p0 s1_8 s21_11 v3105), 0, rfP (blk TE 81 4), rfA (blk TE 81 4), rfB (blk TE 81 4), 81, .busy⟩]⟩
noncomputable def zky (p0 : zl) (s1_8 s21_11 : Int) (v3105 : zt5) (s31_10 : Int) (v3606 : (SL zL)) (r : zt8) : TM := zcj p0 s1_8 s21_11 v3105 ++ [(43, (xi s31_10)), (7, (xi s31_10)), (8, (.ptr 2 8 0)), (50, (.d (dl zW v3606.1 v3606.2))), (51, (xi (v3606.1.length : Int))), (52, (xi r.1)), (53, (xb false))]
noncomputable def zGe (p0 : zl) (s1_8 s21_11 : Int) (s21_19 : zt2) (v3105 : zt5) (s31_10 : Int) (s31_18 : zt2) (v3606 : (SL zL)) (r : zt8) : St := ⟨(zky p0 s1_8 s21_11 v3105 s31_10 v3606 r), ⟨[(zc 8 (aB 61 r.2))], [[(zc 1 (zu p0)), (11, (.map (em (fun k => D.agg (zG k)) (fun v => D.agg ((aB 61) v)) s31_18))), (3, (.cells [(.map 0 11)])), (4, (.cells [(xi s1_8)])), (5, (.cells [(xi s21_11)])), (zc 6 (aB 61 ((zhb zF (⟨(w64 (s1_8 - 1)), s21_11⟩ : zy) s21_19).getD (fun _ => false))))], []]⟩, [⟨(zcj p0 s1_8 s21_11 v3105), 0, rfP (blk TE 81 4), rfA (blk TE 81 4), rfB (blk TE 81 4), 81, .busy⟩]⟩
noncomputable def zzl (p0 : zl) (s1_8 s21_11 : Int) (s21_19 : zt2) (v3105 : zt5) (s31_10 : Int) (s31_18 : zt2) (v3606 : (SL zL)) : (Int × (Nat → Bool)) → Ex × St := fun r => ((.exit 6), zGe p0 s1_8 s21_11 s21_19 v3105 s31_10 s31_18 v3606 r)
theorem zHk (k : Nat) (p0 : zl) (s1_8 s21_11 : Int) (s21_19 : zt2) (v3105 : zt5) (s31_10 : Int) (s31_18 : zt2) (v3606 : (SL zL)) (s39_27 : Int) (s39_28 : zt0) (x : (Int × (Nat → Bool)) ⊕ (Int × (Nat → Bool))) (h : zsc k p0 s1_8 s21_11 s21_19 v3105 s31_10 s31_18 v3606 s39_27 s39_28 = some x) : z7 TE 81 (blk TE 81 6) (fun s : (Int × (Nat → Bool)) => zul p0 s1_8 s21_11 s21_19 v3105 s31_10 s31_18 v3606 s.1 s.2) (zzl p0 s1_8 s21_11 s21_19 v3105 s31_10 s31_18 v3606) (s39_27, s39_28) x := by
 unfold zsc at h
 refine zr h (fun h4001 g1 => ?_) (fun h4001 g1 => ?_)
 ·refine zp g1 (fun v4002 h4003 g2 => ?_)
  refine zp g2 (fun v4004 h4005 g3 => ?_)
  exact zqn ((w64 (s39_27 + 1)), v4004) [] [(81, 14, 0, .q (xb true)), (81, 15, 0, .q (.d (.pin (zW v4002)))), (81, 16, 6, .c (.agg (aB 61 v4004)))] [] g3 (ob (o_b h4001) (ob (o_ia (e := zW) 3 h4003 rfl) (ob (z1h k p0 s39_28 v4002.way v4002.by_ _ h4005) ob0))) (by kernel_rfl)
 ·exact zqo [(81, 14, 0, .q (xb false))] [] g1 (ob (o_b h4001) ob0) (by kernel_rfl)
noncomputable def zLx (v3105 : zt5) (s31_10 : Int) : TM := [(0, (.yld 0)), (1, (.d (.pin [(di v3105.1), (dl zi v3105.2.1.1 v3105.2.1.2), (dl zk v3105.2.2.1.1 v3105.2.2.1.2), (dl zd v3105.2.2.2.1.1 v3105.2.2.2.1.2), (dl zh v3105.2.2.2.2.1.1 v3105.2.2.2.2.1.2), (di v3105.2.2.2.2.2.1), (di v3105.2.2.2.2.2.2.1)]))), (2, (.d (.pin [(di v3105.2.2.2.2.2.2.2.1)]))), (3, (.d (.pin [(di v3105.2.2.2.2.2.2.2.2)]))), (14, (xi (zT 1 (v3105.2.2.2.1.1.length : Int)))), (15, (xi s31_10))]
noncomputable def zPl (p0 : zl) (s1_8 s21_11 : Int) (s21_19 : zt2) (v3105 : zt5) (s31_10 : Int) (s31_18 : zt2) : St := ⟨(zLx v3105 s31_10), ⟨[], [[(zc 1 (zu p0)), (11, (.map (em (fun k => D.agg (zG k)) (fun v => D.agg ((aB 61) v)) s31_18))), (3, (.cells [(.map 0 11)])), (4, (.cells [(xi s1_8)])), (5, (.cells [(xi s21_11)])), (zc 6 (aB 61 ((zhb zF (⟨(w64 (s1_8 - 1)), s21_11⟩ : zy) s21_19).getD (fun _ => false))))]]⟩, [⟨(zcj p0 s1_8 s21_11 v3105), 0, rfP (blk TE 81 4), rfA (blk TE 81 4), rfB (blk TE 81 4), 81, .rdy⟩]⟩
noncomputable def zry (v3105 : zt5) (r : zt6) : TM := [(0, (.yld 0)), (1, (.d (.pin [(di v3105.1), (dl zi v3105.2.1.1 v3105.2.1.2), (dl zk v3105.2.2.1.1 v3105.2.2.1.2), (dl zd v3105.2.2.2.1.1 v3105.2.2.2.1.2), (dl zh v3105.2.2.2.2.1.1 v3105.2.2.2.2.1.2), (di v3105.2.2.2.2.2.1), (di v3105.2.2.2.2.2.2.1)]))), (2, (.d (.pin [(di v3105.2.2.2.2.2.2.2.1)]))), (3, (.d (.pin [(di v3105.2.2.2.2.2.2.2.2)]))), (14, (xi (zT 1 (v3105.2.2.2.1.1.length : Int)))), (15, (xi r.1)), (16, (xb false))]
noncomputable def zFe (p0 : zl) (s1_8 s21_11 : Int) (s21_19 : zt2) (v3105 : zt5) (r : zt6) : St := ⟨(zry v3105 r), ⟨[], [[(zc 1 (zu p0)), (11, (.map (em (fun k => D.agg (zG k)) (fun v => D.agg ((aB 61) v)) r.2))), (3, (.cells [(.map 0 11)])), (4, (.cells [(xi s1_8)])), (5, (.cells [(xi s21_11)])), (zc 6 (aB 61 ((zhb zF (⟨(w64 (s1_8 - 1)), s21_11⟩ : zy) s21_19).getD (fun _ => false))))]]⟩, [⟨(zcj p0 s1_8 s21_11 v3105), 0, rfP (blk TE 81 4), rfA (blk TE 81 4), rfB (blk TE 81 4), 81, .rdy⟩]⟩
noncomputable def zxl (p0 : zl) (s1_8 s21_11 : Int) (s21_19 : zt2) (v3105 : zt5) : (Int × (List (zy × (Nat → Bool)))) → Ex × St := fun r => ((.exit 0), zFe p0 s1_8 s21_11 s21_19 v3105 r)
theorem zUk (k : Nat) (p0 : zl) (s1_8 s21_11 : Int) (s21_19 : zt2) (v3105 : zt5) (s31_10 : Int) (s31_18 : zt2) (x : (Int × (List (zy × (Nat → Bool)))) ⊕ (Int × (List (zy × (Nat → Bool))))) (h : zwc k p0 s1_8 s21_11 s21_19 v3105 s31_10 s31_18 = some x) : z7 TE 97 (blk TE 97 0) (fun s : (Int × (List (zy × (Nat → Bool)))) => zPl p0 s1_8 s21_11 s21_19 v3105 s.1 s.2) (zxl p0 s1_8 s21_11 s21_19 v3105) (s31_10, s31_18) x := by
 unfold zwc at h
 refine zr h (fun h3601 g1 => ?_) (fun h3601 g1 => ?_)
 ·refine zp g1 (fun v3602 h3603 g2 => ?_)
  refine zYd g2 (fun v3605 hh g3_0 => ?_) (fun w2_0 hh g3_0 => ?_)
  ·subst hh
   exact zqn ((w64 (s31_10 + 1)), s31_18) [] [(97, 1, 0, .q (xb true)), (97, 3, 3, .q (xi (v3105.2.2.2.1.1.length : Int)))] [(97, 2, ((.exit 1), zIe p0 s1_8 s21_11 s21_19 v3105 s31_10 s31_18 v3605))] g3_0 (ob (o_b h3601) (ob (zx zd v3105.2.2.2.1.1) (ob (zR (id := 2) (r' := ((.exit 1), zIe p0 s1_8 s21_11 s21_19 v3105 s31_10 s31_18 v3605)) (zYc (zDe k p0 s1_8 s21_11 s21_19 v3105 s31_10 s31_18) k _ _ h3603) rfl) ob0))) (by kernel_rfl)
  ·subst hh
   refine zYd g3_0 (fun v3605 hh g3_1 => ?_) (fun v3605 hh g3_1 => ?_)
   ·subst hh
    exact zqn ((w64 (s31_10 + 1)), s31_18) [] [(97, 1, 0, .q (xb true)), (97, 3, 3, .q (xi (v3105.2.2.2.1.1.length : Int)))] [(97, 2, ((.exit 1), zEe p0 s1_8 s21_11 s21_19 v3105 s31_10 s31_18 v3605))] g3_1 (ob (o_b h3601) (ob (zx zd v3105.2.2.2.1.1) (ob (zR (id := 2) (r' := ((.exit 1), zEe p0 s1_8 s21_11 s21_19 v3105 s31_10 s31_18 v3605)) (zYc (zDe k p0 s1_8 s21_11 s21_19 v3105 s31_10 s31_18) k _ _ h3603) rfl) ob0))) (by kernel_rfl)
   ·subst hh
    refine zp g3_1 (fun v3606 h3607 g4 => ?_)
    refine zp g4 (fun v3608 h3609 g5 => ?_)
    refine zp g5 (fun v3610 h3611 g6 => ?_)
    refine zp g6 (fun v3612 h3613 g7 => ?_)
    exact zqn ((w64 (s31_10 + 1)), (mset zF (⟨s1_8, s31_10⟩ : zy) v3612 s31_18)) [] [(97, 1, 0, .q (xb true)), (97, 3, 3, .q (xi (v3105.2.2.2.1.1.length : Int))), (81, 13, 5, .c (dl zW v3606.1 v3606.2)), (81, 13, 6, .q (xi (v3606.1.length : Int))), (81, 18, 8, .q (.d (.agg (aB 61 ((zhb zF (⟨s1_8, s31_10⟩ : zy) s31_18).getD (fun _ => false)))))), (81, 18, 12, .c (.agg (aB 61 v3610))), (81, 18, 13, .c (.agg (aB 61 v3612))), (81, 18, 14, .mp (em (fun k => D.agg (zG k)) (fun v => D.agg ((aB 61) v)) (mset zF (⟨s1_8, s31_10⟩ : zy) v3612 s31_18)))] [(97, 2, (.nor, zHe p0 s1_8 s21_11 s21_19 v3105 s31_10 s31_18 v3605)), (81, 6, (.nor, zGe p0 s1_8 s21_11 s21_19 v3105 s31_10 s31_18 v3606 v3608))] g7 (ob (o_b h3601) (ob (zx zd v3105.2.2.2.1.1) (ob (zR (id := 2) (r' := (.nor, zHe p0 s1_8 s21_11 s21_19 v3105 s31_10 s31_18 v3605)) (zYc (zDe k p0 s1_8 s21_11 s21_19 v3105 s31_10 s31_18) k _ _ h3603) rfl) (ob (z2h k p0 s1_8 (zdi s31_10 s21_11) _ h3607) (ob (zx zW v3606.1) (ob (zR (id := 6) (r' := (.nor, zGe p0 s1_8 s21_11 s21_19 v3105 s31_10 s31_18 v3606 v3608)) (z4b (zHk k p0 s1_8 s21_11 s21_19 v3105 s31_10 s31_18 v3606) k _ _ h3609) rfl) (ob (zzh (ek := (fun k => D.agg (zG k))) (evl := (fun v => D.agg ((aB 61) v))) (q := zF) (fun _ _ => rfl) (⟨s1_8, s31_10⟩ : zy) s31_18 (fun _ => false)) (ob (zlh k p0 v3608.2 s1_8 _ h3611) (ob (zYm k ((zhb zF (⟨s1_8, s31_10⟩ : zy) s31_18).getD (fun _ => false)) v3610 _ h3613) (ob (zqp (ek := (fun k => D.agg (zG k))) (evl := (fun v => D.agg ((aB 61) v))) (q := zF) (fun _ _ => rfl) (⟨s1_8, s31_10⟩ : zy) v3612 s31_18) ob0)))))))))) (by kernel_rfl)
 ·exact zqo [(97, 1, 0, .q (xb false))] [] g1 (ob (o_b h3601) ob0) (by kernel_rfl)
noncomputable def zay (p0 : zl) (s1_8 s21_11 : Int) : TM := [(0, (.d (.agg (zu p0)))), (zsp 1), (2, (.d .nilm)), (zsp 3), (18, (xi p0.ShelfBook.Days)), (19, (xi s1_8)), (20, (xb true)), (zsp 4), (26, (xi (zT 1 (p0.ShelfBook.Deliveries.1.length : Int)))), (27, (xi s21_11))]
noncomputable def zml (p0 : zl) (s1_8 s21_11 : Int) (s21_19 : zt2) : St := ⟨(zay p0 s1_8 s21_11), ⟨[(zc 1 (zu p0)), (11, (.map (em (fun k => D.agg (zG k)) (fun v => D.agg ((aB 61) v)) s21_19))), (3, (.cells [(.map 0 11)])), (4, (.cells [(xi s1_8)]))], []⟩, []⟩
noncomputable def z1x (p0 : zl) (s1_8 : Int) (r : zt6) : TM := [(0, (.d (.agg (zu p0)))), (zsp 1), (2, (.d .nilm)), (zsp 3), (18, (xi p0.ShelfBook.Days)), (19, (xi s1_8)), (20, (xb true)), (zsp 4), (26, (xi (zT 1 (p0.ShelfBook.Deliveries.1.length : Int)))), (27, (xi r.1)), (28, (xb false))]
noncomputable def zCe (p0 : zl) (s1_8 : Int) (r : zt6) : St := ⟨(z1x p0 s1_8 r), ⟨[(zc 1 (zu p0)), (11, (.map (em (fun k => D.agg (zG k)) (fun v => D.agg ((aB 61) v)) r.2))), (3, (.cells [(.map 0 11)])), (4, (.cells [(xi s1_8)]))], []⟩, []⟩
noncomputable def zwl (p0 : zl) (s1_8 : Int) : (Int × (List (zy × (Nat → Bool)))) → Ex × St := fun r => ((.exit 2), zCe p0 s1_8 r)
theorem zJk (k : Nat) (p0 : zl) (s1_8 s21_11 : Int) (s21_19 : zt2) (x : (Int × (List (zy × (Nat → Bool)))) ⊕ (Int × (List (zy × (Nat → Bool))))) (h : zvc k p0 s1_8 s21_11 s21_19 = some x) : z7 TE 81 (blk TE 81 2) (fun s : (Int × (List (zy × (Nat → Bool)))) => zml p0 s1_8 s.1 s.2) (zwl p0 s1_8) (s21_11, s21_19) x := by
 unfold zvc at h
 refine zr h (fun h3101 g1 => ?_) (fun h3101 g1 => ?_)
 ·refine zp g1 (fun v3102 h3103 g2 => ?_)
  refine zr g2 (fun h3104 g3 => ?_) (fun h3104 g3 => ?_)
  ·exact zqn ((w64 (s21_11 + 1)), s21_19) [] [(81, 6, 0, .q (xb true)), (81, 8, 5, .q (.d (.agg (aB 61 ((zhb zF (⟨(w64 (s1_8 - 1)), s21_11⟩ : zy) s21_19).getD (fun _ => false)))))), (81, 9, 1, .c (.agg (aB 61 v3102))), (81, 9, 2, .q (xb true))] [] g3 (ob (o_b h3101) (ob (zzh (ek := (fun k => D.agg (zG k))) (evl := (fun v => D.agg ((aB 61) v))) (q := zF) (fun _ _ => rfl) (⟨(w64 (s1_8 - 1)), s21_11⟩ : zy) s21_19 (fun _ => false)) (ob (zEf k _ h3103) (ob (o_b h3104) ob0)))) (by kernel_rfl)
  ·refine zp g3 (fun v3105 h3106 g4 => ?_)
   refine zr g4 (fun h3107 g5 => ?_) (fun h3107 g5 => ?_)
   ·cases g5
   ·refine zp g5 (fun v3108 h3109 g6 => ?_)
    exact zqn ((w64 (s21_11 + 1)), v3108.2) [] [(81, 6, 0, .q (xb true)), (81, 8, 5, .q (.d (.agg (aB 61 ((zhb zF (⟨(w64 (s1_8 - 1)), s21_11⟩ : zy) s21_19).getD (fun _ => false)))))), (81, 9, 1, .c (.agg (aB 61 v3102))), (81, 9, 2, .q (xb false)), (81, 10, 3, .c (.fn 97 [] [(.pin [(di v3105.1), (dl zi v3105.2.1.1 v3105.2.1.2), (dl zk v3105.2.2.1.1 v3105.2.2.1.2), (dl zd v3105.2.2.2.1.1 v3105.2.2.2.1.2), (dl zh v3105.2.2.2.2.1.1 v3105.2.2.2.2.1.2), (di v3105.2.2.2.2.2.1), (di v3105.2.2.2.2.2.2.1)]), (.pin [(di v3105.2.2.2.2.2.2.2.1)]), (.pin [(di v3105.2.2.2.2.2.2.2.2)])])), (97, 0, 3, .q (xi (v3105.2.2.2.1.1.length : Int))), (97, 0, 4, .q (xi (zT 1 (v3105.2.2.2.1.1.length : Int))))] [(97, 0, (.nor, zFe p0 s1_8 s21_11 s21_19 v3105 v3108))] g6 (ob (o_b h3101) (ob (zzh (ek := (fun k => D.agg (zG k))) (evl := (fun v => D.agg ((aB 61) v))) (q := zF) (fun _ _ => rfl) (⟨(w64 (s1_8 - 1)), s21_11⟩ : zy) s21_19 (fun _ => false)) (ob (zEf k _ h3103) (ob (o_b h3104) (ob (z2i k p0 s1_8 s21_11 _ h3106) (ob (zx zd v3105.2.2.2.1.1) (ob (zjc (x := 1) h3107) (ob (zR (id := 0) (r' := (.nor, zFe p0 s1_8 s21_11 s21_19 v3105 v3108)) (z4b (zUk k p0 s1_8 s21_11 s21_19 v3105) k _ _ h3109) rfl) ob0)))))))) (by kernel_rfl)
 ·exact zqo [(81, 6, 0, .q (xb false))] [] g1 (ob (o_b h3101) ob0) (by kernel_rfl)
noncomputable def zxx (p0 : zl) (s1_8 : Int) : TM := [(0, (.d (.agg (zu p0)))), (zsp 1), (2, (.d .nilm)), (zsp 3), (18, (xi p0.ShelfBook.Days)), (19, (xi s1_8))]
noncomputable def zSl (p0 : zl) (s1_8 : Int) (s1_16 : zt2) : St := ⟨(zxx p0 s1_8), ⟨[(zc 1 (zu p0)), (11, (.map (em (fun k => D.agg (zG k)) (fun v => D.agg ((aB 61) v)) s1_16))), (3, (.cells [(.map 0 11)]))], []⟩, []⟩
noncomputable def zpx (p0 : zl) (r : zt6) : TM := [(0, (.d (.agg (zu p0)))), (zsp 1), (2, (.d .nilm)), (zsp 3), (18, (xi p0.ShelfBook.Days)), (19, (xi r.1)), (20, (xb false))]
noncomputable def zef (p0 : zl) (r : zt6) : St := ⟨(zpx p0 r), ⟨[(zc 1 (zu p0)), (11, (.map (em (fun k => D.agg (zG k)) (fun v => D.agg ((aB 61) v)) r.2))), (3, (.cells [(.map 0 11)]))], []⟩, []⟩
noncomputable def z8l (p0 : zl) : (Int × (List (zy × (Nat → Bool)))) → Ex × St := fun r => ((.exit 0), zef p0 r)
theorem zCl (k : Nat) (p0 : zl) (s1_8 : Int) (s1_16 : zt2) (x : (Int × (List (zy × (Nat → Bool)))) ⊕ (Int × (List (zy × (Nat → Bool))))) (h : zld k p0 s1_8 s1_16 = some x) : z7 TE 81 (blk TE 81 0) (fun s : (Int × (List (zy × (Nat → Bool)))) => zSl p0 s.1 s.2) (z8l p0) (s1_8, s1_16) x := by
 unfold zld at h
 refine zr h (fun h2101 g1 => ?_) (fun h2101 g1 => ?_)
 ·refine zr g1 (fun h2102 g2 => ?_) (fun h2102 g2 => ?_)
  ·cases g2
  ·refine zp g2 (fun v2103 h2104 g3 => ?_)
   exact zqn ((w64 (s1_8 + 1)), v2103.2) [] [(81, 3, 0, .q (xb true)), (81, 5, 3, .q (xi (p0.ShelfBook.Deliveries.1.length : Int))), (81, 5, 4, .q (xi (zT 1 (p0.ShelfBook.Deliveries.1.length : Int))))] [(81, 2, (.nor, zCe p0 s1_8 v2103))] g3 (ob (o_b h2101) (ob (zx zd p0.ShelfBook.Deliveries.1) (ob (zjc (x := 1) h2102) (ob (zR (id := 2) (r' := (.nor, zCe p0 s1_8 v2103)) (z4b (zJk k p0 s1_8) k _ _ h2104) rfl) ob0)))) (by kernel_rfl)
 ·exact zqo [(81, 3, 0, .q (xb false))] [] g1 (ob (o_b h2101) ob0) (by kernel_rfl)
theorem zZf (k : Nat) (p0 : zl) (r : zt2) (h : zsd k p0 = some r) : zV TE (ev TE) 81 [(.agg (zu p0))] = some (zYi r) := by
 unfold zsd at h
 refine zp h (fun v1 h2 g1 => ?_)
 refine zp g1 (fun v3 h4 g2 => ?_)
 exact zM (g := zYi) g2 (zqc [(81, 1, 3, .c (.agg (aB 61 v1)))] [(81, 0, (.nor, zef p0 v3))] (ob (z1m k p0 _ h2) (ob (zR (id := 0) (r' := (.nor, zef p0 v3)) (z4b (zCl k p0) k _ _ h4) rfl) ob0)) (by kernel_rfl))
noncomputable def zWx (p0 : zl) (v1 : zt2) (s1_10 : Int) : TM := [(0, (.d (.agg (zu p0)))), (zsp 1), (2, (xb false)), (3, (.d (.mp (em (fun k => D.agg (zG k)) (fun v => D.agg ((aB 61) v)) v1)))), (11, (xi (zT 1 (p0.ShelfBook.Deliveries.1.length : Int)))), (12, (xi s1_10))]
noncomputable def zZm (p0 : zl) (v1 : zt2) (s1_10 : Int) : St := ⟨(zWx p0 v1 s1_10), ⟨[(zc 1 (zu p0))], []⟩, []⟩
noncomputable def zhy (p0 : zl) (v1 : zt2) (r : Int) : TM := [(0, (.d (.agg (zu p0)))), (zsp 1), (2, (xb true)), (3, (.d (.mp (em (fun k => D.agg (zG k)) (fun v => D.agg ((aB 61) v)) v1)))), (11, (xi (zT 1 (p0.ShelfBook.Deliveries.1.length : Int)))), (12, (xi r)), (13, (xb true)), (4, (xi r)), (24, (xb true))]
noncomputable def zHf (p0 : zl) (v1 : zt2) (r : Int) : St := ⟨(zhy p0 v1 r), ⟨[(zc 1 (zu p0))], []⟩, []⟩
noncomputable def zxy (p0 : zl) (v1 : zt2) (r : Int) : TM := [(0, (.d (.agg (zu p0)))), (zsp 1), (2, (xb false)), (3, (.d (.mp (em (fun k => D.agg (zG k)) (fun v => D.agg ((aB 61) v)) v1)))), (11, (xi (zT 1 (p0.ShelfBook.Deliveries.1.length : Int)))), (12, (xi r)), (13, (xb false))]
noncomputable def zIf (p0 : zl) (v1 : zt2) (r : Int) : St := ⟨(zxy p0 v1 r), ⟨[(zc 1 (zu p0))], []⟩, []⟩
noncomputable def z0m (p0 : zl) (v1 : zt2) : (Int ⊕ Int) → Ex × St := Sum.elim (fun r => (.ret, zHf p0 v1 r)) (fun r => ((.exit 0), zIf p0 v1 r))
theorem zKh (k : Nat) (p0 : zl) (v1 : zt2) (s1_10 : Int) (x : Int ⊕ (Int ⊕ Int)) (h : z1d k p0 v1 s1_10 = some x) : z7 TE 67 (blk TE 67 0) (fun s : Int => zZm p0 v1 s) (z0m p0 v1) s1_10 x := by
 unfold z1d at h
 refine zr h (fun h201 g1 => ?_) (fun h201 g1 => ?_)
 ·refine zp g1 (fun v202 h203 g2 => ?_)
  refine zr g2 (fun h204 g3 => ?_) (fun h204 g3 => ?_)
  ·exact zqo [(67, 3, 0, .q (xb true)), (67, 5, 7, .q (.d (.agg (aB 61 ((zhb zF (⟨(w64 (p0.ShelfBook.Days - 1)), s1_10⟩ : zy) v1).getD (fun _ => false)))))), (67, 5, 8, .c (.agg (aB 61 v202))), (67, 5, 9, .q (xb true))] [] g3 (ob (o_b h201) (ob (zzh (ek := (fun k => D.agg (zG k))) (evl := (fun v => D.agg ((aB 61) v))) (q := zF) (fun _ _ => rfl) (⟨(w64 (p0.ShelfBook.Days - 1)), s1_10⟩ : zy) v1 (fun _ => false)) (ob (zEf k _ h203) (ob (o_b h204) ob0)))) (by kernel_rfl)
  ·exact zqn (w64 (s1_10 + 1)) [] [(67, 3, 0, .q (xb true)), (67, 5, 7, .q (.d (.agg (aB 61 ((zhb zF (⟨(w64 (p0.ShelfBook.Days - 1)), s1_10⟩ : zy) v1).getD (fun _ => false)))))), (67, 5, 8, .c (.agg (aB 61 v202))), (67, 5, 9, .q (xb false))] [] g3 (ob (o_b h201) (ob (zzh (ek := (fun k => D.agg (zG k))) (evl := (fun v => D.agg ((aB 61) v))) (q := zF) (fun _ _ => rfl) (⟨(w64 (p0.ShelfBook.Days - 1)), s1_10⟩ : zy) v1 (fun _ => false)) (ob (zEf k _ h203) (ob (o_b h204) ob0)))) (by kernel_rfl)
 ·exact zqo [(67, 3, 0, .q (xb false))] [] g1 (ob (o_b h201) ob0) (by kernel_rfl)
theorem zVd (k : Nat) (p0 : zl) (r : Bool) (h : ztd k p0 = some r) : zV TE (ev TE) 67 [(.agg (zu p0))] = some (zgh r) := by
 unfold ztd at h
 refine zp h (fun v1 h2 g1 => ?_)
 refine zr g1 (fun h3 g2 => ?_) (fun h3 g2 => ?_)
 ·cases g2
 ·refine zp g2 (fun v4 h5 g3 => ?_)
  refine zYd g3 (fun v7 hh g4_0 => ?_) (fun v7 hh g4_0 => ?_)
  ·subst hh
   exact zM (g := zgh) g4_0 (zqc [(67, 1, 1, .c (.mp (em (fun k => D.agg (zG k)) (fun v => D.agg ((aB 61) v)) v1))), (67, 2, 3, .q (xi (p0.ShelfBook.Deliveries.1.length : Int))), (67, 2, 4, .q (xi (zT 1 (p0.ShelfBook.Deliveries.1.length : Int))))] [(67, 0, (.ret, zHf p0 v1 v7))] (ob (zZf k p0 _ h2) (ob (zx zd p0.ShelfBook.Deliveries.1) (ob (zjc (x := 1) h3) (ob (zR (id := 0) (r' := (.ret, zHf p0 v1 v7)) (zYc (zKh k p0 v1) k _ _ h5) rfl) ob0)))) (by kernel_rfl))
  ·subst hh
   exact zM (g := zgh) g4_0 (zqc [(67, 1, 1, .c (.mp (em (fun k => D.agg (zG k)) (fun v => D.agg ((aB 61) v)) v1))), (67, 2, 3, .q (xi (p0.ShelfBook.Deliveries.1.length : Int))), (67, 2, 4, .q (xi (zT 1 (p0.ShelfBook.Deliveries.1.length : Int))))] [(67, 0, (.nor, zIf p0 v1 v7))] (ob (zZf k p0 _ h2) (ob (zx zd p0.ShelfBook.Deliveries.1) (ob (zjc (x := 1) h3) (ob (zR (id := 0) (r' := (.nor, zIf p0 v1 v7)) (zYc (zKh k p0 v1) k _ _ h5) rfl) ob0)))) (by kernel_rfl))
noncomputable def zXx (p0 : zb) (p1 s1_8 : Int) : TM := [(0, (.d (.agg (za p0)))), (1, (xi p1)), (zsp 2), (4, (xb false)), (9, (xi (p0.Shelves.1.length : Int))), (10, (xi s1_8))]
noncomputable def zSn (p0 : zb) (p1 s1_8 : Int) : St := ⟨(zXx p0 p1 s1_8), ⟨[(zc 2 (za p0))], []⟩, []⟩
noncomputable def zKx (p0 : zb) (p1 r : Int) : TM := [(0, (.d (.agg (za p0)))), (1, (xi p1)), (zsp 2), (4, (xb false)), (9, (xi (p0.Shelves.1.length : Int))), (10, (xi r)), (11, (xb true)), (5, (xi r)), (6, (.d (.fn 67 [(.agg ((za p0) ++ [(di r), (di p1)]))] []))), (20, (xb true))]
noncomputable def zng (p0 : zb) (p1 r : Int) : St := ⟨(zKx p0 p1 r), ⟨[(zc 2 (za p0))], []⟩, []⟩
noncomputable def zHx (p0 : zb) (p1 r : Int) : TM := [(0, (.d (.agg (za p0)))), (1, (xi p1)), (zsp 2), (4, (xb false)), (9, (xi (p0.Shelves.1.length : Int))), (10, (xi r)), (11, (xb false))]
noncomputable def z8f (p0 : zb) (p1 r : Int) : St := ⟨(zHx p0 p1 r), ⟨[(zc 2 (za p0))], []⟩, []⟩
noncomputable def zRn (p0 : zb) (p1 : Int) : (Int ⊕ Int) → Ex × St := Sum.elim (fun r => (.ret, zng p0 p1 r)) (fun r => ((.exit 0), z8f p0 p1 r))
theorem z6i (k : Nat) (p0 : zb) (p1 s1_8 : Int) (x : Int ⊕ (Int ⊕ Int)) (h : zRe k p0 p1 s1_8 = some x) : z7 TE 76 (blk TE 76 0) (fun s : Int => zSn p0 p1 s) (zRn p0 p1) s1_8 x := by
 unfold zRe at h
 refine zr h (fun h201 g1 => ?_) (fun h201 g1 => ?_)
 ·refine zp g1 (fun v202 h203 g2 => ?_)
  refine zr g2 (fun h204 g3 => ?_) (fun h204 g3 => ?_)
  ·exact zqo [(76, 2, 0, .q (xb true)), (76, 5, 1, .c (db v202)), (76, 5, 2, .q (xb true))] [] g3 (ob (o_b h201) (ob (zVd k (⟨p0, s1_8, p1⟩ : zl) _ h203) (ob (o_b h204) ob0))) (by kernel_rfl)
  ·exact zqn (w64 (s1_8 + 1)) [] [(76, 2, 0, .q (xb true)), (76, 5, 1, .c (db v202)), (76, 5, 2, .q (xb false))] [] g3 (ob (o_b h201) (ob (zVd k (⟨p0, s1_8, p1⟩ : zl) _ h203) (ob (o_b h204) ob0))) (by kernel_rfl)
 ·exact zqo [(76, 2, 0, .q (xb false))] [] g1 (ob (o_b h201) ob0) (by kernel_rfl)
theorem zNb (k : Nat) (p0 : zb) (p1 : Int) (r : Bool) (h : zIb k p0 p1 = some r) : zV TE (ev TE) 76 [(.agg (za p0)), (di p1)] = some (zgi r) := by
 unfold zIb at h
 refine zp h (fun v1 h2 g1 => ?_)
 refine zYd g1 (fun v4 hh g2_0 => ?_) (fun v4 hh g2_0 => ?_)
 ·subst hh
  exact zM (g := zgi) g2_0 (zqc [(76, 1, 2, .q (xi (p0.Shelves.1.length : Int)))] [(76, 0, (.ret, zng p0 p1 v4))] (ob (zx zi p0.Shelves.1) (ob (zR (id := 0) (r' := (.ret, zng p0 p1 v4)) (zYc (z6i k p0 p1) k _ _ h2) rfl) ob0)) (by kernel_rfl))
 ·subst hh
  exact zM (g := zgi) g2_0 (zqc [(76, 1, 2, .q (xi (p0.Shelves.1.length : Int)))] [(76, 0, (.nor, z8f p0 p1 v4))] (ob (zx zi p0.Shelves.1) (ob (zR (id := 0) (r' := (.nor, z8f p0 p1 v4)) (zYc (z6i k p0 p1) k _ _ h2) rfl) ob0)) (by kernel_rfl))
theorem zDb (k : Nat) (p0 : zb) (p1 : Bool) (r : Int) (h : zZc k p0 p1 = some r) : zV TE (ev TE) 51 [(.agg (za p0)), (db p1)] = some (zUf r) := by
 unfold zZc at h
 refine zp h (fun v1 h2 g1 => ?_)
 refine zr g1 (fun h3 g2 => ?_) (fun h3 g2 => ?_)
 ·exact zM (g := zUf) g2 (zqc [(51, 1, 1, .c (di v1)), (51, 2, 1, .q (xb true))] [] (ob (zEb k p0 _ h2) (ob (o_b h3) ob0)) (by kernel_rfl))
 ·refine zr g2 (fun h4 g3 => ?_) (fun h4 g3 => ?_)
  ·exact zM (g := zUf) g3 (zqc [(51, 1, 1, .c (di v1)), (51, 2, 1, .q (xb false)), (51, 4, 1, .q (xb true))] [] (ob (zEb k p0 _ h2) (ob (o_b h3) (ob (o_b h4) ob0))) (by kernel_rfl))
  ·refine zp g3 (fun v5 h6 g4 => ?_)
   refine zr g4 (fun h7 g5 => ?_) (fun h7 g5 => ?_)
   ·exact zM (g := zUf) g5 (zqc [(51, 1, 1, .c (di v1)), (51, 2, 1, .q (xb false)), (51, 4, 1, .q (xb false)), (51, 6, 1, .c (db v5)), (51, 6, 2, .q (xb true))] [] (ob (zEb k p0 _ h2) (ob (o_b h3) (ob (o_b h4) (ob (zNb k p0 0 _ h6) (ob (o_b h7) ob0))))) (by kernel_rfl))
   ·exact zM (g := zUf) g5 (zqc [(51, 1, 1, .c (di v1)), (51, 2, 1, .q (xb false)), (51, 4, 1, .q (xb false)), (51, 6, 1, .c (db v5)), (51, 6, 2, .q (xb false))] [] (ob (zEb k p0 _ h2) (ob (o_b h3) (ob (o_b h4) (ob (zNb k p0 0 _ h6) (ob (o_b h7) ob0))))) (by kernel_rfl))
noncomputable def zty (p0 : zl) (s1_8 : Int) (v302 : zt) (s3_12 : Int) : TM := [(0, (.d (.agg (zu p0)))), (zsp 1), (2, (.d .nilm)), (zsp 3), (19, (xi (zT 1 (p0.ShelfBook.Deliveries.1.length : Int)))), (20, (xi s1_8)), (21, (xb true)), (4, (xi s1_8)), (zsp 5), (31, (xi (w64 (v302.Room + 1)))), (32, (xi s3_12))]
noncomputable def zLm (p0 : zl) (s1_8 : Int) (s1_16 : zt2) (v302 : zt) (s3_12 : Int) (s3_21 : zt0) : St := ⟨(zty p0 s1_8 v302 s3_12), ⟨[(zc 1 (zu p0)), (14, (.map (em (fun k => D.agg (zG k)) (fun v => D.agg ((aB 61) v)) s1_16))), (3, (.cells [(.map 0 14)])), (zc 5 (aB 61 s3_21))], []⟩, []⟩
noncomputable def zBy (p0 : zl) (s1_8 : Int) (v302 : zt) (r : zt8) : TM := [(0, (.d (.agg (zu p0)))), (zsp 1), (2, (.d .nilm)), (zsp 3), (19, (xi (zT 1 (p0.ShelfBook.Deliveries.1.length : Int)))), (20, (xi s1_8)), (21, (xb true)), (4, (xi s1_8)), (zsp 5), (31, (xi (w64 (v302.Room + 1)))), (32, (xi r.1)), (33, (xb false))]
noncomputable def ztf (p0 : zl) (s1_8 : Int) (s1_16 : zt2) (v302 : zt) (r : zt8) : St := ⟨(zBy p0 s1_8 v302 r), ⟨[(zc 1 (zu p0)), (14, (.map (em (fun k => D.agg (zG k)) (fun v => D.agg ((aB 61) v)) s1_16))), (3, (.cells [(.map 0 14)])), (zc 5 (aB 61 r.2))], []⟩, []⟩
noncomputable def zNm (p0 : zl) (s1_8 : Int) (s1_16 : zt2) (v302 : zt) : (Int × (Nat → Bool)) → Ex × St := fun r => ((.exit 2), ztf p0 s1_8 s1_16 v302 r)
theorem zim (k : Nat) (p0 : zl) (s1_8 : Int) (s1_16 : zt2) (v302 : zt) (s3_12 : Int) (s3_21 : zt0) (x : (Int × (Nat → Bool)) ⊕ (Int × (Nat → Bool))) (h : zSc k p0 s1_8 s1_16 v302 s3_12 s3_21 = some x) : z7 TE 82 (blk TE 82 2) (fun s : (Int × (Nat → Bool)) => zLm p0 s1_8 s1_16 v302 s.1 s.2) (zNm p0 s1_8 s1_16 v302) (s3_12, s3_21) x := by
 unfold zSc at h
 refine zr h (fun h401 g1 => ?_) (fun h401 g1 => ?_)
 ·refine z8 g1 (fun h402 g2 => ?_)
  exact zqn ((w64 (s3_12 + 1)), (upd s3_21 s3_12.toNat true)) [] [(82, 7, 0, .q (xb true)), (82, 9, 1, .q (.ptr 0 5 (s3_12.toNat))), (82, 9, 2, .st ((aB 61 (upd s3_21 s3_12.toNat true)).map .d))] [] g2 (ob (o_b h401) (ob (zVc (m := 61) 0 5 0 1 s3_12.toNat h402 (by omega)) (ob (zDi 61 s3_21 s3_12.toNat true (by have := h402; simp only [Bool.and_eq_true, decide_eq_true_eq] at this; omega)) ob0))) (by kernel_rfl)
 ·exact zqo [(82, 7, 0, .q (xb false))] [] g1 (ob (o_b h401) ob0) (by kernel_rfl)
noncomputable def z8x (p0 : zl) (s1_8 : Int) : TM := [(0, (.d (.agg (zu p0)))), (zsp 1), (2, (.d .nilm)), (zsp 3), (19, (xi (zT 1 (p0.ShelfBook.Deliveries.1.length : Int)))), (20, (xi s1_8))]
noncomputable def zwm (p0 : zl) (s1_8 : Int) (s1_16 : zt2) : St := ⟨(z8x p0 s1_8), ⟨[(zc 1 (zu p0)), (14, (.map (em (fun k => D.agg (zG k)) (fun v => D.agg ((aB 61) v)) s1_16))), (3, (.cells [(.map 0 14)]))], []⟩, []⟩
noncomputable def zYx (p0 : zl) (r : zt6) : TM := [(0, (.d (.agg (zu p0)))), (zsp 1), (2, (.d .nilm)), (zsp 3), (19, (xi (zT 1 (p0.ShelfBook.Deliveries.1.length : Int)))), (20, (xi r.1)), (21, (xb false))]
noncomputable def zxf (p0 : zl) (r : zt6) : St := ⟨(zYx p0 r), ⟨[(zc 1 (zu p0)), (14, (.map (em (fun k => D.agg (zG k)) (fun v => D.agg ((aB 61) v)) r.2))), (3, (.cells [(.map 0 14)]))], []⟩, []⟩
noncomputable def zCm (p0 : zl) : (Int × (List (zy × (Nat → Bool)))) → Ex × St := fun r => ((.exit 0), zxf p0 r)
theorem z3l (k : Nat) (p0 : zl) (s1_8 : Int) (s1_16 : zt2) (x : (Int × (List (zy × (Nat → Bool)))) ⊕ (Int × (List (zy × (Nat → Bool))))) (h : zFd k p0 s1_8 s1_16 = some x) : z7 TE 82 (blk TE 82 0) (fun s : (Int × (List (zy × (Nat → Bool)))) => zwm p0 s.1 s.2) (zCm p0) (s1_8, s1_16) x := by
 unfold zFd at h
 refine zr h (fun h301 g1 => ?_) (fun h301 g1 => ?_)
 ·refine zp g1 (fun v302 h303 g2 => ?_)
  refine zp g2 (fun v304 h305 g3 => ?_)
  exact zqn ((w64 (s1_8 + 1)), (mset zF (⟨(w64 (p0.ShelfBook.Days - 1)), s1_8⟩ : zy) v304.2 s1_16)) [] [(82, 3, 0, .q (xb true)), (82, 6, 5, .q (.d (.pin (zi v302)))), (82, 11, 8, .mp (em (fun k => D.agg (zG k)) (fun v => D.agg ((aB 61) v)) (mset zF (⟨(w64 (p0.ShelfBook.Days - 1)), s1_8⟩ : zy) v304.2 s1_16)))] [(82, 2, (.nor, ztf p0 s1_8 s1_16 v302 v304))] g3 (ob (o_b h301) (ob (o_ia (e := zi) 3 h303 rfl) (ob (zR (id := 2) (r' := (.nor, ztf p0 s1_8 s1_16 v302 v304)) (z4b (zim k p0 s1_8 s1_16 v302) k _ _ h305) rfl) (ob (zqp (ek := (fun k => D.agg (zG k))) (evl := (fun v => D.agg ((aB 61) v))) (q := zF) (fun _ _ => rfl) (⟨(w64 (p0.ShelfBook.Days - 1)), s1_8⟩ : zy) v304.2 s1_16) ob0)))) (by kernel_rfl)
 ·exact zqo [(82, 3, 0, .q (xb false))] [] g1 (ob (o_b h301) ob0) (by kernel_rfl)
noncomputable def zjy (v3402 : zt5) (s34_10 s39_15 : Int) (r : Bool) : TM := [(0, (.yld 0)), (1, (.d (.pin [(di v3402.1), (dl zi v3402.2.1.1 v3402.2.1.2), (dl zk v3402.2.2.1.1 v3402.2.2.1.2), (dl zd v3402.2.2.2.1.1 v3402.2.2.2.1.2), (dl zh v3402.2.2.2.2.1.1 v3402.2.2.2.2.1.2), (di v3402.2.2.2.2.2.1), (di v3402.2.2.2.2.2.2.1)]))), (2, (.d (.pin [(di v3402.2.2.2.2.2.2.2.1)]))), (3, (.d (.pin [(di v3402.2.2.2.2.2.2.2.2)]))), (14, (xi (zT 1 (v3402.2.2.2.1.1.length : Int)))), (15, (xi s34_10)), (16, (xb true)), (5, (xi s34_10)), (20, (.d (dl zd v3402.2.2.2.1.1 v3402.2.2.2.1.2))), (21, (xi (v3402.2.2.2.1.1.length : Int))), (22, (xi s39_15)), (23, (xb true)), (7, (.ptr 1 7 0)), (6, (xi s39_15)), (8, (xb ((zyb (zfb v3402.2.2.2.2.2.2.2.1 s39_15) 1) == 1))), (9, (xb ((zyb (zfb s34_10 s39_15) 1) == 1))), (41, (xb false)), (76, (xb r))]
noncomputable def znj (p0 : zl) (v2 : zt6) (s24_12 : Int) (v3402 : zt5) : TM := [(0, (.d (.agg (zu p0)))), (zsp 1), (2, (.d .nilm)), (zsp 3), (19, (xi (zT 1 (p0.ShelfBook.Deliveries.1.length : Int)))), (20, (xi v2.1)), (21, (xb false)), (zsp 7), (52, (xb true)), (59, (xi (zT 1 (p0.ShelfBook.Deliveries.1.length : Int)))), (60, (xi s24_12)), (61, (xb true)), (zsp 8), (66, (.d (.fn 97 [] [(.pin [(di v3402.1), (dl zi v3402.2.1.1 v3402.2.1.2), (dl zk v3402.2.2.1.1 v3402.2.2.1.2), (dl zd v3402.2.2.2.1.1 v3402.2.2.2.1.2), (dl zh v3402.2.2.2.2.1.1 v3402.2.2.2.2.1.2), (di v3402.2.2.2.2.2.1), (di v3402.2.2.2.2.2.2.1)]), (.pin [(di v3402.2.2.2.2.2.2.2.1)]), (.pin [(di v3402.2.2.2.2.2.2.2.2)])])))]
noncomputable def zdb (p0 : zl) (v2 : zt6) (s4_18 s24_12 : Int) (v3402 : zt5) (s34_10 : Int) (s34_18 : zt2) (s39_15 : Int) (v4102 : zn) (r : Bool) : St := ⟨(zjy v3402 s34_10 s39_15 r), ⟨[(zc 7 (zd v4102))], [[(zc 1 (zu p0)), (14, (.map (em (fun k => D.agg (zG k)) (fun v => D.agg ((aB 61) v)) s34_18))), (3, (.cells [(.map 0 14)])), (7, (.cells [(xi s4_18)])), (8, (.cells [(xi s24_12)]))]]⟩, [⟨(znj p0 v2 s24_12 v3402), 0, rfP (blk TE 82 8), rfA (blk TE 82 8), rfB (blk TE 82 8), 82, .rdy⟩]⟩
noncomputable def zrx (v3402 : zt5) (s34_10 s39_15 : Int) : TM := [(0, (.yld 0)), (1, (.d (.pin [(di v3402.1), (dl zi v3402.2.1.1 v3402.2.1.2), (dl zk v3402.2.2.1.1 v3402.2.2.1.2), (dl zd v3402.2.2.2.1.1 v3402.2.2.2.1.2), (dl zh v3402.2.2.2.2.1.1 v3402.2.2.2.2.1.2), (di v3402.2.2.2.2.2.1), (di v3402.2.2.2.2.2.2.1)]))), (2, (.d (.pin [(di v3402.2.2.2.2.2.2.2.1)]))), (3, (.d (.pin [(di v3402.2.2.2.2.2.2.2.2)]))), (14, (xi (zT 1 (v3402.2.2.2.1.1.length : Int)))), (15, (xi s34_10)), (16, (xb true)), (5, (xi s34_10)), (20, (.d (dl zd v3402.2.2.2.1.1 v3402.2.2.2.1.2))), (21, (xi (v3402.2.2.2.1.1.length : Int))), (22, (xi s39_15)), (23, (xb true)), (7, (.ptr 1 7 0)), (6, (xi s39_15)), (8, (xb ((zyb (zfb v3402.2.2.2.2.2.2.2.1 s39_15) 1) == 1))), (9, (xb ((zyb (zfb s34_10 s39_15) 1) == 1))), (41, (xb false))]
theorem zVg (k : Nat) (p0 : zl) (v2 : zt6) (s4_18 s24_12 : Int) (v3402 : zt5) (s34_10 : Int) (s34_18 : zt2) (s39_15 : Int) (v4102 : zn) (r : Bool) (h : zze k p0 v2 s4_18 s24_12 v3402 s34_10 s34_18 s39_15 v4102 = some r) : ev TE 97 (rgn TE 97 9) ⟨(zrx v3402 s34_10 s39_15), ⟨[(zc 7 (zd v4102))], [[(zc 1 (zu p0)), (14, (.map (em (fun k => D.agg (zG k)) (fun v => D.agg ((aB 61) v)) s34_18))), (3, (.cells [(.map 0 14)])), (7, (.cells [(xi s4_18)])), (8, (.cells [(xi s24_12)]))]]⟩, [⟨(znj p0 v2 s24_12 v3402), 0, rfP (blk TE 82 8), rfA (blk TE 82 8), rfB (blk TE 82 8), 82, .rdy⟩]⟩ = some (.nor, zdb p0 v2 s4_18 s24_12 v3402 s34_10 s34_18 s39_15 v4102 r) := by
 unfold zze at h
 refine zr h (fun h4201 g1 => ?_) (fun h4201 g1 => ?_)
 ·refine zr g1 (fun h4202 g2 => ?_) (fun h4202 g2 => ?_)
  ·exact zJ (g := fun r => (Ex.nor, zdb p0 v2 s4_18 s24_12 v3402 s34_10 s34_18 s39_15 v4102 r)) g2 (zqe [(97, 9, 1, .q (xb true)), (97, 9, 5, .q (xb true))] [] (ob (o_b h4201) (ob (o_b h4202) ob0)) (by kernel_rfl))
  ·refine zr g2 (fun h4203 g3 => ?_) (fun h4203 g3 => ?_)
   ·refine zr g3 (fun h4204 g4 => ?_) (fun h4204 g4 => ?_)
    ·refine zp g4 (fun v4205 h4206 g5 => ?_)
     refine zr g5 (fun h4207 g6 => ?_) (fun h4207 g6 => ?_)
     ·exact zJ (g := fun r => (Ex.nor, zdb p0 v2 s4_18 s24_12 v3402 s34_10 s34_18 s39_15 v4102 r)) g6 (zqe [(97, 9, 1, .q (xb true)), (97, 9, 5, .q (xb false)), (97, 9, 7, .q (xb true)), (97, 9, 11, .q (xb true)), (97, 9, 19, .c (db v4205)), (97, 9, 23, .q (xb true))] [] (ob (o_b h4201) (ob (o_b h4202) (ob (o_b h4203) (ob (o_b h4204) (ob (zN k v3402.2.2.2.2.2.2.2.2 v4102.Days.Low v4102.Days.High _ h4206) (ob (o_b h4207) ob0)))))) (by kernel_rfl))
     ·exact zJ (g := fun r => (Ex.nor, zdb p0 v2 s4_18 s24_12 v3402 s34_10 s34_18 s39_15 v4102 r)) g6 (zqe [(97, 9, 1, .q (xb true)), (97, 9, 5, .q (xb false)), (97, 9, 7, .q (xb true)), (97, 9, 11, .q (xb true)), (97, 9, 19, .c (db v4205)), (97, 9, 23, .q (xb false)), (97, 9, 26, .q (xb false))] [] (ob (o_b h4201) (ob (o_b h4202) (ob (o_b h4203) (ob (o_b h4204) (ob (zN k v3402.2.2.2.2.2.2.2.2 v4102.Days.Low v4102.Days.High _ h4206) (ob (o_b h4207) (ob (o_b h4202) ob0))))))) (by kernel_rfl))
    ·exact zJ (g := fun r => (Ex.nor, zdb p0 v2 s4_18 s24_12 v3402 s34_10 s34_18 s39_15 v4102 r)) g4 (zqe [(97, 9, 1, .q (xb true)), (97, 9, 5, .q (xb false)), (97, 9, 7, .q (xb true)), (97, 9, 11, .q (xb false)), (97, 9, 26, .q (xb false))] [] (ob (o_b h4201) (ob (o_b h4202) (ob (o_b h4203) (ob (o_b h4204) (ob (o_b h4202) ob0))))) (by kernel_rfl))
   ·exact zJ (g := fun r => (Ex.nor, zdb p0 v2 s4_18 s24_12 v3402 s34_10 s34_18 s39_15 v4102 r)) g3 (zqe [(97, 9, 1, .q (xb true)), (97, 9, 5, .q (xb false)), (97, 9, 7, .q (xb false)), (97, 9, 26, .q (xb false))] [] (ob (o_b h4201) (ob (o_b h4202) (ob (o_b h4203) (ob (o_b h4202) ob0)))) (by kernel_rfl))
 ·refine zr g1 (fun h4202 g2 => ?_) (fun h4202 g2 => ?_)
  ·refine zr g2 (fun h4203 g3 => ?_) (fun h4203 g3 => ?_)
   ·refine zp g3 (fun v4204 h4205 g4 => ?_)
    refine zr g4 (fun h4206 g5 => ?_) (fun h4206 g5 => ?_)
    ·exact zJ (g := fun r => (Ex.nor, zdb p0 v2 s4_18 s24_12 v3402 s34_10 s34_18 s39_15 v4102 r)) g5 (zqe [(97, 9, 1, .q (xb false)), (97, 9, 7, .q (xb true)), (97, 9, 11, .q (xb true)), (97, 9, 19, .c (db v4204)), (97, 9, 23, .q (xb true))] [] (ob (o_b h4201) (ob (o_b h4202) (ob (o_b h4203) (ob (zN k v3402.2.2.2.2.2.2.2.2 v4102.Days.Low v4102.Days.High _ h4205) (ob (o_b h4206) ob0))))) (by kernel_rfl))
    ·refine zr g5 (fun h4207 g6 => ?_) (fun h4207 g6 => ?_)
     ·exact zJ (g := fun r => (Ex.nor, zdb p0 v2 s4_18 s24_12 v3402 s34_10 s34_18 s39_15 v4102 r)) g6 (zqe [(97, 9, 1, .q (xb false)), (97, 9, 7, .q (xb true)), (97, 9, 11, .q (xb true)), (97, 9, 19, .c (db v4204)), (97, 9, 23, .q (xb false)), (97, 9, 26, .q (xb true))] [] (ob (o_b h4201) (ob (o_b h4202) (ob (o_b h4203) (ob (zN k v3402.2.2.2.2.2.2.2.2 v4102.Days.Low v4102.Days.High _ h4205) (ob (o_b h4206) (ob (o_b h4207) ob0)))))) (by kernel_rfl))
     ·exact zJ (g := fun r => (Ex.nor, zdb p0 v2 s4_18 s24_12 v3402 s34_10 s34_18 s39_15 v4102 r)) g6 (zqe [(97, 9, 1, .q (xb false)), (97, 9, 7, .q (xb true)), (97, 9, 11, .q (xb true)), (97, 9, 19, .c (db v4204)), (97, 9, 23, .q (xb false)), (97, 9, 26, .q (xb false))] [] (ob (o_b h4201) (ob (o_b h4202) (ob (o_b h4203) (ob (zN k v3402.2.2.2.2.2.2.2.2 v4102.Days.Low v4102.Days.High _ h4205) (ob (o_b h4206) (ob (o_b h4207) ob0)))))) (by kernel_rfl))
   ·refine zr g3 (fun h4204 g4 => ?_) (fun h4204 g4 => ?_)
    ·exact zJ (g := fun r => (Ex.nor, zdb p0 v2 s4_18 s24_12 v3402 s34_10 s34_18 s39_15 v4102 r)) g4 (zqe [(97, 9, 1, .q (xb false)), (97, 9, 7, .q (xb true)), (97, 9, 11, .q (xb false)), (97, 9, 26, .q (xb true))] [] (ob (o_b h4201) (ob (o_b h4202) (ob (o_b h4203) (ob (o_b h4204) ob0)))) (by kernel_rfl))
    ·exact zJ (g := fun r => (Ex.nor, zdb p0 v2 s4_18 s24_12 v3402 s34_10 s34_18 s39_15 v4102 r)) g4 (zqe [(97, 9, 1, .q (xb false)), (97, 9, 7, .q (xb true)), (97, 9, 11, .q (xb false)), (97, 9, 26, .q (xb false))] [] (ob (o_b h4201) (ob (o_b h4202) (ob (o_b h4203) (ob (o_b h4204) ob0)))) (by kernel_rfl))
  ·refine zr g2 (fun h4203 g3 => ?_) (fun h4203 g3 => ?_)
   ·exact zJ (g := fun r => (Ex.nor, zdb p0 v2 s4_18 s24_12 v3402 s34_10 s34_18 s39_15 v4102 r)) g3 (zqe [(97, 9, 1, .q (xb false)), (97, 9, 7, .q (xb false)), (97, 9, 26, .q (xb true))] [] (ob (o_b h4201) (ob (o_b h4202) (ob (o_b h4203) ob0))) (by kernel_rfl))
   ·exact zJ (g := fun r => (Ex.nor, zdb p0 v2 s4_18 s24_12 v3402 s34_10 s34_18 s39_15 v4102 r)) g3 (zqe [(97, 9, 1, .q (xb false)), (97, 9, 7, .q (xb false)), (97, 9, 26, .q (xb false))] [] (ob (o_b h4201) (ob (o_b h4202) (ob (o_b h4203) ob0))) (by kernel_rfl))
noncomputable def zOx (v3402 : zt5) (s34_10 s39_15 : Int) : TM := [(0, (.yld 0)), (1, (.d (.pin [(di v3402.1), (dl zi v3402.2.1.1 v3402.2.1.2), (dl zk v3402.2.2.1.1 v3402.2.2.1.2), (dl zd v3402.2.2.2.1.1 v3402.2.2.2.1.2), (dl zh v3402.2.2.2.2.1.1 v3402.2.2.2.2.1.2), (di v3402.2.2.2.2.2.1), (di v3402.2.2.2.2.2.2.1)]))), (2, (.d (.pin [(di v3402.2.2.2.2.2.2.2.1)]))), (3, (.d (.pin [(di v3402.2.2.2.2.2.2.2.2)]))), (14, (xi (zT 1 (v3402.2.2.2.1.1.length : Int)))), (15, (xi s34_10)), (16, (xb true)), (5, (xi s34_10)), (20, (.d (dl zd v3402.2.2.2.1.1 v3402.2.2.2.1.2))), (21, (xi (v3402.2.2.2.1.1.length : Int))), (22, (xi s39_15))]
noncomputable def z2l (p0 : zl) (v2 : zt6) (s4_18 s24_12 : Int) (v3402 : zt5) (s34_10 : Int) (s34_18 : zt2) (s39_15 : Int) : St := ⟨(zOx v3402 s34_10 s39_15), ⟨[], [[(zc 1 (zu p0)), (14, (.map (em (fun k => D.agg (zG k)) (fun v => D.agg ((aB 61) v)) s34_18))), (3, (.cells [(.map 0 14)])), (7, (.cells [(xi s4_18)])), (8, (.cells [(xi s24_12)]))]]⟩, [⟨(znj p0 v2 s24_12 v3402), 0, rfP (blk TE 82 8), rfA (blk TE 82 8), rfB (blk TE 82 8), 82, .rdy⟩]⟩
noncomputable def zwy (v3402 : zt5) (s34_10 : Int) (r : (Int × Bool × Bool × Int × Int × Int × Int × Int)) : TM := [(0, (.yld 0)), (1, (.d (.pin [(di v3402.1), (dl zi v3402.2.1.1 v3402.2.1.2), (dl zk v3402.2.2.1.1 v3402.2.2.1.2), (dl zd v3402.2.2.2.1.1 v3402.2.2.2.1.2), (dl zh v3402.2.2.2.2.1.1 v3402.2.2.2.2.1.2), (di v3402.2.2.2.2.2.1), (di v3402.2.2.2.2.2.2.1)]))), (2, (.d (.pin [(di v3402.2.2.2.2.2.2.2.1)]))), (3, (.d (.pin [(di v3402.2.2.2.2.2.2.2.2)]))), (14, (xi (zT 1 (v3402.2.2.2.1.1.length : Int)))), (15, (xi s34_10)), (16, (xb true)), (5, (xi s34_10)), (20, (.d (dl zd v3402.2.2.2.1.1 v3402.2.2.2.1.2))), (21, (xi (v3402.2.2.2.1.1.length : Int))), (22, (xi r.1)), (23, (xb true)), (7, (.ptr 1 7 0)), (6, (xi r.1)), (8, (xb r.2.1)), (9, (xb r.2.2.1)), (41, (xb true)), (42, (xb true))]
noncomputable def z8e (p0 : zl) (v2 : zt6) (s4_18 s24_12 : Int) (v3402 : zt5) (s34_10 : Int) (s34_18 : zt2) (r : (Int × Bool × Bool × Int × Int × Int × Int × Int)) : St := ⟨(zwy v3402 s34_10 r), ⟨[(7, (.cells [(xi r.2.2.2.1), (xi r.2.2.2.2.1), (xi r.2.2.2.2.2.1), (xi r.2.2.2.2.2.2.1), (xi r.2.2.2.2.2.2.2)]))], [[(zc 1 (zu p0)), (14, (.map (em (fun k => D.agg (zG k)) (fun v => D.agg ((aB 61) v)) s34_18))), (3, (.cells [(.map 0 14)])), (7, (.cells [(xi s4_18)])), (8, (.cells [(xi s24_12)]))]]⟩, [⟨(znj p0 v2 s24_12 v3402), 0, rfP (blk TE 82 8), rfA (blk TE 82 8), rfB (blk TE 82 8), 82, .rdy⟩]⟩
noncomputable def zby (v3402 : zt5) (s34_10 : Int) (r : (Int × Bool × Bool × Int × Int × Int × Int × Int)) : TM := [(0, (.yld 0)), (1, (.d (.pin [(di v3402.1), (dl zi v3402.2.1.1 v3402.2.1.2), (dl zk v3402.2.2.1.1 v3402.2.2.1.2), (dl zd v3402.2.2.2.1.1 v3402.2.2.2.1.2), (dl zh v3402.2.2.2.2.1.1 v3402.2.2.2.2.1.2), (di v3402.2.2.2.2.2.1), (di v3402.2.2.2.2.2.2.1)]))), (2, (.d (.pin [(di v3402.2.2.2.2.2.2.2.1)]))), (3, (.d (.pin [(di v3402.2.2.2.2.2.2.2.2)]))), (14, (xi (zT 1 (v3402.2.2.2.1.1.length : Int)))), (15, (xi s34_10)), (16, (xb true)), (5, (xi s34_10)), (20, (.d (dl zd v3402.2.2.2.1.1 v3402.2.2.2.1.2))), (21, (xi (v3402.2.2.2.1.1.length : Int))), (22, (xi r.1)), (23, (xb true)), (7, (.ptr 1 7 0)), (6, (xi r.1)), (8, (xb r.2.1)), (9, (xb r.2.2.1)), (41, (xb false)), (76, (xb true))]
noncomputable def z9e (p0 : zl) (v2 : zt6) (s4_18 s24_12 : Int) (v3402 : zt5) (s34_10 : Int) (s34_18 : zt2) (r : (Int × Bool × Bool × Int × Int × Int × Int × Int)) : St := ⟨(zby v3402 s34_10 r), ⟨[(7, (.cells [(xi r.2.2.2.1), (xi r.2.2.2.2.1), (xi r.2.2.2.2.2.1), (xi r.2.2.2.2.2.2.1), (xi r.2.2.2.2.2.2.2)]))], [[(zc 1 (zu p0)), (14, (.map (em (fun k => D.agg (zG k)) (fun v => D.agg ((aB 61) v)) s34_18))), (3, (.cells [(.map 0 14)])), (7, (.cells [(xi s4_18)])), (8, (.cells [(xi s24_12)]))]]⟩, [⟨(znj p0 v2 s24_12 v3402), 0, rfP (blk TE 82 8), rfA (blk TE 82 8), rfB (blk TE 82 8), 82, .rdy⟩]⟩
noncomputable def zzx (v3402 : zt5) (s34_10 r : Int) : TM := [(0, (.yld 0)), (1, (.d (.pin [(di v3402.1), (dl zi v3402.2.1.1 v3402.2.1.2), (dl zk v3402.2.2.1.1 v3402.2.2.1.2), (dl zd v3402.2.2.2.1.1 v3402.2.2.2.1.2), (dl zh v3402.2.2.2.2.1.1 v3402.2.2.2.2.1.2), (di v3402.2.2.2.2.2.1), (di v3402.2.2.2.2.2.2.1)]))), (2, (.d (.pin [(di v3402.2.2.2.2.2.2.2.1)]))), (3, (.d (.pin [(di v3402.2.2.2.2.2.2.2.2)]))), (14, (xi (zT 1 (v3402.2.2.2.1.1.length : Int)))), (15, (xi s34_10)), (16, (xb true)), (5, (xi s34_10)), (20, (.d (dl zd v3402.2.2.2.1.1 v3402.2.2.2.1.2))), (21, (xi (v3402.2.2.2.1.1.length : Int))), (22, (xi r)), (23, (xb false))]
noncomputable def z4e (p0 : zl) (v2 : zt6) (s4_18 s24_12 : Int) (v3402 : zt5) (s34_10 : Int) (s34_18 : zt2) (r : Int) : St := ⟨(zzx v3402 s34_10 r), ⟨[], [[(zc 1 (zu p0)), (14, (.map (em (fun k => D.agg (zG k)) (fun v => D.agg ((aB 61) v)) s34_18))), (3, (.cells [(.map 0 14)])), (7, (.cells [(xi s4_18)])), (8, (.cells [(xi s24_12)]))]]⟩, [⟨(znj p0 v2 s24_12 v3402), 0, rfP (blk TE 82 8), rfA (blk TE 82 8), rfB (blk TE 82 8), 82, .rdy⟩]⟩
noncomputable def znm (p0 : zl) (v2 : zt6) (s4_18 s24_12 : Int) (v3402 : zt5) (s34_10 : Int) (s34_18 : zt2) : ((Int × Bool × Bool × Int × Int × Int × Int × Int) ⊕ ((Int × Bool × Bool × Int × Int × Int × Int × Int) ⊕ Int)) → Ex × St := Sum.elim (fun r => ((.exit 1), z8e p0 v2 s4_18 s24_12 v3402 s34_10 s34_18 r)) (Sum.elim (fun r => ((.exit 1), z9e p0 v2 s4_18 s24_12 v3402 s34_10 s34_18 r)) (fun r => ((.exit 2), z4e p0 v2 s4_18 s24_12 v3402 s34_10 s34_18 r)))
theorem z3e (k : Nat) (p0 : zl) (v2 : zt6) (s4_18 s24_12 : Int) (v3402 : zt5) (s34_10 : Int) (s34_18 : zt2) (s39_15 : Int) (x : Int ⊕ ((Int × Bool × Bool × Int × Int × Int × Int × Int) ⊕ ((Int × Bool × Bool × Int × Int × Int × Int × Int) ⊕ Int))) (h : zDc k p0 v2 s4_18 s24_12 v3402 s34_10 s34_18 s39_15 = some x) : z7 TE 97 (blk TE 97 2) (fun s : Int => z2l p0 v2 s4_18 s24_12 v3402 s34_10 s34_18 s) (znm p0 v2 s4_18 s24_12 v3402 s34_10 s34_18) s39_15 x := by
 unfold zDc at h
 refine zr h (fun h4101 g1 => ?_) (fun h4101 g1 => ?_)
 ·refine zp g1 (fun v4102 h4103 g2 => ?_)
  refine zr g2 (fun h4104 g3 => ?_) (fun h4104 g3 => ?_)
  ·cases g3
  ·refine zr g3 (fun h4105 g4 => ?_) (fun h4105 g4 => ?_)
   ·refine zr g4 (fun h4106 g5 => ?_) (fun h4106 g5 => ?_)
    ·exact zqo [(97, 4, 0, .q (xb true)), (97, 5, 1, .q (.d (.pin (zd v4102)))), (97, 6, 2, .q (xi (zfb v3402.2.2.2.2.2.2.2.1 s39_15))), (97, 6, 7, .q (xi (zfb s34_10 s39_15))), (97, 7, 4, .q (xb true)), (97, 8, 0, .q (xb true))] [] g5 (ob (o_b h4101) (ob (o_ia (e := zd) 5 h4103 rfl) (ob (zae (x := v3402.2.2.2.2.2.2.2.1) h4104) (ob (zae (x := s34_10) h4104) (ob (o_b h4105) (ob (o_b h4106) ob0)))))) (by kernel_rfl)
    ·exact zqn (w64 (s39_15 + 1)) [] [(97, 4, 0, .q (xb true)), (97, 5, 1, .q (.d (.pin (zd v4102)))), (97, 6, 2, .q (xi (zfb v3402.2.2.2.2.2.2.2.1 s39_15))), (97, 6, 7, .q (xi (zfb s34_10 s39_15))), (97, 7, 4, .q (xb true)), (97, 8, 0, .q (xb false))] [] g5 (ob (o_b h4101) (ob (o_ia (e := zd) 5 h4103 rfl) (ob (zae (x := v3402.2.2.2.2.2.2.2.1) h4104) (ob (zae (x := s34_10) h4104) (ob (o_b h4105) (ob (o_b h4106) ob0)))))) (by kernel_rfl)
   ·refine zp g4 (fun v4106 h4107 g5 => ?_)
    refine zr g5 (fun h4108 g6 => ?_) (fun h4108 g6 => ?_)
    ·subst h4108
     exact zqo [(97, 4, 0, .q (xb true)), (97, 5, 1, .q (.d (.pin (zd v4102)))), (97, 6, 2, .q (xi (zfb v3402.2.2.2.2.2.2.2.1 s39_15))), (97, 6, 7, .q (xi (zfb s34_10 s39_15))), (97, 7, 4, .q (xb false))] [(97, 1000009, (.nor, zdb p0 v2 s4_18 s24_12 v3402 s34_10 s34_18 s39_15 v4102 true))] g6 (ob (o_b h4101) (ob (o_ia (e := zd) 5 h4103 rfl) (ob (zae (x := v3402.2.2.2.2.2.2.2.1) h4104) (ob (zae (x := s34_10) h4104) (ob (o_b h4105) (ob (zVg k p0 v2 s4_18 s24_12 v3402 s34_10 s34_18 s39_15 v4102 _ h4107) ob0)))))) (by kernel_rfl)
    ·subst h4108
     exact zqn (w64 (s39_15 + 1)) [] [(97, 4, 0, .q (xb true)), (97, 5, 1, .q (.d (.pin (zd v4102)))), (97, 6, 2, .q (xi (zfb v3402.2.2.2.2.2.2.2.1 s39_15))), (97, 6, 7, .q (xi (zfb s34_10 s39_15))), (97, 7, 4, .q (xb false))] [(97, 1000009, (.nor, zdb p0 v2 s4_18 s24_12 v3402 s34_10 s34_18 s39_15 v4102 false))] g6 (ob (o_b h4101) (ob (o_ia (e := zd) 5 h4103 rfl) (ob (zae (x := v3402.2.2.2.2.2.2.2.1) h4104) (ob (zae (x := s34_10) h4104) (ob (o_b h4105) (ob (zVg k p0 v2 s4_18 s24_12 v3402 s34_10 s34_18 s39_15 v4102 _ h4107) ob0)))))) (by kernel_rfl)
 ·exact zqo [(97, 4, 0, .q (xb false))] [] g1 (ob (o_b h4101) ob0) (by kernel_rfl)
noncomputable def zUx (p0 : zl) (v2 : zt6) (s24_12 : Int) (v3402 : zt5) (s34_10 : Int) (v3908 : (SL zL)) (s42_27 : Int) : TM := znj p0 v2 s24_12 v3402 ++ [(67, (xi s34_10)), (9, (xi s34_10)), (10, (.ptr 2 10 0)), (11, (.d (dl zW v3908.1 v3908.2))), (83, (xi (v3908.1.length : Int))), (84, (xi s42_27))]
noncomputable def zVl (p0 : zl) (v2 : zt6) (s4_18 s24_12 : Int) (v3402 : zt5) (s34_10 : Int) (s34_18 : zt2) (v3908 : (SL zL)) (s42_27 : Int) (s42_28 : zt0) : St := ⟨(zUx p0 v2 s24_12 v3402 s34_10 v3908 s42_27), ⟨[(zc 10 (aB 61 s42_28))], [[(zc 1 (zu p0)), (14, (.map (em (fun k => D.agg (zG k)) (fun v => D.agg ((aB 61) v)) s34_18))), (3, (.cells [(.map 0 14)])), (7, (.cells [(xi s4_18)])), (8, (.cells [(xi s24_12)]))], []]⟩, [⟨(znj p0 v2 s24_12 v3402), 0, rfP (blk TE 82 8), rfA (blk TE 82 8), rfB (blk TE 82 8), 82, .busy⟩]⟩
noncomputable def z9x (p0 : zl) (v2 : zt6) (s24_12 : Int) (v3402 : zt5) (s34_10 : Int) (v3908 : (SL zL)) (r : zt8) : TM := znj p0 v2 s24_12 v3402 ++ [(67, (xi s34_10)), (9, (xi s34_10)), (10, (.ptr 2 10 0)), (11, (.d (dl zW v3908.1 v3908.2))), (83, (xi (v3908.1.length : Int))), (84, (xi r.1)), (85, (xb false))]
noncomputable def zgf (p0 : zl) (v2 : zt6) (s4_18 s24_12 : Int) (v3402 : zt5) (s34_10 : Int) (s34_18 : zt2) (v3908 : (SL zL)) (r : zt8) : St := ⟨(z9x p0 v2 s24_12 v3402 s34_10 v3908 r), ⟨[(zc 10 (aB 61 r.2))], [[(zc 1 (zu p0)), (14, (.map (em (fun k => D.agg (zG k)) (fun v => D.agg ((aB 61) v)) s34_18))), (3, (.cells [(.map 0 14)])), (7, (.cells [(xi s4_18)])), (8, (.cells [(xi s24_12)]))], []]⟩, [⟨(znj p0 v2 s24_12 v3402), 0, rfP (blk TE 82 8), rfA (blk TE 82 8), rfB (blk TE 82 8), 82, .busy⟩]⟩
noncomputable def zXl (p0 : zl) (v2 : zt6) (s4_18 s24_12 : Int) (v3402 : zt5) (s34_10 : Int) (s34_18 : zt2) (v3908 : (SL zL)) : (Int × (Nat → Bool)) → Ex × St := fun r => ((.exit 10), zgf p0 v2 s4_18 s24_12 v3402 s34_10 s34_18 v3908 r)
theorem zvl (k : Nat) (p0 : zl) (v2 : zt6) (s4_18 s24_12 : Int) (v3402 : zt5) (s34_10 : Int) (s34_18 : zt2) (v3908 : (SL zL)) (s42_27 : Int) (s42_28 : zt0) (x : (Int × (Nat → Bool)) ⊕ (Int × (Nat → Bool))) (h : zFc k p0 v2 s4_18 s24_12 v3402 s34_10 s34_18 v3908 s42_27 s42_28 = some x) : z7 TE 82 (blk TE 82 10) (fun s : (Int × (Nat → Bool)) => zVl p0 v2 s4_18 s24_12 v3402 s34_10 s34_18 v3908 s.1 s.2) (zXl p0 v2 s4_18 s24_12 v3402 s34_10 s34_18 v3908) (s42_27, s42_28) x := by
 unfold zFc at h
 refine zr h (fun h4301 g1 => ?_) (fun h4301 g1 => ?_)
 ·refine zp g1 (fun v4302 h4303 g2 => ?_)
  refine zp g2 (fun v4304 h4305 g3 => ?_)
  exact zqn ((w64 (s42_27 + 1)), v4304) [] [(82, 24, 0, .q (xb true)), (82, 26, 2, .q (xi (v3908.1.length : Int))), (82, 26, 6, .q (.d (.pin (zW v4302)))), (82, 27, 7, .c (.agg (aB 61 v4304)))] [] g3 (ob (o_b h4301) (ob (zx zW v3908.1) (ob (o_ia (e := zW) 3 h4303 rfl) (ob (z1h k p0 s42_28 (w64 (1 - v4302.way)) v4302.by_ _ h4305) ob0)))) (by kernel_rfl)
 ·exact zqo [(82, 24, 0, .q (xb false))] [] g1 (ob (o_b h4301) ob0) (by kernel_rfl)
noncomputable def zEx (v3402 : zt5) (s34_10 : Int) : TM := [(0, (.yld 0)), (1, (.d (.pin [(di v3402.1), (dl zi v3402.2.1.1 v3402.2.1.2), (dl zk v3402.2.2.1.1 v3402.2.2.1.2), (dl zd v3402.2.2.2.1.1 v3402.2.2.2.1.2), (dl zh v3402.2.2.2.2.1.1 v3402.2.2.2.2.1.2), (di v3402.2.2.2.2.2.1), (di v3402.2.2.2.2.2.2.1)]))), (2, (.d (.pin [(di v3402.2.2.2.2.2.2.2.1)]))), (3, (.d (.pin [(di v3402.2.2.2.2.2.2.2.2)]))), (14, (xi (zT 1 (v3402.2.2.2.1.1.length : Int)))), (15, (xi s34_10))]
noncomputable def zWl (p0 : zl) (v2 : zt6) (s4_18 s24_12 : Int) (v3402 : zt5) (s34_10 : Int) (s34_18 : zt2) : St := ⟨(zEx v3402 s34_10), ⟨[], [[(zc 1 (zu p0)), (14, (.map (em (fun k => D.agg (zG k)) (fun v => D.agg ((aB 61) v)) s34_18))), (3, (.cells [(.map 0 14)])), (7, (.cells [(xi s4_18)])), (8, (.cells [(xi s24_12)]))]]⟩, [⟨(znj p0 v2 s24_12 v3402), 0, rfP (blk TE 82 8), rfA (blk TE 82 8), rfB (blk TE 82 8), 82, .rdy⟩]⟩
noncomputable def znx (v3402 : zt5) (r : zt6) : TM := [(0, (.yld 0)), (1, (.d (.pin [(di v3402.1), (dl zi v3402.2.1.1 v3402.2.1.2), (dl zk v3402.2.2.1.1 v3402.2.2.1.2), (dl zd v3402.2.2.2.1.1 v3402.2.2.2.1.2), (dl zh v3402.2.2.2.2.1.1 v3402.2.2.2.2.1.2), (di v3402.2.2.2.2.2.1), (di v3402.2.2.2.2.2.2.1)]))), (2, (.d (.pin [(di v3402.2.2.2.2.2.2.2.1)]))), (3, (.d (.pin [(di v3402.2.2.2.2.2.2.2.2)]))), (14, (xi (zT 1 (v3402.2.2.2.1.1.length : Int)))), (15, (xi r.1)), (16, (xb false))]
noncomputable def zff (p0 : zl) (v2 : zt6) (s4_18 s24_12 : Int) (v3402 : zt5) (r : zt6) : St := ⟨(znx v3402 r), ⟨[], [[(zc 1 (zu p0)), (14, (.map (em (fun k => D.agg (zG k)) (fun v => D.agg ((aB 61) v)) r.2))), (3, (.cells [(.map 0 14)])), (7, (.cells [(xi s4_18)])), (8, (.cells [(xi s24_12)]))]]⟩, [⟨(znj p0 v2 s24_12 v3402), 0, rfP (blk TE 82 8), rfA (blk TE 82 8), rfB (blk TE 82 8), 82, .rdy⟩]⟩
noncomputable def zkm (p0 : zl) (v2 : zt6) (s4_18 s24_12 : Int) (v3402 : zt5) : (Int × (List (zy × (Nat → Bool)))) → Ex × St := fun r => ((.exit 0), zff p0 v2 s4_18 s24_12 v3402 r)
theorem zLl (k : Nat) (p0 : zl) (v2 : zt6) (s4_18 s24_12 : Int) (v3402 : zt5) (s34_10 : Int) (s34_18 : zt2) (x : (Int × (List (zy × (Nat → Bool)))) ⊕ (Int × (List (zy × (Nat → Bool))))) (h : zBc k p0 v2 s4_18 s24_12 v3402 s34_10 s34_18 = some x) : z7 TE 97 (blk TE 97 0) (fun s : (Int × (List (zy × (Nat → Bool)))) => zWl p0 v2 s4_18 s24_12 v3402 s.1 s.2) (zkm p0 v2 s4_18 s24_12 v3402) (s34_10, s34_18) x := by
 unfold zBc at h
 refine zr h (fun h3901 g1 => ?_) (fun h3901 g1 => ?_)
 ·refine zp g1 (fun v3902 h3903 g2 => ?_)
  refine zYd g2 (fun v3905 hh g3_0 => ?_) (fun w2_0 hh g3_0 => ?_)
  ·subst hh
   exact zqn ((w64 (s34_10 + 1)), s34_18) [] [(97, 1, 0, .q (xb true)), (97, 3, 3, .q (xi (v3402.2.2.2.1.1.length : Int)))] [(97, 2, ((.exit 1), z8e p0 v2 s4_18 s24_12 v3402 s34_10 s34_18 v3905))] g3_0 (ob (o_b h3901) (ob (zx zd v3402.2.2.2.1.1) (ob (zR (id := 2) (r' := ((.exit 1), z8e p0 v2 s4_18 s24_12 v3402 s34_10 s34_18 v3905)) (zYc (z3e k p0 v2 s4_18 s24_12 v3402 s34_10 s34_18) k _ _ h3903) rfl) ob0))) (by kernel_rfl)
  ·subst hh
   refine zYd g3_0 (fun v3905 hh g3_1 => ?_) (fun v3905 hh g3_1 => ?_)
   ·subst hh
    exact zqn ((w64 (s34_10 + 1)), s34_18) [] [(97, 1, 0, .q (xb true)), (97, 3, 3, .q (xi (v3402.2.2.2.1.1.length : Int)))] [(97, 2, ((.exit 1), z9e p0 v2 s4_18 s24_12 v3402 s34_10 s34_18 v3905))] g3_1 (ob (o_b h3901) (ob (zx zd v3402.2.2.2.1.1) (ob (zR (id := 2) (r' := ((.exit 1), z9e p0 v2 s4_18 s24_12 v3402 s34_10 s34_18 v3905)) (zYc (z3e k p0 v2 s4_18 s24_12 v3402 s34_10 s34_18) k _ _ h3903) rfl) ob0))) (by kernel_rfl)
   ·subst hh
    refine zp g3_1 (fun v3906 h3907 g4 => ?_)
    refine zp g4 (fun v3908 h3909 g5 => ?_)
    refine zp g5 (fun v3910 h3911 g6 => ?_)
    refine zp g6 (fun v3912 h3913 g7 => ?_)
    exact zqn ((w64 (s34_10 + 1)), (mset zF (⟨(w64 (s4_18 - 1)), s24_12⟩ : zy) v3912 s34_18)) [] [(97, 1, 0, .q (xb true)), (97, 3, 3, .q (xi (v3402.2.2.2.1.1.length : Int))), (82, 21, 5, .q (.d (.agg (aB 61 ((zhb zF (⟨s4_18, s34_10⟩ : zy) s34_18).getD (fun _ => false)))))), (82, 21, 7, .c (.agg (aB 61 v3906))), (82, 22, 5, .c (dl zW v3908.1 v3908.2)), (82, 23, 1, .q (xi (v3908.1.length : Int))), (82, 29, 10, .q (.d (.agg (aB 61 ((zhb zF (⟨(w64 (s4_18 - 1)), s24_12⟩ : zy) s34_18).getD (fun _ => false)))))), (82, 29, 12, .c (.agg (aB 61 v3912))), (82, 29, 13, .mp (em (fun k => D.agg (zG k)) (fun v => D.agg ((aB 61) v)) (mset zF (⟨(w64 (s4_18 - 1)), s24_12⟩ : zy) v3912 s34_18)))] [(97, 2, (.nor, z4e p0 v2 s4_18 s24_12 v3402 s34_10 s34_18 v3905)), (82, 10, (.nor, zgf p0 v2 s4_18 s24_12 v3402 s34_10 s34_18 v3908 v3910))] g7 (ob (o_b h3901) (ob (zx zd v3402.2.2.2.1.1) (ob (zR (id := 2) (r' := (.nor, z4e p0 v2 s4_18 s24_12 v3402 s34_10 s34_18 v3905)) (zYc (z3e k p0 v2 s4_18 s24_12 v3402 s34_10 s34_18) k _ _ h3903) rfl) (ob (zzh (ek := (fun k => D.agg (zG k))) (evl := (fun v => D.agg ((aB 61) v))) (q := zF) (fun _ _ => rfl) (⟨s4_18, s34_10⟩ : zy) s34_18 (fun _ => false)) (ob (zlh k p0 ((zhb zF (⟨s4_18, s34_10⟩ : zy) s34_18).getD (fun _ => false)) s4_18 _ h3907) (ob (z2h k p0 s4_18 (zdi s34_10 s24_12) _ h3909) (ob (zx zW v3908.1) (ob (zR (id := 10) (r' := (.nor, zgf p0 v2 s4_18 s24_12 v3402 s34_10 s34_18 v3908 v3910)) (z4b (zvl k p0 v2 s4_18 s24_12 v3402 s34_10 s34_18 v3908) k _ _ h3911) rfl) (ob (zzh (ek := (fun k => D.agg (zG k))) (evl := (fun v => D.agg ((aB 61) v))) (q := zF) (fun _ _ => rfl) (⟨(w64 (s4_18 - 1)), s24_12⟩ : zy) s34_18 (fun _ => false)) (ob (zYm k ((zhb zF (⟨(w64 (s4_18 - 1)), s24_12⟩ : zy) s34_18).getD (fun _ => false)) v3910.2 _ h3913) (ob (zqp (ek := (fun k => D.agg (zG k))) (evl := (fun v => D.agg ((aB 61) v))) (q := zF) (fun _ _ => rfl) (⟨(w64 (s4_18 - 1)), s24_12⟩ : zy) v3912 s34_18) ob0))))))))))) (by kernel_rfl)
 ·exact zqo [(97, 1, 0, .q (xb false))] [] g1 (ob (o_b h3901) ob0) (by kernel_rfl)
noncomputable def zny (p0 : zl) (v2 : zt6) (s24_12 : Int) : TM := [(0, (.d (.agg (zu p0)))), (zsp 1), (2, (.d .nilm)), (zsp 3), (19, (xi (zT 1 (p0.ShelfBook.Deliveries.1.length : Int)))), (20, (xi v2.1)), (21, (xb false)), (zsp 7), (52, (xb true)), (59, (xi (zT 1 (p0.ShelfBook.Deliveries.1.length : Int)))), (60, (xi s24_12))]
noncomputable def zam (p0 : zl) (v2 : zt6) (s4_18 s24_12 : Int) (s24_20 : zt2) : St := ⟨(zny p0 v2 s24_12), ⟨[(zc 1 (zu p0)), (14, (.map (em (fun k => D.agg (zG k)) (fun v => D.agg ((aB 61) v)) s24_20))), (3, (.cells [(.map 0 14)])), (7, (.cells [(xi s4_18)]))], []⟩, []⟩
noncomputable def zuy (p0 : zl) (v2 r : zt6) : TM := [(0, (.d (.agg (zu p0)))), (zsp 1), (2, (.d .nilm)), (zsp 3), (19, (xi (zT 1 (p0.ShelfBook.Deliveries.1.length : Int)))), (20, (xi v2.1)), (21, (xb false)), (zsp 7), (52, (xb true)), (59, (xi (zT 1 (p0.ShelfBook.Deliveries.1.length : Int)))), (60, (xi r.1)), (61, (xb false))]
noncomputable def zZe (p0 : zl) (v2 : zt6) (s4_18 : Int) (r : zt6) : St := ⟨(zuy p0 v2 r), ⟨[(zc 1 (zu p0)), (14, (.map (em (fun k => D.agg (zG k)) (fun v => D.agg ((aB 61) v)) r.2))), (3, (.cells [(.map 0 14)])), (7, (.cells [(xi s4_18)]))], []⟩, []⟩
noncomputable def z1l (p0 : zl) (v2 : zt6) (s4_18 : Int) : (Int × (List (zy × (Nat → Bool)))) → Ex × St := fun r => ((.exit 6), zZe p0 v2 s4_18 r)
theorem zJl (k : Nat) (p0 : zl) (v2 : zt6) (s4_18 s24_12 : Int) (s24_20 : zt2) (x : (Int × (List (zy × (Nat → Bool)))) ⊕ (Int × (List (zy × (Nat → Bool))))) (h : zCc k p0 v2 s4_18 s24_12 s24_20 = some x) : z7 TE 82 (blk TE 82 6) (fun s : (Int × (List (zy × (Nat → Bool)))) => zam p0 v2 s4_18 s.1 s.2) (z1l p0 v2 s4_18) (s24_12, s24_20) x := by
 unfold zCc at h
 refine zr h (fun h3401 g1 => ?_) (fun h3401 g1 => ?_)
 ·refine zp g1 (fun v3402 h3403 g2 => ?_)
  refine zr g2 (fun h3404 g3 => ?_) (fun h3404 g3 => ?_)
  ·cases g3
  ·refine zp g3 (fun v3405 h3406 g4 => ?_)
   exact zqn ((w64 (s24_12 + 1)), v3405.2) [] [(82, 17, 0, .q (xb true)), (82, 19, 3, .c (.fn 97 [] [(.pin [(di v3402.1), (dl zi v3402.2.1.1 v3402.2.1.2), (dl zk v3402.2.2.1.1 v3402.2.2.1.2), (dl zd v3402.2.2.2.1.1 v3402.2.2.2.1.2), (dl zh v3402.2.2.2.2.1.1 v3402.2.2.2.2.1.2), (di v3402.2.2.2.2.2.1), (di v3402.2.2.2.2.2.2.1)]), (.pin [(di v3402.2.2.2.2.2.2.2.1)]), (.pin [(di v3402.2.2.2.2.2.2.2.2)])])), (97, 0, 3, .q (xi (v3402.2.2.2.1.1.length : Int))), (97, 0, 4, .q (xi (zT 1 (v3402.2.2.2.1.1.length : Int))))] [(97, 0, (.nor, zff p0 v2 s4_18 s24_12 v3402 v3405))] g4 (ob (o_b h3401) (ob (z2i k p0 s4_18 s24_12 _ h3403) (ob (zx zd v3402.2.2.2.1.1) (ob (zjc (x := 1) h3404) (ob (zR (id := 0) (r' := (.nor, zff p0 v2 s4_18 s24_12 v3402 v3405)) (z4b (zLl k p0 v2 s4_18 s24_12 v3402) k _ _ h3406) rfl) ob0))))) (by kernel_rfl)
 ·exact zqo [(82, 17, 0, .q (xb false))] [] g1 (ob (o_b h3401) ob0) (by kernel_rfl)
noncomputable def zUv (p0 : zl) (v2 : zt6) : TM := [(0, (.d (.agg (zu p0)))), (zsp 1), (2, (.d .nilm)), (zsp 3), (19, (xi (zT 1 (p0.ShelfBook.Deliveries.1.length : Int)))), (20, (xi v2.1)), (21, (xb false)), (zsp 7)]
noncomputable def zQm (p0 : zl) (v2 : zt6) (s4_17 : zt2) (s4_18 : Int) : St := ⟨(zUv p0 v2), ⟨[(zc 1 (zu p0)), (14, (.map (em (fun k => D.agg (zG k)) (fun v => D.agg ((aB 61) v)) s4_17))), (3, (.cells [(.map 0 14)])), (7, (.cells [(xi s4_18)]))], []⟩, []⟩
noncomputable def zjf (p0 : zl) (v2 : zt6) (r : ((List (zy × (Nat → Bool))) × Int)) : St := ⟨(zUv p0 v2 ++ [(52, (xb false))]), ⟨[(zc 1 (zu p0)), (14, (.map (em (fun k => D.agg (zG k)) (fun v => D.agg ((aB 61) v)) r.1))), (3, (.cells [(.map 0 14)])), (7, (.cells [(xi r.2)]))], []⟩, []⟩
noncomputable def zRm (p0 : zl) (v2 : zt6) : ((List (zy × (Nat → Bool))) × Int) → Ex × St := fun r => ((.exit 4), zjf p0 v2 r)
theorem zem (k : Nat) (p0 : zl) (v2 : zt6) (s4_17 : zt2) (s4_18 : Int) (x : ((List (zy × (Nat → Bool))) × Int) ⊕ ((List (zy × (Nat → Bool))) × Int)) (h : zCd k p0 v2 s4_17 s4_18 = some x) : z7 TE 82 (blk TE 82 4) (fun s : ((List (zy × (Nat → Bool))) × Int) => zQm p0 v2 s.1 s.2) (zRm p0 v2) (s4_17, s4_18) x := by
 unfold zCd at h
 refine zr h (fun h2401 g1 => ?_) (fun h2401 g1 => ?_)
 ·refine zr g1 (fun h2402 g2 => ?_) (fun h2402 g2 => ?_)
  ·cases g2
  ·refine zp g2 (fun v2403 h2404 g3 => ?_)
   exact zqn (v2403.2, (w64 (s4_18 - 1))) [] [(82, 14, 1, .q (xb true)), (82, 16, 3, .q (xi (p0.ShelfBook.Deliveries.1.length : Int))), (82, 16, 4, .q (xi (zT 1 (p0.ShelfBook.Deliveries.1.length : Int))))] [(82, 6, (.nor, zZe p0 v2 s4_18 v2403))] g3 (ob (o_b h2401) (ob (zx zd p0.ShelfBook.Deliveries.1) (ob (zjc (x := 1) h2402) (ob (zR (id := 6) (r' := (.nor, zZe p0 v2 s4_18 v2403)) (z4b (zJl k p0 v2 s4_18) k _ _ h2404) rfl) ob0)))) (by kernel_rfl)
 ·exact zqo [(82, 14, 1, .q (xb false))] [] g1 (ob (o_b h2401) ob0) (by kernel_rfl)
theorem zvn (k : Nat) (p0 : zl) (r : zt2) (h : zXe k p0 = some r) : zV TE (ev TE) 82 [(.agg (zu p0))] = some (zCj r) := by
 unfold zXe at h
 refine zr h (fun h1 g1 => ?_) (fun h1 g1 => ?_)
 ·cases g1
 ·refine zp g1 (fun v2 h3 g2 => ?_)
  refine zp g2 (fun v4 h5 g3 => ?_)
  exact zM (g := zCj) g3 (zqc [(82, 2, 3, .q (xi (p0.ShelfBook.Deliveries.1.length : Int))), (82, 2, 4, .q (xi (zT 1 (p0.ShelfBook.Deliveries.1.length : Int))))] [(82, 0, (.nor, zxf p0 v2)), (82, 4, (.nor, zjf p0 v2 v4))] (ob (zx zd p0.ShelfBook.Deliveries.1) (ob (zjc (x := 1) h1) (ob (zR (id := 0) (r' := (.nor, zxf p0 v2)) (z4b (z3l k p0) k _ _ h3) rfl) (ob (zR (id := 4) (r' := (.nor, zjf p0 v2 v4)) (z4b (zem k p0 v2) k _ _ h5) rfl) ob0)))) (by kernel_rfl))
noncomputable def z5x (p0 : zl) (v1 v3 : zt2) (s1_10 s13_13 : Int) (v1902 : zt0) (s19_2 : Int) : TM := [(0, (.d (.agg (zu p0)))), (zsp 1), (zsp 2), (zsp 3), (4, (.d (.mp (em (fun k => D.agg (zG k)) (fun v => D.agg ((aB 61) v)) v1)))), (5, (.d (.mp (em (fun k => D.agg (zG k)) (fun v => D.agg ((aB 61) v)) v3)))), (17, (xi p0.ShelfBook.Days)), (18, (xi s1_10)), (19, (xb true)), (zsp 6), (25, (xi (zT 1 (p0.ShelfBook.Deliveries.1.length : Int)))), (26, (xi s13_13)), (27, (xb true)), (7, (xi s13_13)), (zsp 8), (zsp 9), (38, (.d (.fn 96 [] [(.pin (aB 61 v1902))]))), (39, (xi s19_2)), (10, (xi s19_2))]
noncomputable def zGq (p0 : zl) (v1 v3 : zt2) (s1_10 s13_13 : Int) (v1902 : zt0) : TM := [(0, (.d (.agg (zu p0)))), (zsp 1), (zsp 2), (zsp 3), (4, (.d (.mp (em (fun k => D.agg (zG k)) (fun v => D.agg ((aB 61) v)) v1)))), (5, (.d (.mp (em (fun k => D.agg (zG k)) (fun v => D.agg ((aB 61) v)) v3)))), (17, (xi p0.ShelfBook.Days)), (18, (xi s1_10)), (19, (xb true)), (zsp 6), (25, (xi (zT 1 (p0.ShelfBook.Deliveries.1.length : Int)))), (26, (xi s13_13)), (27, (xb true)), (7, (xi s13_13)), (zsp 8), (zsp 9), (38, (.d (.fn 96 [] [(.pin (aB 61 v1902))])))]
noncomputable def zgd (p0 : zl) (v1 v3 : zt2) (s1_10 s13_13 : Int) (v1902 : zt0) (s19_2 : Int) (s19_11 r : zt0) : St := ⟨(z5x p0 v1 v3 s1_10 s13_13 v1902 s19_2), ⟨[], [[(zc 1 (zu p0)), (zc 2 (aB 732 (fun _ => false))), (zc 3 (aB 732 r)), (6, (.cells [(xi s1_10)])), (8, (.cells [(xi s1_10), (xi s13_13)])), (zc 9 (aB 61 ((zhb zF (⟨s1_10, s13_13⟩ : zy) v3).getD (fun _ => false))))], []]⟩, [⟨(zGq p0 v1 v3 s1_10 s13_13 v1902), 0, rfP (blk TE 53 4), rfA (blk TE 53 4), rfB (blk TE 53 4), 53, .busy⟩]⟩
noncomputable def zkw (p0 : zl) (k : Nat) (v1 v3 : zt2) (s1_10 s13_13 : Int) (v1902 : zt0) (s19_2 : Int) : TM := [(0, (.d (.agg (zu p0)))), (zsp 1), (zsp 2), (zsp 3), (4, (.d (.mp (em (fun k => D.agg (zG k)) (fun v => D.agg ((aB 61) v)) v1)))), (5, (.d (.mp (em (fun k => D.agg (zG k)) (fun v => D.agg ((aB 61) v)) v3)))), (17, (xi p0.ShelfBook.Days)), (18, (xi s1_10)), (19, (xb true)), (zsp 6), (25, (xi (zT 1 (p0.ShelfBook.Deliveries.1.length : Int)))), (26, (xi s13_13)), (27, (xb true)), (7, (xi s13_13)), (zsp 8), (zsp 9), (38, (.d (.fn 96 [] [(.pin (aB 61 v1902))]))), (39, (xi s19_2)), (10, (xi s19_2))]
noncomputable def zZu (p0 : zl) (k : Nat) (v1 v3 : zt2) (s1_10 s13_13 : Int) (v1902 : zt0) : TM := [(0, (.d (.agg (zu p0)))), (zsp 1), (zsp 2), (zsp 3), (4, (.d (.mp (em (fun k => D.agg (zG k)) (fun v => D.agg ((aB 61) v)) v1)))), (5, (.d (.mp (em (fun k => D.agg (zG k)) (fun v => D.agg ((aB 61) v)) v3)))), (17, (xi p0.ShelfBook.Days)), (18, (xi s1_10)), (19, (xb true)), (zsp 6), (25, (xi (zT 1 (p0.ShelfBook.Deliveries.1.length : Int)))), (26, (xi s13_13)), (27, (xb true)), (7, (xi s13_13)), (zsp 8), (zsp 9), (38, (.d (.fn 96 [] [(.pin (aB 61 v1902))])))]
theorem zlk (k : Nat) (p0 : zl) (v1 v3 : zt2) (s1_10 s13_13 : Int) (v1902 : zt0) (s19_2 : Int) (s19_11 r : zt0) (h : zNd k p0 v1 v3 s1_10 s13_13 v1902 s19_2 s19_11 = some r) : ev TE 53 (rgn TE 53 13) ⟨(zkw p0 k v1 v3 s1_10 s13_13 v1902 s19_2), ⟨[], [[(zc 1 (zu p0)), (zc 2 (aB 732 (fun _ => false))), (zc 3 (aB 732 s19_11)), (6, (.cells [(xi s1_10)])), (8, (.cells [(xi s1_10), (xi s13_13)])), (zc 9 (aB 61 ((zhb zF (⟨s1_10, s13_13⟩ : zy) v3).getD (fun _ => false))))], []]⟩, [⟨(zZu p0 k v1 v3 s1_10 s13_13 v1902), 0, rfP (blk TE 53 4), rfA (blk TE 53 4), rfB (blk TE 53 4), 53, .busy⟩]⟩ = some (.nor, zgd p0 v1 v3 s1_10 s13_13 v1902 s19_2 s19_11 r) := by
 unfold zNd at h
 refine z8 h (fun h2401 g1 => ?_)
 refine z8 g1 (fun h2402 g2 => ?_)
 refine zr g2 (fun h2403 g3 => ?_) (fun h2403 g3 => ?_)
 ·exact zJ (g := fun r => (Ex.nor, zgd p0 v1 v3 s1_10 s13_13 v1902 s19_2 s19_11 r)) g3 (zqe [(53, 13, 4, .q (.ptr 0 3 ((s1_10.toNat * 61)))), (53, 13, 5, .q (.ptr 0 3 (((s1_10.toNat * 61) + s19_2.toNat)))), (53, 13, 6, .q (xb (s19_11 ((s1_10.toNat * 61) + s19_2.toNat)))), (53, 13, 7, .q (xb true)), (53, 13, 12, .q (.ptr 0 3 ((s1_10.toNat * 61)))), (53, 13, 13, .q (.ptr 0 3 (((s1_10.toNat * 61) + s19_2.toNat)))), (53, 13, 14, .st ((aB 732 (upd s19_11 ((s1_10.toNat * 61) + s19_2.toNat) true)).map .d))] [] (ob (zVc (m := 12) 0 3 0 61 (s1_10.toNat * 61) h2401 (by omega)) (ob (zVc (m := 61) 0 3 (s1_10.toNat * 61) 1 ((s1_10.toNat * 61) + s19_2.toNat) h2402 (by omega)) (ob (z4o 732 s19_11 ((s1_10.toNat * 61) + s19_2.toNat) (by have h1 := h2402; have h2 := h2401; simp only [Bool.and_eq_true, decide_eq_true_eq] at h1 h2; omega)) (ob (o_b h2403) (ob (zVc (m := 12) 0 3 0 61 (s1_10.toNat * 61) h2401 (by omega)) (ob (zVc (m := 61) 0 3 (s1_10.toNat * 61) 1 ((s1_10.toNat * 61) + s19_2.toNat) h2402 (by omega)) (ob (zDi 732 s19_11 ((s1_10.toNat * 61) + s19_2.toNat) true (by have h1 := h2402; have h2 := h2401; simp only [Bool.and_eq_true, decide_eq_true_eq] at h1 h2; omega)) ob0))))))) (by kernel_rfl))
 ·exact zJ (g := fun r => (Ex.nor, zgd p0 v1 v3 s1_10 s13_13 v1902 s19_2 s19_11 r)) g3 (zqe [(53, 13, 4, .q (.ptr 0 3 ((s1_10.toNat * 61)))), (53, 13, 5, .q (.ptr 0 3 (((s1_10.toNat * 61) + s19_2.toNat)))), (53, 13, 6, .q (xb (s19_11 ((s1_10.toNat * 61) + s19_2.toNat)))), (53, 13, 7, .q (xb false)), (53, 13, 9, .q (.ptr 0 9 (s19_2.toNat))), (53, 13, 10, .q (xb (((zhb zF (⟨s1_10, s13_13⟩ : zy) v3).getD (fun _ => false)) s19_2.toNat))), (53, 13, 12, .q (.ptr 0 3 ((s1_10.toNat * 61)))), (53, 13, 13, .q (.ptr 0 3 (((s1_10.toNat * 61) + s19_2.toNat)))), (53, 13, 14, .st ((aB 732 (upd s19_11 ((s1_10.toNat * 61) + s19_2.toNat) (((zhb zF (⟨s1_10, s13_13⟩ : zy) v3).getD (fun _ => false)) s19_2.toNat))).map .d))] [] (ob (zVc (m := 12) 0 3 0 61 (s1_10.toNat * 61) h2401 (by omega)) (ob (zVc (m := 61) 0 3 (s1_10.toNat * 61) 1 ((s1_10.toNat * 61) + s19_2.toNat) h2402 (by omega)) (ob (z4o 732 s19_11 ((s1_10.toNat * 61) + s19_2.toNat) (by have h1 := h2402; have h2 := h2401; simp only [Bool.and_eq_true, decide_eq_true_eq] at h1 h2; omega)) (ob (o_b h2403) (ob (zVc (m := 61) 0 9 0 1 s19_2.toNat h2402 (by omega)) (ob (z4o 61 ((zhb zF (⟨s1_10, s13_13⟩ : zy) v3).getD (fun _ => false)) s19_2.toNat (by have := h2402; simp only [Bool.and_eq_true, decide_eq_true_eq] at this; omega)) (ob (zVc (m := 12) 0 3 0 61 (s1_10.toNat * 61) h2401 (by omega)) (ob (zVc (m := 61) 0 3 (s1_10.toNat * 61) 1 ((s1_10.toNat * 61) + s19_2.toNat) h2402 (by omega)) (ob (zDi 732 s19_11 ((s1_10.toNat * 61) + s19_2.toNat) (((zhb zF (⟨s1_10, s13_13⟩ : zy) v3).getD (fun _ => false)) s19_2.toNat) (by have h1 := h2402; have h2 := h2401; simp only [Bool.and_eq_true, decide_eq_true_eq] at h1 h2; omega)) ob0))))))))) (by kernel_rfl))
noncomputable def zax (v1902 : zt0) (s19_2 : Int) : TM := [(0, (.yld 0)), (1, (.d (.pin (aB 61 v1902)))), (5, (.d (.agg (aB 61 v1902)))), (6, (xi s19_2)), (7, (xb true)), (3, (xi s19_2)), (4, (xb (v1902 s19_2.toNat))), (16, (xb false))]
noncomputable def zfd (p0 : zl) (v1 v3 : zt2) (s1_10 s13_13 : Int) (v1902 : zt0) (s19_2 : Int) (s19_11 r : zt0) : St := ⟨(zax v1902 s19_2), ⟨[], [[(zc 1 (zu p0)), (zc 2 (aB 732 (fun _ => false))), (zc 3 (aB 732 r)), (6, (.cells [(xi s1_10)])), (8, (.cells [(xi s1_10), (xi s13_13)])), (zc 9 (aB 61 ((zhb zF (⟨s1_10, s13_13⟩ : zy) v3).getD (fun _ => false))))]]⟩, [⟨(zGq p0 v1 v3 s1_10 s13_13 v1902), 0, rfP (blk TE 53 4), rfA (blk TE 53 4), rfB (blk TE 53 4), 53, .rdy⟩]⟩
noncomputable def z9v (v1902 : zt0) (s19_2 : Int) : TM := [(0, (.yld 0)), (1, (.d (.pin (aB 61 v1902)))), (5, (.d (.agg (aB 61 v1902)))), (6, (xi s19_2)), (7, (xb true)), (3, (xi s19_2)), (4, (xb (v1902 s19_2.toNat)))]
theorem zBk (k : Nat) (p0 : zl) (v1 v3 : zt2) (s1_10 s13_13 : Int) (v1902 : zt0) (s19_2 : Int) (s19_11 r : zt0) (h : zPd k p0 v1 v3 s1_10 s13_13 v1902 s19_2 s19_11 = some r) : ev TE 96 (rgn TE 96 3) ⟨(z9v v1902 s19_2), ⟨[], [[(zc 1 (zu p0)), (zc 2 (aB 732 (fun _ => false))), (zc 3 (aB 732 s19_11)), (6, (.cells [(xi s1_10)])), (8, (.cells [(xi s1_10), (xi s13_13)])), (zc 9 (aB 61 ((zhb zF (⟨s1_10, s13_13⟩ : zy) v3).getD (fun _ => false))))]]⟩, [⟨(zZu p0 k v1 v3 s1_10 s13_13 v1902), 0, rfP (blk TE 53 4), rfA (blk TE 53 4), rfB (blk TE 53 4), 53, .rdy⟩]⟩ = some (.nor, zfd p0 v1 v3 s1_10 s13_13 v1902 s19_2 s19_11 r) := by
 unfold zPd at h
 refine zr h (fun h2301 g1 => ?_) (fun h2301 g1 => ?_)
 ·refine zp g1 (fun v2302 h2303 g2 => ?_)
  exact zJ (g := fun r => (Ex.nor, zfd p0 v1 v3 s1_10 s13_13 v1902 s19_2 s19_11 r)) g2 (zqe [(96, 3, 1, .q (xb true))] [(53, 1000013, (.nor, zgd p0 v1 v3 s1_10 s13_13 v1902 s19_2 s19_11 v2302))] (ob (o_b h2301) (ob (zlk k p0 v1 v3 s1_10 s13_13 v1902 s19_2 s19_11 _ h2303) ob0)) (by kernel_rfl))
 ·exact zJ (g := fun r => (Ex.nor, zfd p0 v1 v3 s1_10 s13_13 v1902 s19_2 s19_11 r)) g1 (zqe [(96, 3, 1, .q (xb false))] [] (ob (o_b h2301) ob0) (by kernel_rfl))
noncomputable def zJw (v1902 : zt0) (s19_2 : Int) : TM := [(0, (.yld 0)), (1, (.d (.pin (aB 61 v1902)))), (5, (.d (.agg (aB 61 v1902)))), (6, (xi s19_2))]
noncomputable def zQk (p0 : zl) (v1 v3 : zt2) (s1_10 s13_13 : Int) (v1902 : zt0) (s19_2 : Int) (s19_11 : zt0) : St := ⟨(zJw v1902 s19_2), ⟨[], [[(zc 1 (zu p0)), (zc 2 (aB 732 (fun _ => false))), (zc 3 (aB 732 s19_11)), (6, (.cells [(xi s1_10)])), (8, (.cells [(xi s1_10), (xi s13_13)])), (zc 9 (aB 61 ((zhb zF (⟨s1_10, s13_13⟩ : zy) v3).getD (fun _ => false))))]]⟩, [⟨(zGq p0 v1 v3 s1_10 s13_13 v1902), 0, rfP (blk TE 53 4), rfA (blk TE 53 4), rfB (blk TE 53 4), 53, .rdy⟩]⟩
noncomputable def zQw (v1902 : zt0) (r : zt8) : TM := [(0, (.yld 0)), (1, (.d (.pin (aB 61 v1902)))), (5, (.d (.agg (aB 61 v1902)))), (6, (xi r.1)), (7, (xb false))]
noncomputable def zse (p0 : zl) (v1 v3 : zt2) (s1_10 s13_13 : Int) (v1902 : zt0) (r : zt8) : St := ⟨(zQw v1902 r), ⟨[], [[(zc 1 (zu p0)), (zc 2 (aB 732 (fun _ => false))), (zc 3 (aB 732 r.2)), (6, (.cells [(xi s1_10)])), (8, (.cells [(xi s1_10), (xi s13_13)])), (zc 9 (aB 61 ((zhb zF (⟨s1_10, s13_13⟩ : zy) v3).getD (fun _ => false))))]]⟩, [⟨(zGq p0 v1 v3 s1_10 s13_13 v1902), 0, rfP (blk TE 53 4), rfA (blk TE 53 4), rfB (blk TE 53 4), 53, .rdy⟩]⟩
noncomputable def zFk (p0 : zl) (v1 v3 : zt2) (s1_10 s13_13 : Int) (v1902 : zt0) : (Int × (Nat → Bool)) → Ex × St := fun r => ((.exit 0), zse p0 v1 v3 s1_10 s13_13 v1902 r)
theorem zuk (k : Nat) (p0 : zl) (v1 v3 : zt2) (s1_10 s13_13 : Int) (v1902 : zt0) (s19_2 : Int) (s19_11 : zt0) (x : (Int × (Nat → Bool)) ⊕ (Int × (Nat → Bool))) (h : zhc k p0 v1 v3 s1_10 s13_13 v1902 s19_2 s19_11 = some x) : z7 TE 96 (blk TE 96 0) (fun s : (Int × (Nat → Bool)) => zQk p0 v1 v3 s1_10 s13_13 v1902 s.1 s.2) (zFk p0 v1 v3 s1_10 s13_13 v1902) (s19_2, s19_11) x := by
 unfold zhc at h
 refine zr h (fun h2201 g1 => ?_) (fun h2201 g1 => ?_)
 ·refine z8 g1 (fun h2202 g2 => ?_)
  refine zp g2 (fun v2203 h2204 g3 => ?_)
  exact zqn ((w64 (s19_2 + 1)), v2203) [] [(96, 1, 0, .q (xb true)), (96, 2, 1, .q (xb (v1902 s19_2.toNat)))] [(96, 1000003, (.nor, zfd p0 v1 v3 s1_10 s13_13 v1902 s19_2 s19_11 v2203))] g3 (ob (o_b h2201) (ob (zup 61 v1902 s19_2 h2202) (ob (zBk k p0 v1 v3 s1_10 s13_13 v1902 s19_2 s19_11 _ h2204) ob0))) (by kernel_rfl)
 ·exact zqo [(96, 1, 0, .q (xb false))] [] g1 (ob (o_b h2201) ob0) (by kernel_rfl)
noncomputable def zzw (p0 : zl) (v1 v3 : zt2) (s1_10 s13_13 : Int) : TM := [(0, (.d (.agg (zu p0)))), (zsp 1), (zsp 2), (zsp 3), (4, (.d (.mp (em (fun k => D.agg (zG k)) (fun v => D.agg ((aB 61) v)) v1)))), (5, (.d (.mp (em (fun k => D.agg (zG k)) (fun v => D.agg ((aB 61) v)) v3)))), (17, (xi p0.ShelfBook.Days)), (18, (xi s1_10)), (19, (xb true)), (zsp 6), (25, (xi (zT 1 (p0.ShelfBook.Deliveries.1.length : Int)))), (26, (xi s13_13))]
noncomputable def zSk (p0 : zl) (v1 v3 : zt2) (s1_10 s13_13 : Int) (s13_22 : zt0) : St := ⟨(zzw p0 v1 v3 s1_10 s13_13), ⟨[(zc 1 (zu p0)), (zc 2 (aB 732 (fun _ => false))), (zc 3 (aB 732 s13_22)), (6, (.cells [(xi s1_10)]))], []⟩, []⟩
noncomputable def zxw (p0 : zl) (v1 v3 : zt2) (s1_10 : Int) (r : zt8) : TM := [(0, (.d (.agg (zu p0)))), (zsp 1), (zsp 2), (zsp 3), (4, (.d (.mp (em (fun k => D.agg (zG k)) (fun v => D.agg ((aB 61) v)) v1)))), (5, (.d (.mp (em (fun k => D.agg (zG k)) (fun v => D.agg ((aB 61) v)) v3)))), (17, (xi p0.ShelfBook.Days)), (18, (xi s1_10)), (19, (xb true)), (zsp 6), (25, (xi (zT 1 (p0.ShelfBook.Deliveries.1.length : Int)))), (26, (xi r.1)), (27, (xb false))]
noncomputable def zje (p0 : zl) (v1 v3 : zt2) (s1_10 : Int) (r : zt8) : St := ⟨(zxw p0 v1 v3 s1_10 r), ⟨[(zc 1 (zu p0)), (zc 2 (aB 732 (fun _ => false))), (zc 3 (aB 732 r.2)), (6, (.cells [(xi s1_10)]))], []⟩, []⟩
noncomputable def zLk (p0 : zl) (v1 v3 : zt2) (s1_10 : Int) : (Int × (Nat → Bool)) → Ex × St := fun r => ((.exit 2), zje p0 v1 v3 s1_10 r)
theorem zCk (k : Nat) (p0 : zl) (v1 v3 : zt2) (s1_10 s13_13 : Int) (s13_22 : zt0) (x : (Int × (Nat → Bool)) ⊕ (Int × (Nat → Bool))) (h : zfc k p0 v1 v3 s1_10 s13_13 s13_22 = some x) : z7 TE 53 (blk TE 53 2) (fun s : (Int × (Nat → Bool)) => zSk p0 v1 v3 s1_10 s.1 s.2) (zLk p0 v1 v3 s1_10) (s13_13, s13_22) x := by
 unfold zfc at h
 refine zr h (fun h1901 g1 => ?_) (fun h1901 g1 => ?_)
 ·refine zp g1 (fun v1902 h1903 g2 => ?_)
  refine zp g2 (fun v1904 h1905 g3 => ?_)
  exact zqn ((w64 (s13_13 + 1)), v1904.2) [] [(53, 7, 0, .q (xb true)), (53, 10, 2, .q (.d (.agg (aB 61 ((zhb zF (⟨s1_10, s13_13⟩ : zy) v3).getD (fun _ => false)))))), (53, 11, 2, .q (.d (.agg (aB 61 ((zhb zF (⟨s1_10, s13_13⟩ : zy) v1).getD (fun _ => false)))))), (53, 11, 3, .c (.fn 96 [] [(.pin (aB 61 v1902))]))] [(96, 0, (.nor, zse p0 v1 v3 s1_10 s13_13 v1902 v1904))] g3 (ob (o_b h1901) (ob (zzh (ek := (fun k => D.agg (zG k))) (evl := (fun v => D.agg ((aB 61) v))) (q := zF) (fun _ _ => rfl) (⟨s1_10, s13_13⟩ : zy) v3 (fun _ => false)) (ob (zzh (ek := (fun k => D.agg (zG k))) (evl := (fun v => D.agg ((aB 61) v))) (q := zF) (fun _ _ => rfl) (⟨s1_10, s13_13⟩ : zy) v1 (fun _ => false)) (ob (zad k ((zhb zF (⟨s1_10, s13_13⟩ : zy) v1).getD (fun _ => false)) _ h1903) (ob (zR (id := 0) (r' := (.nor, zse p0 v1 v3 s1_10 s13_13 v1902 v1904)) (z4b (zuk k p0 v1 v3 s1_10 s13_13 v1902) k _ _ h1905) rfl) ob0))))) (by kernel_rfl)
 ·exact zqo [(53, 7, 0, .q (xb false))] [] g1 (ob (o_b h1901) ob0) (by kernel_rfl)
noncomputable def zbx (p0 : zl) (v1 v3 : zt2) (s1_10 : Int) : TM := [(0, (.d (.agg (zu p0)))), (zsp 1), (zsp 2), (zsp 3), (4, (.d (.mp (em (fun k => D.agg (zG k)) (fun v => D.agg ((aB 61) v)) v1)))), (5, (.d (.mp (em (fun k => D.agg (zG k)) (fun v => D.agg ((aB 61) v)) v3)))), (17, (xi p0.ShelfBook.Days)), (18, (xi s1_10))]
noncomputable def zKl (p0 : zl) (v1 v3 : zt2) (s1_10 : Int) (s1_19 : zt0) : St := ⟨(zbx p0 v1 v3 s1_10), ⟨[(zc 1 (zu p0)), (zc 2 (aB 732 (fun _ => false))), (zc 3 (aB 732 s1_19))], []⟩, []⟩
noncomputable def zHw (p0 : zl) (v1 v3 : zt2) (r : zt8) : TM := [(0, (.d (.agg (zu p0)))), (zsp 1), (zsp 2), (zsp 3), (4, (.d (.mp (em (fun k => D.agg (zG k)) (fun v => D.agg ((aB 61) v)) v1)))), (5, (.d (.mp (em (fun k => D.agg (zG k)) (fun v => D.agg ((aB 61) v)) v3)))), (17, (xi p0.ShelfBook.Days)), (18, (xi r.1)), (19, (xb false))]
noncomputable def zJe (p0 : zl) (v1 v3 : zt2) (r : zt8) : St := ⟨(zHw p0 v1 v3 r), ⟨[(zc 1 (zu p0)), (zc 2 (aB 732 (fun _ => false))), (zc 3 (aB 732 r.2))], []⟩, []⟩
noncomputable def zHl (p0 : zl) (v1 v3 : zt2) : (Int × (Nat → Bool)) → Ex × St := fun r => ((.exit 0), zJe p0 v1 v3 r)
theorem zDk (k : Nat) (p0 : zl) (v1 v3 : zt2) (s1_10 : Int) (s1_19 : zt0) (x : (Int × (Nat → Bool)) ⊕ (Int × (Nat → Bool))) (h : z1c k p0 v1 v3 s1_10 s1_19 = some x) : z7 TE 53 (blk TE 53 0) (fun s : (Int × (Nat → Bool)) => zKl p0 v1 v3 s.1 s.2) (zHl p0 v1 v3) (s1_10, s1_19) x := by
 unfold z1c at h
 refine zr h (fun h1301 g1 => ?_) (fun h1301 g1 => ?_)
 ·refine zr g1 (fun h1302 g2 => ?_) (fun h1302 g2 => ?_)
  ·cases g2
  ·refine zp g2 (fun v1303 h1304 g3 => ?_)
   exact zqn ((w64 (s1_10 + 1)), v1303.2) [] [(53, 4, 0, .q (xb true)), (53, 6, 3, .q (xi (p0.ShelfBook.Deliveries.1.length : Int))), (53, 6, 4, .q (xi (zT 1 (p0.ShelfBook.Deliveries.1.length : Int))))] [(53, 2, (.nor, zje p0 v1 v3 s1_10 v1303))] g3 (ob (o_b h1301) (ob (zx zd p0.ShelfBook.Deliveries.1) (ob (zjc (x := 1) h1302) (ob (zR (id := 2) (r' := (.nor, zje p0 v1 v3 s1_10 v1303)) (z4b (zCk k p0 v1 v3 s1_10) k _ _ h1304) rfl) ob0)))) (by kernel_rfl)
 ·exact zqo [(53, 4, 0, .q (xb false))] [] g1 (ob (o_b h1301) ob0) (by kernel_rfl)
theorem zBb (k : Nat) (p0 : zl) (r : zt0) (h : zAb k p0 = some r) : zV TE (ev TE) 53 [(.agg (zu p0))] = some (zZh r) := by
 unfold zAb at h
 refine zp h (fun v1 h2 g1 => ?_)
 refine zp g1 (fun v3 h4 g2 => ?_)
 refine zp g2 (fun v5 h6 g3 => ?_)
 exact zM (g := zZh) g3 (zqc [(53, 2, 1, .c (.mp (em (fun k => D.agg (zG k)) (fun v => D.agg ((aB 61) v)) v1))), (53, 2, 3, .c (.mp (em (fun k => D.agg (zG k)) (fun v => D.agg ((aB 61) v)) v3)))] [(53, 0, (.nor, zJe p0 v1 v3 v5))] (ob (zZf k p0 _ h2) (ob (zvn k p0 _ h4) (ob (zR (id := 0) (r' := (.nor, zJe p0 v1 v3 v5)) (z4b (zDk k p0 v1 v3) k _ _ h6) rfl) ob0))) (by kernel_rfl))
theorem ztl (k : Nat) (p0 : zm) (r : Int) (h : zAe k p0 = some r) : zV TE (ev TE) 84 [(.agg [(di p0.Low), (di p0.High)])] = some (zrh r) := by
 unfold zAe at h
 exact zM (g := zrh) h (zqc [] [] ob0 (by kernel_rfl))
noncomputable def zZw (s1_0 : Int) (p1 : (SL Int)) (s1_5 : Int) : TM := [(0, (xi s1_0)), (1, (.d (dl eI p1.1 p1.2))), (4, (xi 0)), (7, (.d (dl eI p1.1 p1.2))), (8, (xi (p1.1.length : Int))), (9, (xi s1_5))]
noncomputable def zEk (p1 : (SL Int)) (s1_0 s1_5 : Int) : St := ⟨(zZw s1_0 p1 s1_5), ⟨[], []⟩, []⟩
noncomputable def zlw (r : (Int × Int)) (p1 : (SL Int)) : TM := [(0, (xi r.1)), (1, (.d (dl eI p1.1 p1.2))), (4, (xi 0)), (7, (.d (dl eI p1.1 p1.2))), (8, (xi (p1.1.length : Int))), (9, (xi r.2)), (10, (xb false))]
noncomputable def zre (p1 : (SL Int)) (r : (Int × Int)) : St := ⟨(zlw r p1), ⟨[], []⟩, []⟩
noncomputable def zNk (p1 : (SL Int)) : (Int × Int) → Ex × St := fun r => ((.exit 0), zre p1 r)
theorem zak (k : Nat) (p1 : (SL Int)) (s1_0 s1_5 : Int) (x : (Int × Int) ⊕ (Int × Int)) (h : zTb k p1 s1_0 s1_5 = some x) : z7 TE 65 (blk TE 65 0) (fun s : (Int × Int) => zEk p1 s.1 s.2) (zNk p1) (s1_0, s1_5) x := by
 unfold zTb at h
 refine zr h (fun h201 g1 => ?_) (fun h201 g1 => ?_)
 ·refine zp g1 (fun v202 h203 g2 => ?_)
  exact zqn ((if v202 > s1_0 then v202 else s1_0), (w64 (s1_5 + 1))) [] [(65, 2, 0, .q (xb true)), (65, 3, 0, .q (.d (.pin [(di v202)])))] [] g2 (ob (o_b h201) (ob (o_ia (e := eI) 1 h203 rfl) ob0)) (by kernel_rfl)
 ·exact zqo [(65, 2, 0, .q (xb false))] [] g1 (ob (o_b h201) ob0) (by kernel_rfl)
theorem zof (k : Nat) (p0 : Int) (p1 : (SL Int)) (r : Int) (h : zkc k p0 p1 = some r) : zV TE (ev TE) 65 [(di p0), (dl eI p1.1 p1.2)] = some (zBh r) := by
 unfold zkc at h
 refine zp h (fun v1 h2 g1 => ?_)
 exact zM (g := zBh) g1 (zqc [(65, 1, 1, .q (xi (p1.1.length : Int)))] [(65, 0, (.nor, zre p1 v1))] (ob (zx eI p1.1) (ob (zR (id := 0) (r' := (.nor, zre p1 v1)) (z4b (zak k p1) k _ _ h2) rfl) ob0)) (by kernel_rfl))
theorem zFl (k : Nat) (p0 : zm) (r : Int) (h : zwe k p0 = some r) : zV TE (ev TE) 85 [(.agg [(di p0.Low), (di p0.High)])] = some (zoh r) := by
 unfold zwe at h
 exact zM (g := zoh) h (zqc [] [] ob0 (by kernel_rfl))
noncomputable def z1w (v1 : zt0) (s1_2 : Int) : TM := [(0, (.yld 0)), (1, (.d (.pin (aB 61 v1)))), (5, (.d (.agg (aB 61 v1)))), (6, (xi s1_2)), (7, (xb true)), (3, (xi s1_2)), (4, (xb (v1 s1_2.toNat))), (16, (xb false))]
noncomputable def zKq (p0 v1 : zt0) : TM := [(0, (.d (.agg (aB 61 p0)))), (zsp 1), (zsp 2), (zsp 3), (zsp 4), (zsp 5), (11, (.d (.fn 96 [] [(.pin (aB 61 v1))])))]
noncomputable def zud (p0 v1 : zt0) (s1_2 s1_6 s1_7 : Int) (r : (Int × Int)) : St := ⟨(z1w v1 s1_2), ⟨[], [[(zc 1 (aB 61 p0)), (2, (.cells [(xi 0), (xi 0)])), (3, (.cells [(xi r.1), (xi r.2)])), (4, (.cells [(.d (.fn 84 [] []))])), (5, (.cells [(.d (.fn 85 [] []))]))]]⟩, [⟨(zKq p0 v1), 0, rfP (blk TE 54 0), rfA (blk TE 54 0), rfB (blk TE 54 0), 54, .rdy⟩]⟩
noncomputable def zXw (v1 : zt0) (s1_2 : Int) : TM := [(0, (.yld 0)), (1, (.d (.pin (aB 61 v1)))), (5, (.d (.agg (aB 61 v1)))), (6, (xi s1_2)), (7, (xb true)), (3, (xi s1_2)), (4, (xb (v1 s1_2.toNat)))]
theorem zMk (k : Nat) (p0 v1 : zt0) (s1_2 s1_6 s1_7 : Int) (r : (Int × Int)) (h : z7d k p0 v1 s1_2 s1_6 s1_7 = some r) : ev TE 96 (rgn TE 96 3) ⟨(zXw v1 s1_2), ⟨[], [[(zc 1 (aB 61 p0)), (2, (.cells [(xi 0), (xi 0)])), (3, (.cells [(xi s1_6), (xi s1_7)])), (4, (.cells [(.d (.fn 84 [] []))])), (5, (.cells [(.d (.fn 85 [] []))]))]]⟩, [⟨(zKq p0 v1), 0, rfP (blk TE 54 0), rfA (blk TE 54 0), rfB (blk TE 54 0), 54, .rdy⟩]⟩ = some (.nor, zud p0 v1 s1_2 s1_6 s1_7 r) := by
 unfold z7d at h
 refine zr h (fun h401 g1 => ?_) (fun h401 g1 => ?_)
 ·refine zp g1 (fun v402 h403 g2 => ?_)
  refine zp g2 (fun v404 h405 g3 => ?_)
  refine zp g3 (fun v406 h407 g4 => ?_)
  refine zp g4 (fun v408 h409 g5 => ?_)
  exact zJ (g := fun r => (Ex.nor, zud p0 v1 s1_2 s1_6 s1_7 r)) g5 (zqe [(96, 3, 1, .q (xb true)), (54, 5, 3, .c (di v402)), (54, 5, 8, .c (di v404)), (54, 5, 13, .c (di v406)), (54, 5, 16, .c (di v408))] [] (ob (o_b h401) (ob (ztl k (⟨s1_6, s1_7⟩ : zm) _ h403) (ob (zof k (w64 (0 - v402)) ([(w64 (0 - s1_2))], .ex) _ h405) (ob (zFl k (⟨s1_6, s1_7⟩ : zm) _ h407) (ob (zof k v406 ([s1_2], .ex) _ h409) ob0))))) (by kernel_rfl))
 ·exact zJ (g := fun r => (Ex.nor, zud p0 v1 s1_2 s1_6 s1_7 r)) g1 (zqe [(96, 3, 1, .q (xb false))] [] (ob (o_b h401) ob0) (by kernel_rfl))
noncomputable def zjw (v1 : zt0) (s1_2 : Int) : TM := [(0, (.yld 0)), (1, (.d (.pin (aB 61 v1)))), (5, (.d (.agg (aB 61 v1)))), (6, (xi s1_2))]
noncomputable def zEl (p0 v1 : zt0) (s1_2 s1_6 s1_7 : Int) : St := ⟨(zjw v1 s1_2), ⟨[], [[(zc 1 (aB 61 p0)), (2, (.cells [(xi 0), (xi 0)])), (3, (.cells [(xi s1_6), (xi s1_7)])), (4, (.cells [(.d (.fn 84 [] []))])), (5, (.cells [(.d (.fn 85 [] []))]))]]⟩, [⟨(zKq p0 v1), 0, rfP (blk TE 54 0), rfA (blk TE 54 0), rfB (blk TE 54 0), 54, .rdy⟩]⟩
noncomputable def zVw (v1 : zt0) (r : (Int × Int × Int)) : TM := [(0, (.yld 0)), (1, (.d (.pin (aB 61 v1)))), (5, (.d (.agg (aB 61 v1)))), (6, (xi r.1)), (7, (xb false))]
noncomputable def zBe (p0 v1 : zt0) (r : (Int × Int × Int)) : St := ⟨(zVw v1 r), ⟨[], [[(zc 1 (aB 61 p0)), (2, (.cells [(xi 0), (xi 0)])), (3, (.cells [(xi r.2.1), (xi r.2.2)])), (4, (.cells [(.d (.fn 84 [] []))])), (5, (.cells [(.d (.fn 85 [] []))]))]]⟩, [⟨(zKq p0 v1), 0, rfP (blk TE 54 0), rfA (blk TE 54 0), rfB (blk TE 54 0), 54, .rdy⟩]⟩
noncomputable def zpl (p0 v1 : zt0) : (Int × Int × Int) → Ex × St := fun r => ((.exit 0), zBe p0 v1 r)
theorem zIk (k : Nat) (p0 v1 : zt0) (s1_2 s1_6 s1_7 : Int) (x : (Int × Int × Int) ⊕ (Int × Int × Int)) (h : z2c k p0 v1 s1_2 s1_6 s1_7 = some x) : z7 TE 96 (blk TE 96 0) (fun s : (Int × Int × Int) => zEl p0 v1 s.1 s.2.1 s.2.2) (zpl p0 v1) (s1_2, s1_6, s1_7) x := by
 unfold z2c at h
 refine zr h (fun h301 g1 => ?_) (fun h301 g1 => ?_)
 ·refine z8 g1 (fun h302 g2 => ?_)
  refine zp g2 (fun v303 h304 g3 => ?_)
  exact zqn ((w64 (s1_2 + 1)), v303.1, v303.2) [] [(96, 1, 0, .q (xb true)), (96, 2, 1, .q (xb (v1 s1_2.toNat)))] [(96, 1000003, (.nor, zud p0 v1 s1_2 s1_6 s1_7 v303))] g3 (ob (o_b h301) (ob (zup 61 v1 s1_2 h302) (ob (zMk k p0 v1 s1_2 s1_6 s1_7 _ h304) ob0))) (by kernel_rfl)
 ·exact zqo [(96, 1, 0, .q (xb false))] [] g1 (ob (o_b h301) ob0) (by kernel_rfl)
theorem z4c (k : Nat) (p0 : zt0) (r : zm) (h : zPb k p0 = some r) : zV TE (ev TE) 54 [(.agg (aB 61 p0))] = some (z0h r) := by
 unfold zPb at h
 refine zp h (fun v1 h2 g1 => ?_)
 refine zp g1 (fun v3 h4 g2 => ?_)
 exact zM (g := z0h) g2 (zqc [(54, 3, 1, .c (.fn 96 [] [(.pin (aB 61 v1))]))] [(96, 0, (.nor, zBe p0 v1 v3))] (ob (zad k p0 _ h2) (ob (zR (id := 0) (r' := (.nor, zBe p0 v1 v3)) (zJx (zIk k p0 v1) k _ _ h4) rfl) ob0)) (by kernel_rfl))
theorem zA (k : Nat) (p0 : zb) (p1 p2 : Int) (r : (zm × Int)) (h : zKb k p0 p1 p2 = some r) : zV TE (ev TE) 16 [(.agg (za p0)), (di p1), (di p2)] = some (zMl r) := by
 unfold zKb at h
 refine zp h (fun v1 h2 g1 => ?_)
 refine zp g1 (fun v3 h4 g2 => ?_)
 refine zr g2 (fun h5 g3 => ?_) (fun h5 g3 => ?_)
 ·exact zM (g := zMl) g3 (zqc [(16, 1, 4, .c (db v1)), (16, 1, 5, .c (di v3)), (16, 2, 1, .q (xb true))] [] (ob (z5c k p0 p1 p2 _ h2) (ob (zDb k p0 v1 _ h4) (ob (o_b h5) ob0))) (by kernel_rfl))
 ·refine zp g3 (fun v6 h7 g4 => ?_)
  refine z8 g4 (fun h8 g5 => ?_)
  refine zp g5 (fun v9 h10 g6 => ?_)
  exact zM (g := zMl) g6 (zqc [(16, 1, 4, .c (db v1)), (16, 1, 5, .c (di v3)), (16, 2, 1, .q (xb false)), (16, 4, 3, .c (.agg (aB 732 v6))), (16, 4, 5, .q (.d (.agg (aB 61 (fun k => v6 (p2.toNat * 61 + k)))))), (16, 4, 6, .c (.agg [(di v9.Low), (di v9.High)]))] [] (ob (z5c k p0 p1 p2 _ h2) (ob (zDb k p0 v1 _ h4) (ob (o_b h5) (ob (zBb k (⟨p0, p1, 0⟩ : zl) _ h7) (ob (zEp 12 61 v6 p2 h8) (ob (z4c k (fun k => v6 (p2.toNat * 61 + k)) _ h10) ob0)))))) (by kernel_rfl))
theorem zMb (k : Nat) (p0 : zb) (p1 p2 p3 : Int) (r : zt1) (h : zbl k p0 p1 p2 p3 = some r) : zV TE (ev TE) 20 [(.agg (za p0)), (di p1), (di p2), (di p3)] = some (zxi r) := by
 unfold zbl at h
 refine zp h (fun v1 h2 g1 => ?_)
 refine zp g1 (fun v3 h4 g2 => ?_)
 refine zr g2 (fun h5 g3 => ?_) (fun h5 g3 => ?_)
 ·exact zM (g := zxi) g3 (zqc [(20, 1, 4, .c (db v1)), (20, 1, 5, .c (di v3)), (20, 2, 1, .q (xb true))] [] (ob (z5c k p0 p1 p2 _ h2) (ob (zDb k p0 v1 _ h4) (ob (o_b h5) ob0))) (by kernel_rfl))
 ·refine zp g3 (fun v6 h7 g4 => ?_)
  refine zr g4 (fun h8 g5 => ?_) (fun h8 g5 => ?_)
  ·refine zp g5 (fun v9 h10 g6 => ?_)
   refine z8 g6 (fun h11 g7 => ?_)
   refine z8 g7 (fun h12 g8 => ?_)
   exact zM (g := zxi) g8 (zqc [(20, 1, 4, .c (db v1)), (20, 1, 5, .c (di v3)), (20, 2, 1, .q (xb false)), (20, 4, 1, .c (db v6)), (20, 4, 2, .q (xb true)), (20, 4, 6, .c (.agg (aB 732 v9))), (20, 4, 8, .q (.d (.agg (aB 61 (fun k => v9 (p2.toNat * 61 + k)))))), (20, 4, 10, .q (xb ((fun k => v9 (p2.toNat * 61 + k)) p3.toNat)))] [] (ob (z5c k p0 p1 p2 _ h2) (ob (zDb k p0 v1 _ h4) (ob (o_b h5) (ob (zN k p3 0 60 _ h7) (ob (o_b h8) (ob (zBb k (⟨p0, p1, 0⟩ : zl) _ h10) (ob (zEp 12 61 v9 p2 h11) (ob (zup 61 (fun k => v9 (p2.toNat * 61 + k)) p3 h12) ob0)))))))) (by kernel_rfl))
  ·exact zM (g := zxi) g5 (zqc [(20, 1, 4, .c (db v1)), (20, 1, 5, .c (di v3)), (20, 2, 1, .q (xb false)), (20, 4, 1, .c (db v6)), (20, 4, 2, .q (xb false))] [] (ob (z5c k p0 p1 p2 _ h2) (ob (zDb k p0 v1 _ h4) (ob (o_b h5) (ob (zN k p3 0 60 _ h7) (ob (o_b h8) ob0))))) (by kernel_rfl))
noncomputable def zyw (p0 : zb) (p1 p2 v3 s1_11 s1_12 : Int) : TM := [(0, (.d (.agg (za p0)))), (1, (xi p1)), (2, (xi p2)), (zsp 3), (6, (xi 0)), (7, (xi 0)), (8, (xi v3)), (19, (xb false)), (9, (xi s1_11)), (zsp 10), (11, (xi s1_12))]
noncomputable def zOp (p0 : zb) (p1 p2 v3 : Int) (v6 : zt0) (s1_11 s1_12 : Int) : St := ⟨(zyw p0 p1 p2 v3 s1_11 s1_12), ⟨[(zc 3 (za p0)), (zc 10 (aB 732 v6))], []⟩, []⟩
noncomputable def z4v (p0 : zb) (p1 p2 v3 : Int) (r : (Int × Int)) : TM := [(0, (.d (.agg (za p0)))), (1, (xi p1)), (2, (xi p2)), (zsp 3), (6, (xi 0)), (7, (xi 0)), (8, (xi v3)), (19, (xb false)), (9, (xi r.1)), (zsp 10), (11, (xi r.2)), (29, (xb false))]
noncomputable def zch (p0 : zb) (p1 p2 v3 : Int) (v6 : zt0) (r : (Int × Int)) : St := ⟨(z4v p0 p1 p2 v3 r), ⟨[(zc 3 (za p0)), (zc 10 (aB 732 v6))], []⟩, []⟩
noncomputable def zJp (p0 : zb) (p1 p2 v3 : Int) (v6 : zt0) : (Int × Int) → Ex × St := fun r => ((.exit 0), zch p0 p1 p2 v3 v6 r)
theorem zRo (k : Nat) (p0 : zb) (p1 p2 v3 : Int) (v6 : zt0) (s1_11 s1_12 : Int) (x : (Int × Int) ⊕ (Int × Int)) (h : zlj k p0 p1 p2 v3 v6 s1_11 s1_12 = some x) : z7 TE 22 (blk TE 22 0) (fun s : (Int × Int) => zOp p0 p1 p2 v3 v6 s.1 s.2) (zJp p0 p1 p2 v3 v6) (s1_11, s1_12) x := by
 unfold zlj at h
 refine zr h (fun h201 g1 => ?_) (fun h201 g1 => ?_)
 ·refine z8 g1 (fun h202 g2 => ?_)
  refine zp g2 (fun v203 h204 g3 => ?_)
  refine zp g3 (fun v205 h206 g4 => ?_)
  exact zqn ((w64 (0 - v205)), (w64 (s1_12 + 1))) [] [(22, 7, 3, .q (xb true)), (22, 9, 3, .q (.ptr 0 10 ((s1_12.toNat * 61)))), (22, 9, 4, .q (.d (.agg (aB 61 (fun k => v6 ((s1_12.toNat * 61) + k)))))), (22, 9, 5, .c (.agg [(di v203.Low), (di v203.High)])), (22, 9, 9, .c (di v205))] [] g4 (ob (o_b h201) (ob (zVc (m := 12) 0 10 0 61 (s1_12.toNat * 61) h202 (by omega)) (ob (zRv 732 61 v6 (s1_12.toNat * 61) (by have := h202; simp only [Bool.and_eq_true, decide_eq_true_eq] at this; omega)) (ob (z4c k (fun k => v6 ((s1_12.toNat * 61) + k)) _ h204) (ob (zof k (w64 (0 - s1_11)) ([(w64 (0 - v203.Low))], .ex) _ h206) ob0))))) (by kernel_rfl)
 ·exact zqo [(22, 7, 3, .q (xb false))] [] g1 (ob (o_b h201) ob0) (by kernel_rfl)
theorem zoc (k : Nat) (p0 : zb) (p1 p2 : Int) (r : (Int × Int)) (h : ztm k p0 p1 p2 = some r) : zV TE (ev TE) 22 [(.agg (za p0)), (di p1), (di p2)] = some (zyk r) := by
 unfold ztm at h
 refine zp h (fun v1 h2 g1 => ?_)
 refine zp g1 (fun v3 h4 g2 => ?_)
 refine zr g2 (fun h5 g3 => ?_) (fun h5 g3 => ?_)
 ·exact zM (g := zyk) g3 (zqc [(22, 1, 4, .c (db v1)), (22, 1, 5, .c (di v3)), (22, 2, 1, .q (xb true))] [] (ob (z5c k p0 p1 p2 _ h2) (ob (zDb k p0 v1 _ h4) (ob (o_b h5) ob0))) (by kernel_rfl))
 ·refine zp g3 (fun v6 h7 g4 => ?_)
  refine zp g4 (fun v8 h9 g5 => ?_)
  exact zM (g := zyk) g5 (zqc [(22, 1, 4, .c (db v1)), (22, 1, 5, .c (di v3)), (22, 2, 1, .q (xb false)), (22, 5, 3, .c (.agg (aB 732 v6)))] [(22, 0, (.nor, zch p0 p1 p2 v3 v6 v8))] (ob (z5c k p0 p1 p2 _ h2) (ob (zDb k p0 v1 _ h4) (ob (o_b h5) (ob (zBb k (⟨p0, p1, 0⟩ : zl) _ h7) (ob (zR (id := 0) (r' := (.nor, zch p0 p1 p2 v3 v6 v8)) (z4b (zRo k p0 p1 p2 v3 v6) k _ _ h9) rfl) ob0))))) (by kernel_rfl))
noncomputable def zYw (p0 : zb) (p1 v3 : Int) (s1_16 : (List Int)) (s1_10 : Int) : TM := [(0, (.d (.agg (za p0)))), (1, (xi p1)), (zsp 2), (4, (.d (.sl [] .nil))), (5, (xi 0)), (6, (xi v3)), (20, (xb false)), (7, (.row 0 7 s1_16.length)), (zsp 8), (9, (xi s1_10))]
noncomputable def zaq (p0 : zb) (p1 v3 : Int) (v6 : zn) (s1_10 : Int) (s1_16 : (List Int)) : St := ⟨(zYw p0 p1 v3 s1_16 s1_10), ⟨[(zc 2 (za p0)), (7, (rowO true 1 eI s1_16 true)), (zc 8 (zd v6))], []⟩, []⟩
noncomputable def zfw (p0 : zb) (p1 v3 : Int) (r : (Int × (List Int))) : TM := [(0, (.d (.agg (za p0)))), (1, (xi p1)), (zsp 2), (4, (.d (.sl [] .nil))), (5, (xi 0)), (6, (xi v3)), (20, (xb false)), (7, (.row 0 7 r.2.length)), (zsp 8), (9, (xi r.1)), (34, (xb false))]
noncomputable def zLh (p0 : zb) (p1 v3 : Int) (v6 : zn) (r : (Int × (List Int))) : St := ⟨(zfw p0 p1 v3 r), ⟨[(zc 2 (za p0)), (7, (rowO true 1 eI r.2 true)), (zc 8 (zd v6))], []⟩, []⟩
noncomputable def z9p (p0 : zb) (p1 v3 : Int) (v6 : zn) : (Int × (List Int)) → Ex × St := fun r => ((.exit 0), zLh p0 p1 v3 v6 r)
theorem ztp (k : Nat) (p0 : zb) (p1 v3 : Int) (v6 : zn) (s1_10 : Int) (s1_16 : (List Int)) (x : (Int × (List Int)) ⊕ (Int × (List Int))) (h : zvk k p0 p1 v3 v6 s1_10 s1_16 = some x) : z7 TE 25 (blk TE 25 0) (fun s : (Int × (List Int)) => zaq p0 p1 v3 v6 s.1 s.2) (z9p p0 p1 v3 v6) (s1_10, s1_16) x := by
 unfold zvk at h
 refine zr h (fun h301 g1 => ?_) (fun h301 g1 => ?_)
 ·refine zr g1 (fun h302 g2 => ?_) (fun h302 g2 => ?_)
  ·cases g2
  ·refine z8 g2 (fun h303 g3 => ?_)
   refine zp g3 (fun v304 h305 g4 => ?_)
   refine zp g4 (fun v306 h307 g5 => ?_)
   refine zr g5 (fun h308 g6 => ?_) (fun h308 g6 => ?_)
   ·subst h308
    refine z8 g6 (fun h309 g7 => ?_)
    exact zqn ((w64 (s1_10 + 1)), (s1_16 ++ [s1_10])) [7] [(25, 7, 4, .q (xb true)), (66, 1, 1, .q (xb false)), (66, 3, 2, .ns (p0.Deliveries.1.map zd) p0.Deliveries.1.length), (25, 11, 6, .q (.rp 0 40 p0.Deliveries.1.length p1.toNat 0)), (25, 11, 7, .q (.rp 0 40 p0.Deliveries.1.length p1.toNat 1)), (25, 11, 8, .rs (rowO false 5 zd (p0.Deliveries.1.set p1.toNat (⟨v304.Shelf, (⟨s1_10, s1_10⟩ : zm), v304.By⟩ : zn)) true)), (25, 11, 999, .nm [] [(10, 3, (p0.Deliveries.1.set p1.toNat (⟨v304.Shelf, (⟨s1_10, s1_10⟩ : zm), v304.By⟩ : zn)).length)]), (25, 12, 4, .cr [((dl zd (p0.Deliveries.1.set p1.toNat (⟨v304.Shelf, (⟨s1_10, s1_10⟩ : zm), v304.By⟩ : zn)) (rcap false (p0.Deliveries.1.set p1.toNat (⟨v304.Shelf, (⟨s1_10, s1_10⟩ : zm), v304.By⟩ : zn)))), (rowO false 5 zd (p0.Deliveries.1.set p1.toNat (⟨v304.Shelf, (⟨s1_10, s1_10⟩ : zm), v304.By⟩ : zn)) false))] (db true)), (25, 13, 3, .ap (s1_16 ++ [s1_10]).length (rowO true 1 eI (s1_16 ++ [s1_10]) true))] [] g7 (ob (o_b h301) (ob (o_b h302) (ob (ztb p0.Deliveries.1 zd) (ob (o_ns (P := TE.P) (φ := fun _ _ => none) (T := 24) (q := (5, [(di 0), (di 0), (di 0), (di 0), (di 0)])) (c := p0.Deliveries.2) (e := zd) p0.Deliveries.1 (by kernel_rfl) (fun _ => rfl) h303) (ob (rfl : (([] : List (List D)).isEmpty || !(p0.Deliveries.1.map zd).isEmpty) = true) (ob (o_rh false 5 zd p0.Deliveries.1) (ob (zqa 24 40 0 40 p1 false 5 zd p0.Deliveries.1 true (by kernel_rfl) (by kernel_rfl) h305) (ob (zqf 75 (1, 2, true) 0 40 0 1 p1 false 5 zd p0.Deliveries.1 true (by kernel_rfl) (by decide) h305) (ob (o_rs (b := false) (z := 5) (e := zd) (l := p0.Deliveries.1) (o := 1) (n := 2) (ds := [(di s1_10), (di s1_10)]) (i := p1) (y' := (⟨v304.Shelf, (⟨s1_10, s1_10⟩ : zm), v304.By⟩ : zn)) h305 (Nat.le_of_ble_eq_true rfl) rfl) (ob (show p0.Deliveries.1.length = (p0.Deliveries.1.set p1.toNat (⟨v304.Shelf, (⟨s1_10, s1_10⟩ : zm), v304.By⟩ : zn)).length by simp) (ob (o_cr false 5 zd (p0.Deliveries.1.set p1.toNat (⟨v304.Shelf, (⟨s1_10, s1_10⟩ : zm), v304.By⟩ : zn)) true 0 40) (ob (zVd k (⟨(⟨p0.Days, p0.Shelves, p0.Moves, ((p0.Deliveries.1.set p1.toNat (⟨v304.Shelf, (⟨s1_10, s1_10⟩ : zm), v304.By⟩ : zn)), (rcap false (p0.Deliveries.1.set p1.toNat (⟨v304.Shelf, (⟨s1_10, s1_10⟩ : zm), v304.By⟩ : zn)))), p0.Counts⟩ : zb), v6.Shelf, 0⟩ : zl) _ h307) (ob (o_ap (b := true) (z := 1) (e := eI) (l := s1_16) (w := true) s1_10 (fun _ => rfl) h309) (ob (z5g true 1 eI (s1_16 ++ [s1_10]) true) ob0)))))))))))))) (by kernel_rfl)
   ·subst h308
    exact zqn ((w64 (s1_10 + 1)), s1_16) [7] [(25, 7, 4, .q (xb true)), (66, 1, 1, .q (xb false)), (66, 3, 2, .ns (p0.Deliveries.1.map zd) p0.Deliveries.1.length), (25, 11, 6, .q (.rp 0 40 p0.Deliveries.1.length p1.toNat 0)), (25, 11, 7, .q (.rp 0 40 p0.Deliveries.1.length p1.toNat 1)), (25, 11, 8, .rs (rowO false 5 zd (p0.Deliveries.1.set p1.toNat (⟨v304.Shelf, (⟨s1_10, s1_10⟩ : zm), v304.By⟩ : zn)) true)), (25, 11, 999, .nm [] [(10, 3, (p0.Deliveries.1.set p1.toNat (⟨v304.Shelf, (⟨s1_10, s1_10⟩ : zm), v304.By⟩ : zn)).length)]), (25, 12, 4, .cr [((dl zd (p0.Deliveries.1.set p1.toNat (⟨v304.Shelf, (⟨s1_10, s1_10⟩ : zm), v304.By⟩ : zn)) (rcap false (p0.Deliveries.1.set p1.toNat (⟨v304.Shelf, (⟨s1_10, s1_10⟩ : zm), v304.By⟩ : zn)))), (rowO false 5 zd (p0.Deliveries.1.set p1.toNat (⟨v304.Shelf, (⟨s1_10, s1_10⟩ : zm), v304.By⟩ : zn)) false))] (db false))] [] g6 (ob (o_b h301) (ob (o_b h302) (ob (ztb p0.Deliveries.1 zd) (ob (o_ns (P := TE.P) (φ := fun _ _ => none) (T := 24) (q := (5, [(di 0), (di 0), (di 0), (di 0), (di 0)])) (c := p0.Deliveries.2) (e := zd) p0.Deliveries.1 (by kernel_rfl) (fun _ => rfl) h303) (ob (rfl : (([] : List (List D)).isEmpty || !(p0.Deliveries.1.map zd).isEmpty) = true) (ob (o_rh false 5 zd p0.Deliveries.1) (ob (zqa 24 40 0 40 p1 false 5 zd p0.Deliveries.1 true (by kernel_rfl) (by kernel_rfl) h305) (ob (zqf 75 (1, 2, true) 0 40 0 1 p1 false 5 zd p0.Deliveries.1 true (by kernel_rfl) (by decide) h305) (ob (o_rs (b := false) (z := 5) (e := zd) (l := p0.Deliveries.1) (o := 1) (n := 2) (ds := [(di s1_10), (di s1_10)]) (i := p1) (y' := (⟨v304.Shelf, (⟨s1_10, s1_10⟩ : zm), v304.By⟩ : zn)) h305 (Nat.le_of_ble_eq_true rfl) rfl) (ob (show p0.Deliveries.1.length = (p0.Deliveries.1.set p1.toNat (⟨v304.Shelf, (⟨s1_10, s1_10⟩ : zm), v304.By⟩ : zn)).length by simp) (ob (o_cr false 5 zd (p0.Deliveries.1.set p1.toNat (⟨v304.Shelf, (⟨s1_10, s1_10⟩ : zm), v304.By⟩ : zn)) true 0 40) (ob (zVd k (⟨(⟨p0.Days, p0.Shelves, p0.Moves, ((p0.Deliveries.1.set p1.toNat (⟨v304.Shelf, (⟨s1_10, s1_10⟩ : zm), v304.By⟩ : zn)), (rcap false (p0.Deliveries.1.set p1.toNat (⟨v304.Shelf, (⟨s1_10, s1_10⟩ : zm), v304.By⟩ : zn)))), p0.Counts⟩ : zb), v6.Shelf, 0⟩ : zl) _ h307) (ob (z5g true 1 eI s1_16 true) ob0))))))))))))) (by kernel_rfl)
 ·exact zqo [(25, 7, 4, .q (xb false))] [] g1 (ob (o_b h301) ob0) (by kernel_rfl)
theorem zIc (k : Nat) (p0 : zb) (p1 : Int) (r : ((SL Int) × Int)) (h : zrn k p0 p1 = some r) : zV TE (ev TE) 25 [(.agg (za p0)), (di p1)] = some (zol r) := by
 unfold zrn at h
 refine zp h (fun v1 h2 g1 => ?_)
 refine zp g1 (fun v3 h4 g2 => ?_)
 refine zr g2 (fun h5 g3 => ?_) (fun h5 g3 => ?_)
 ·exact zM (g := zol) g3 (zqc [(25, 1, 4, .q (xi (p0.Deliveries.1.length : Int))), (25, 1, 6, .c (db v1)), (25, 1, 7, .c (di v3)), (25, 2, 1, .q (xb true))] [] (ob (zx zd p0.Deliveries.1) (ob (zN k p1 0 (w64 ((p0.Deliveries.1.length : Int) - 1)) _ h2) (ob (zDb k p0 v1 _ h4) (ob (o_b h5) ob0)))) (by kernel_rfl))
 ·refine zp g3 (fun v6 h7 g4 => ?_)
  refine zp g4 (fun v8 h9 g5 => ?_)
  exact zM (g := zol) g5 (zqc [(25, 1, 4, .q (xi (p0.Deliveries.1.length : Int))), (25, 1, 6, .c (db v1)), (25, 1, 7, .c (di v3)), (25, 2, 1, .q (xb false)), (25, 5, 3, .q (.d (.pin (zd v6)))), (25, 14, 2, .q (xi (v8.2.length : Int))), (25, 14, 4, .q (xi (v8.2.length : Int))), (25, 14, 5, .sr (.d (dl eI v8.2 (xcap true v8.2))) (rowO true 1 eI v8.2 false))] [(25, 0, (.nor, zLh p0 p1 v3 v6 v8))] (ob (zx zd p0.Deliveries.1) (ob (zN k p1 0 (w64 ((p0.Deliveries.1.length : Int) - 1)) _ h2) (ob (zDb k p0 v1 _ h4) (ob (o_b h5) (ob (o_ia (e := zd) 5 h7 rfl) (ob (zR (id := 0) (r' := (.nor, zLh p0 p1 v3 v6 v8)) (z4b (ztp k p0 p1 v3 v6) k _ _ h9) rfl) (ob (z7i true 1 eI v8.2 true) (ob (z7i true 1 eI v8.2 true) (ob (o_sr (P := TE.P) (T := 42) (U := 3) (by' := 8) (ρ := fun _ => xi (v8.2.length : Int)) (lv := 0) (s := 7) (lo := none) (hi := some (.tmp 0)) (mx := some (.tmp 0)) true 1 eI v8.2 true (by kernel_rfl) (by kernel_rfl) rfl rfl rfl) ob0))))))))) (by kernel_rfl))
noncomputable def zDw (p0 p1 : (SL Int)) (s1_3 : Bool) (s1_4 : Int) (r : Bool) : TM := [(0, (.d (dl eI p0.1 p0.2))), (1, (.d (dl eI p1.1 p1.2))), (4, (xb false)), (5, (xb s1_3)), (6, (xi s1_4)), (18, (xb r))]
noncomputable def znc (p0 p1 : (SL Int)) (s1_3 : Bool) (s1_4 : Int) (r : Bool) : St := ⟨(zDw p0 p1 s1_3 s1_4 r), ⟨[], []⟩, []⟩
noncomputable def zVu (p0 p1 : (SL Int)) (s1_3 : Bool) (s1_4 : Int) : TM := [(0, (.d (dl eI p0.1 p0.2))), (1, (.d (dl eI p1.1 p1.2))), (4, (xb false)), (5, (xb s1_3)), (6, (xi s1_4))]
theorem z4f (k : Nat) (p0 p1 : (SL Int)) (s1_3 : Bool) (s1_4 : Int) (r : Bool) (h : zbf k p0 p1 s1_3 s1_4 = some r) : ev TE 27 (rgn TE 27 3) ⟨(zVu p0 p1 s1_3 s1_4), ⟨[], []⟩, []⟩ = some (.nor, znc p0 p1 s1_3 s1_4 r) := by
 unfold zbf at h
 refine zr h (fun h401 g1 => ?_) (fun h401 g1 => ?_)
 ·exact zJ (g := fun r => (Ex.nor, znc p0 p1 s1_3 s1_4 r)) g1 (zqe [(27, 3, 1, .q (xb true)), (27, 3, 4, .q (xi (p0.1.length : Int)))] [] (ob (o_b h401) (ob (zx eI p0.1) ob0)) (by kernel_rfl))
 ·exact zJ (g := fun r => (Ex.nor, znc p0 p1 s1_3 s1_4 r)) g1 (zqe [(27, 3, 1, .q (xb false))] [] (ob (o_b h401) ob0) (by kernel_rfl))
noncomputable def zbk (p0 p1 : (SL Int)) (s1_3 : Bool) (s1_4 : Int) : St := ⟨(zVu p0 p1 s1_3 s1_4), ⟨[], []⟩, []⟩
noncomputable def zhw (p0 p1 : (SL Int)) (r : zt1) : TM := [(0, (.d (dl eI p0.1 p0.2))), (1, (.d (dl eI p1.1 p1.2))), (4, (xb false)), (5, (xb r.1)), (6, (xi r.2)), (18, (xb false))]
noncomputable def zee (p0 p1 : (SL Int)) (r : zt1) : St := ⟨(zhw p0 p1 r), ⟨[], []⟩, []⟩
noncomputable def zdk (p0 p1 : (SL Int)) : (Bool × Int) → Ex × St := fun r => ((.exit 0), zee p0 p1 r)
theorem zPj (k : Nat) (p0 p1 : (SL Int)) (s1_3 : Bool) (s1_4 : Int) (x : (Bool × Int) ⊕ (Bool × Int)) (h : zcf k p0 p1 s1_3 s1_4 = some x) : z7 TE 27 (blk TE 27 0) (fun s : (Bool × Int) => zbk p0 p1 s.1 s.2) (zdk p0 p1) (s1_3, s1_4) x := by
 unfold zcf at h
 refine zp h (fun v301 h302 g1 => ?_)
 refine zr g1 (fun h303 g2 => ?_) (fun h303 g2 => ?_)
 ·subst h303
  refine zp g2 (fun v304 h305 g3 => ?_)
  refine zp g3 (fun v306 h307 g4 => ?_)
  exact zqn ((v304 == v306), (w64 (s1_4 + 1))) [] [(27, 5, 2, .q (.d (.pin [(di v304)]))), (27, 5, 6, .q (.d (.pin [(di v306)])))] [(27, 1000003, (.nor, znc p0 p1 s1_3 s1_4 true))] g4 (ob (z4f k p0 p1 s1_3 s1_4 _ h302) (ob (o_ia (e := eI) 1 h305 rfl) (ob (o_ia (e := eI) 1 h307 rfl) ob0))) (by kernel_rfl)
 ·subst h303
  exact zqo [] [(27, 1000003, (.nor, znc p0 p1 s1_3 s1_4 false))] g2 (ob (z4f k p0 p1 s1_3 s1_4 _ h302) ob0) (by kernel_rfl)
theorem zAd (k : Nat) (p0 p1 : (SL Int)) (r : Bool) (h : zod k p0 p1 = some r) : zV TE (ev TE) 27 [(dl eI p0.1 p0.2), (dl eI p1.1 p1.2)] = some (zih r) := by
 unfold zod at h
 refine zp h (fun v1 h2 g1 => ?_)
 exact zM (g := zih) g1 (zqc [(27, 1, 1, .q (xi (p0.1.length : Int))), (27, 1, 3, .q (xi (p1.1.length : Int)))] [(27, 0, (.nor, zee p0 p1 v1))] (ob (zx eI p0.1) (ob (zx eI p1.1) (ob (zR (id := 0) (r' := (.nor, zee p0 p1 v1)) (z4b (zPj k p0 p1) k _ _ h2) rfl) ob0))) (by kernel_rfl))
noncomputable def zjx (p0 : zb) (p1 v3 s1_9 : Int) : TM := [(0, (.d (.agg (za p0)))), (1, (xi p1)), (zsp 2), (zsp 4), (5, (xi 0)), (6, (xi v3)), (20, (xb false)), (zsp 7), (zsp 8), (9, (xi s1_9))]
noncomputable def zpo (p0 : zb) (p1 v3 : Int) (v6 : zq) (s1_9 : Int) (s1_17 : zt0) : St := ⟨(zjx p0 p1 v3 s1_9), ⟨[(zc 2 (za p0)), (4, (.cells [(xi 0), (xi 0)])), (zc 7 (aB 61 s1_17)), (zc 8 (zk v6))], []⟩, []⟩
noncomputable def z7v (p0 : zb) (p1 v3 : Int) (r : zt8) : TM := [(0, (.d (.agg (za p0)))), (1, (xi p1)), (zsp 2), (zsp 4), (5, (xi 0)), (6, (xi v3)), (20, (xb false)), (zsp 7), (zsp 8), (9, (xi r.1)), (35, (xb false))]
noncomputable def zCg (p0 : zb) (p1 v3 : Int) (v6 : zq) (r : zt8) : St := ⟨(z7v p0 p1 v3 r), ⟨[(zc 2 (za p0)), (4, (.cells [(xi 0), (xi 0)])), (zc 7 (aB 61 r.2)), (zc 8 (zk v6))], []⟩, []⟩
noncomputable def zLo (p0 : zb) (p1 v3 : Int) (v6 : zq) : (Int × (Nat → Bool)) → Ex × St := fun r => ((.exit 0), zCg p0 p1 v3 v6 r)
theorem zMn (k : Nat) (p0 : zb) (p1 v3 : Int) (v6 : zq) (s1_9 : Int) (s1_17 : zt0) (x : (Int × (Nat → Bool)) ⊕ (Int × (Nat → Bool))) (h : z5h k p0 p1 v3 v6 s1_9 s1_17 = some x) : z7 TE 28 (blk TE 28 0) (fun s : (Int × (Nat → Bool)) => zpo p0 p1 v3 v6 s.1 s.2) (zLo p0 p1 v3 v6) (s1_9, s1_17) x := by
 unfold z5h at h
 refine zr h (fun h201 g1 => ?_) (fun h201 g1 => ?_)
 ·refine zr g1 (fun h202 g2 => ?_) (fun h202 g2 => ?_)
  ·cases g2
  ·refine z8 g2 (fun h203 g3 => ?_)
   refine zp g3 (fun v204 h205 g4 => ?_)
   refine zp g4 (fun v206 h207 g5 => ?_)
   refine z8 g5 (fun h208 g6 => ?_)
   exact zqn ((w64 (s1_9 + 1)), (upd s1_17 s1_9.toNat v206)) [] [(28, 7, 4, .q (xb true)), (68, 1, 1, .q (xb false)), (68, 3, 2, .ns (p0.Moves.1.map zk) p0.Moves.1.length), (28, 11, 6, .q (.rp 0 41 p0.Moves.1.length p1.toNat 0)), (28, 11, 7, .q (.rp 0 41 p0.Moves.1.length p1.toNat 3)), (28, 11, 8, .rs (rowO false 5 zk (p0.Moves.1.set p1.toNat (⟨v204.Day, v204.Shelf, v204.Back, (⟨s1_9, s1_9⟩ : zm)⟩ : zq)) true)), (28, 11, 999, .nm [] [(10, 2, (p0.Moves.1.set p1.toNat (⟨v204.Day, v204.Shelf, v204.Back, (⟨s1_9, s1_9⟩ : zm)⟩ : zq)).length)]), (28, 12, 5, .cr [((dl zk (p0.Moves.1.set p1.toNat (⟨v204.Day, v204.Shelf, v204.Back, (⟨s1_9, s1_9⟩ : zm)⟩ : zq)) (rcap false (p0.Moves.1.set p1.toNat (⟨v204.Day, v204.Shelf, v204.Back, (⟨s1_9, s1_9⟩ : zm)⟩ : zq)))), (rowO false 5 zk (p0.Moves.1.set p1.toNat (⟨v204.Day, v204.Shelf, v204.Back, (⟨s1_9, s1_9⟩ : zm)⟩ : zq)) false))] (db v206)), (28, 12, 6, .q (.ptr 0 7 (s1_9.toNat))), (28, 12, 7, .st ((aB 61 (upd s1_17 s1_9.toNat v206)).map .d))] [] g6 (ob (o_b h201) (ob (o_b h202) (ob (ztb p0.Moves.1 zk) (ob (o_ns (P := TE.P) (φ := fun _ _ => none) (T := 23) (q := (5, [(di 0), (di 0), (db false), (di 0), (di 0)])) (c := p0.Moves.2) (e := zk) p0.Moves.1 (by kernel_rfl) (fun _ => rfl) h203) (ob (rfl : (([] : List (List D)).isEmpty || !(p0.Moves.1.map zk).isEmpty) = true) (ob (o_rh false 5 zk p0.Moves.1) (ob (zqa 23 40 0 41 p1 false 5 zk p0.Moves.1 true (by kernel_rfl) (by kernel_rfl) h205) (ob (zqf 73 (3, 2, true) 0 41 0 3 p1 false 5 zk p0.Moves.1 true (by kernel_rfl) (by decide) h205) (ob (o_rs (b := false) (z := 5) (e := zk) (l := p0.Moves.1) (o := 3) (n := 2) (ds := [(di s1_9), (di s1_9)]) (i := p1) (y' := (⟨v204.Day, v204.Shelf, v204.Back, (⟨s1_9, s1_9⟩ : zm)⟩ : zq)) h205 (Nat.le_of_ble_eq_true rfl) rfl) (ob (show p0.Moves.1.length = (p0.Moves.1.set p1.toNat (⟨v204.Day, v204.Shelf, v204.Back, (⟨s1_9, s1_9⟩ : zm)⟩ : zq)).length by simp) (ob (o_cr false 5 zk (p0.Moves.1.set p1.toNat (⟨v204.Day, v204.Shelf, v204.Back, (⟨s1_9, s1_9⟩ : zm)⟩ : zq)) true 0 41) (ob (zVd k (⟨(⟨p0.Days, p0.Shelves, ((p0.Moves.1.set p1.toNat (⟨v204.Day, v204.Shelf, v204.Back, (⟨s1_9, s1_9⟩ : zm)⟩ : zq)), (rcap false (p0.Moves.1.set p1.toNat (⟨v204.Day, v204.Shelf, v204.Back, (⟨s1_9, s1_9⟩ : zm)⟩ : zq)))), p0.Deliveries, p0.Counts⟩ : zb), v6.Shelf, 0⟩ : zl) _ h207) (ob (zVc (m := 61) 0 7 0 1 s1_9.toNat h208 (by omega)) (ob (zDi 61 s1_17 s1_9.toNat v206 (by have := h208; simp only [Bool.and_eq_true, decide_eq_true_eq] at this; omega)) ob0)))))))))))))) (by kernel_rfl)
 ·exact zqo [(28, 7, 4, .q (xb false))] [] g1 (ob (o_b h201) ob0) (by kernel_rfl)
theorem zpc (k : Nat) (p0 : zb) (p1 : Int) (r : (zm × Int)) (h : zBl k p0 p1 = some r) : zV TE (ev TE) 28 [(.agg (za p0)), (di p1)] = some (zdj r) := by
 unfold zBl at h
 refine zp h (fun v1 h2 g1 => ?_)
 refine zp g1 (fun v3 h4 g2 => ?_)
 refine zr g2 (fun h5 g3 => ?_) (fun h5 g3 => ?_)
 ·exact zM (g := zdj) g3 (zqc [(28, 1, 4, .q (xi (p0.Moves.1.length : Int))), (28, 1, 6, .c (db v1)), (28, 1, 7, .c (di v3)), (28, 2, 1, .q (xb true))] [] (ob (zx zk p0.Moves.1) (ob (zN k p1 0 (w64 ((p0.Moves.1.length : Int) - 1)) _ h2) (ob (zDb k p0 v1 _ h4) (ob (o_b h5) ob0)))) (by kernel_rfl))
 ·refine zp g3 (fun v6 h7 g4 => ?_)
  refine zp g4 (fun v8 h9 g5 => ?_)
  refine zp g5 (fun v10 h11 g6 => ?_)
  exact zM (g := zdj) g6 (zqc [(28, 1, 4, .q (xi (p0.Moves.1.length : Int))), (28, 1, 6, .c (db v1)), (28, 1, 7, .c (di v3)), (28, 2, 1, .q (xb false)), (28, 5, 3, .q (.d (.pin (zk v6)))), (28, 13, 1, .c (.agg [(di v10.Low), (di v10.High)]))] [(28, 0, (.nor, zCg p0 p1 v3 v6 v8))] (ob (zx zk p0.Moves.1) (ob (zN k p1 0 (w64 ((p0.Moves.1.length : Int) - 1)) _ h2) (ob (zDb k p0 v1 _ h4) (ob (o_b h5) (ob (o_ia (e := zk) 5 h7 rfl) (ob (zR (id := 0) (r' := (.nor, zCg p0 p1 v3 v6 v8)) (z4b (zMn k p0 p1 v3 v6) k _ _ h9) rfl) (ob (z4c k v8.2 _ h11) ob0))))))) (by kernel_rfl))
noncomputable def zOw (p0 : zb) (p1 p2 p3 : Int) (v1 : zt1) (s1_28 : (List Int)) (s1_15 : Int) : TM := [(0, (.d (.agg (za p0)))), (1, (xi p1)), (2, (xi p2)), (3, (xi p3)), (zsp 4), (zsp 5), (8, (.d (.sl [] .nil))), (9, (xi 0)), (10, (xb v1.1)), (11, (xi v1.2)), (26, (xb false)), (29, (xb false)), (zsp 12), (13, (.fn 71 [] [(.ptr 0 12 0), (.ptr 0 5 0)])), (14, (.row 0 14 s1_28.length)), (41, (xi p0.Days)), (42, (xi s1_15))]
noncomputable def zkp (p0 : zb) (p1 p2 p3 : Int) (v1 : zt1) (s1_15 : Int) (s1_26 : (List zo)) (s1_27 : Bool) (s1_28 : (List Int)) : St := ⟨(zOw p0 p1 p2 p3 v1 s1_28 s1_15), ⟨[(zc 4 (za p0)), (5, (.cells [(xi p1)])), (12, (.cells [(xi p0.Days), (.d (dl zi p0.Shelves.1 p0.Shelves.2)), (.d (dl zk p0.Moves.1 p0.Moves.2)), (.d (dl zd p0.Deliveries.1 p0.Deliveries.2)), (.row 0 33 s1_26.length)])), (33, (rowO true 4 zh s1_26 s1_27)), (14, (rowO true 1 eI s1_28 true))], []⟩, []⟩
noncomputable def z4u (p0 : zb) (p1 p2 p3 : Int) (v1 : zt1) (r : (Int × (List zo) × Bool × (List Int))) : TM := [(0, (.d (.agg (za p0)))), (1, (xi p1)), (2, (xi p2)), (3, (xi p3)), (zsp 4), (zsp 5), (8, (.d (.sl [] .nil))), (9, (xi 0)), (10, (xb v1.1)), (11, (xi v1.2)), (26, (xb false)), (29, (xb false)), (zsp 12), (13, (.fn 71 [] [(.ptr 0 12 0), (.ptr 0 5 0)])), (14, (.row 0 14 r.2.2.2.length)), (41, (xi p0.Days)), (42, (xi r.1)), (43, (xb false))]
noncomputable def zeh (p0 : zb) (p1 p2 p3 : Int) (v1 : zt1) (r : (Int × (List zo) × Bool × (List Int))) : St := ⟨(z4u p0 p1 p2 p3 v1 r), ⟨[(zc 4 (za p0)), (5, (.cells [(xi p1)])), (12, (.cells [(xi p0.Days), (.d (dl zi p0.Shelves.1 p0.Shelves.2)), (.d (dl zk p0.Moves.1 p0.Moves.2)), (.d (dl zd p0.Deliveries.1 p0.Deliveries.2)), (.row 0 33 r.2.1.length)])), (33, (rowO true 4 zh r.2.1 r.2.2.1)), (14, (rowO true 1 eI r.2.2.2 true))], []⟩, []⟩
noncomputable def zdp (p0 : zb) (p1 p2 p3 : Int) (v1 : zt1) : (Int × (List zo) × Bool × (List Int)) → Ex × St := fun r => ((.exit 0), zeh p0 p1 p2 p3 v1 r)
theorem zro (k : Nat) (p0 : zb) (p1 p2 p3 : Int) (v1 : zt1) (s1_15 : Int) (s1_26 : (List zo)) (s1_27 : Bool) (s1_28 : (List Int)) (x : (Int × (List zo) × Bool × (List Int)) ⊕ (Int × (List zo) × Bool × (List Int))) (h : zjj k p0 p1 p2 p3 v1 s1_15 s1_26 s1_27 s1_28 = some x) : z7 TE 30 (blk TE 30 0) (fun s : (Int × (List zo) × Bool × (List Int)) => zkp p0 p1 p2 p3 v1 s.1 s.2.1 s.2.2.1 s.2.2.2) (zdp p0 p1 p2 p3 v1) (s1_15, s1_26, s1_27, s1_28) x := by
 unfold zjj at h
 refine zr h (fun h201 g1 => ?_) (fun h201 g1 => ?_)
 ·refine zp g1 (fun v202 h203 g2 => ?_)
  refine z8 g2 (fun h204 g3 => ?_)
  refine zp g3 (fun v205 h206 g4 => ?_)
  refine z8 g4 (fun h207 g5 => ?_)
  refine z8 g5 (fun h208 g6 => ?_)
  exact zqn ((w64 (s1_15 + 1)), (s1_26 ++ [(⟨s1_15, p1, v205.Low, 0⟩ : zo)]), (false || (true && s1_26.isEmpty)), (s1_28 ++ [v205.Low])) [33, 14] [(30, 12, 0, .q (xb true)), (30, 14, 3, .cr [((dl zh s1_26 (rcap true s1_26)), (rowO true 4 zh s1_26 false))] (.agg (aB 732 v202))), (30, 14, 5, .q (.d (.agg (aB 61 (fun k => v202 (s1_15.toNat * 61 + k)))))), (30, 14, 6, .c (.agg [(di v205.Low), (di v205.High)])), (71, 0, 7, .ap (s1_26 ++ [(⟨s1_15, p1, v205.Low, 0⟩ : zo)]).length (rowO true 4 zh (s1_26 ++ [(⟨s1_15, p1, v205.Low, 0⟩ : zo)]) (false || (true && s1_26.isEmpty)))), (30, 16, 3, .ap (s1_28 ++ [v205.Low]).length (rowO true 1 eI (s1_28 ++ [v205.Low]) true))] [] g6 (ob (o_b h201) (ob (o_cr true 4 zh s1_26 s1_27 0 33) (ob (zBb k (⟨(⟨p0.Days, p0.Shelves, p0.Moves, p0.Deliveries, (s1_26, (rcap true s1_26))⟩ : zb), p1, 0⟩ : zl) _ h203) (ob (zEp 12 61 v202 s1_15 h204) (ob (z4c k (fun k => v202 (s1_15.toNat * 61 + k)) _ h206) (ob (o_ap (b := true) (z := 4) (e := zh) (l := s1_26) (w := false) (⟨s1_15, p1, v205.Low, 0⟩ : zo) (fun _ => rfl) h207) (ob (o_ap (b := true) (z := 1) (e := eI) (l := s1_28) (w := true) v205.Low (fun _ => rfl) h208) (ob (z5g true 4 zh (s1_26 ++ [(⟨s1_15, p1, v205.Low, 0⟩ : zo)]) (false || (true && s1_26.isEmpty))) (ob (z5g true 1 eI (s1_28 ++ [v205.Low]) true) ob0))))))))) (by kernel_rfl)
 ·exact zqo [(30, 12, 0, .q (xb false))] [] g1 (ob (o_b h201) ob0) (by kernel_rfl)
noncomputable def z6w (p0 : zb) (p1 p2 p3 : Int) (v1 : zt1) (s2_28 : (List Int)) (s2_15 : Int) : TM := [(0, (.d (.agg (za p0)))), (1, (xi p1)), (2, (xi p2)), (3, (xi p3)), (zsp 4), (zsp 5), (8, (.d (.sl [] .nil))), (9, (xi 0)), (10, (xb v1.1)), (11, (xi v1.2)), (26, (xb false)), (29, (xb false)), (zsp 12), (13, (.fn 71 [] [(.ptr 0 12 0), (.ptr 0 5 0)])), (14, (.row 0 14 s2_28.length)), (41, (xi p0.Days)), (42, (xi s2_15))]
noncomputable def zrp (p0 : zb) (p1 p2 p3 : Int) (v1 : zt1) (s2_15 : Int) (s2_26 : (List zo)) (s2_27 : Bool) (s2_28 : (List Int)) : St := ⟨(z6w p0 p1 p2 p3 v1 s2_28 s2_15), ⟨[(zc 4 (za p0)), (5, (.cells [(xi p1)])), (12, (.cells [(xi p0.Days), (.d (dl zi p0.Shelves.1 p0.Shelves.2)), (.d (dl zk p0.Moves.1 p0.Moves.2)), (.d (dl zd p0.Deliveries.1 p0.Deliveries.2)), (.row 0 33 s2_26.length)])), (33, (rowO false 4 zh s2_26 s2_27)), (14, (rowO true 1 eI s2_28 true))], []⟩, []⟩
noncomputable def z9g (p0 : zb) (p1 p2 p3 : Int) (v1 : zt1) (r : (Int × (List zo) × Bool × (List Int))) : St := ⟨(z4u p0 p1 p2 p3 v1 r), ⟨[(zc 4 (za p0)), (5, (.cells [(xi p1)])), (12, (.cells [(xi p0.Days), (.d (dl zi p0.Shelves.1 p0.Shelves.2)), (.d (dl zk p0.Moves.1 p0.Moves.2)), (.d (dl zd p0.Deliveries.1 p0.Deliveries.2)), (.row 0 33 r.2.1.length)])), (33, (rowO false 4 zh r.2.1 r.2.2.1)), (14, (rowO true 1 eI r.2.2.2 true))], []⟩, []⟩
noncomputable def zop (p0 : zb) (p1 p2 p3 : Int) (v1 : zt1) : (Int × (List zo) × Bool × (List Int)) → Ex × St := fun r => ((.exit 0), z9g p0 p1 p2 p3 v1 r)
theorem zCo (k : Nat) (p0 : zb) (p1 p2 p3 : Int) (v1 : zt1) (s2_15 : Int) (s2_26 : (List zo)) (s2_27 : Bool) (s2_28 : (List Int)) (x : (Int × (List zo) × Bool × (List Int)) ⊕ (Int × (List zo) × Bool × (List Int))) (h : zoj k p0 p1 p2 p3 v1 s2_15 s2_26 s2_27 s2_28 = some x) : z7 TE 30 (blk TE 30 0) (fun s : (Int × (List zo) × Bool × (List Int)) => zrp p0 p1 p2 p3 v1 s.1 s.2.1 s.2.2.1 s.2.2.2) (zop p0 p1 p2 p3 v1) (s2_15, s2_26, s2_27, s2_28) x := by
 unfold zoj at h
 refine zr h (fun h301 g1 => ?_) (fun h301 g1 => ?_)
 ·refine zp g1 (fun v302 h303 g2 => ?_)
  refine z8 g2 (fun h304 g3 => ?_)
  refine zp g3 (fun v305 h306 g4 => ?_)
  refine z8 g4 (fun h307 g5 => ?_)
  refine z8 g5 (fun h308 g6 => ?_)
  exact zqn ((w64 (s2_15 + 1)), (s2_26 ++ [(⟨s2_15, p1, v305.Low, 0⟩ : zo)]), (false || (false && s2_26.isEmpty)), (s2_28 ++ [v305.Low])) [33, 14] [(30, 12, 0, .q (xb true)), (30, 14, 3, .cr [((dl zh s2_26 (rcap false s2_26)), (rowO false 4 zh s2_26 false))] (.agg (aB 732 v302))), (30, 14, 5, .q (.d (.agg (aB 61 (fun k => v302 (s2_15.toNat * 61 + k)))))), (30, 14, 6, .c (.agg [(di v305.Low), (di v305.High)])), (71, 0, 7, .ap (s2_26 ++ [(⟨s2_15, p1, v305.Low, 0⟩ : zo)]).length (rowO false 4 zh (s2_26 ++ [(⟨s2_15, p1, v305.Low, 0⟩ : zo)]) (false || (false && s2_26.isEmpty)))), (30, 16, 3, .ap (s2_28 ++ [v305.Low]).length (rowO true 1 eI (s2_28 ++ [v305.Low]) true))] [] g6 (ob (o_b h301) (ob (o_cr false 4 zh s2_26 s2_27 0 33) (ob (zBb k (⟨(⟨p0.Days, p0.Shelves, p0.Moves, p0.Deliveries, (s2_26, (rcap false s2_26))⟩ : zb), p1, 0⟩ : zl) _ h303) (ob (zEp 12 61 v302 s2_15 h304) (ob (z4c k (fun k => v302 (s2_15.toNat * 61 + k)) _ h306) (ob (o_ap (b := false) (z := 4) (e := zh) (l := s2_26) (w := false) (⟨s2_15, p1, v305.Low, 0⟩ : zo) (fun _ => rfl) h307) (ob (o_ap (b := true) (z := 1) (e := eI) (l := s2_28) (w := true) v305.Low (fun _ => rfl) h308) (ob (z5g false 4 zh (s2_26 ++ [(⟨s2_15, p1, v305.Low, 0⟩ : zo)]) (false || (false && s2_26.isEmpty))) (ob (z5g true 1 eI (s2_28 ++ [v305.Low]) true) ob0))))))))) (by kernel_rfl)
 ·exact zqo [(30, 12, 0, .q (xb false))] [] g1 (ob (o_b h301) ob0) (by kernel_rfl)
theorem zKc (k : Nat) (p0 : zb) (p1 p2 p3 : Int) (r : ((SL Int) × Int)) (h : zPm k p0 p1 p2 p3 = some r) : zV TE (ev TE) 30 [(.agg (za p0)), (di p1), (di p2), (di p3)] = some (zjg r) := by
 unfold zPm at h
 refine zp h (fun v1 h2 g1 => ?_)
 refine zr g1 (fun h3 g2 => ?_) (fun h3 g2 => ?_)
 ·exact zM (g := zjg) g2 (zqc [(30, 1, 4, .c (.tup [(db v1.1), (di v1.2)])), (30, 2, 1, .q (xb true))] [] (ob (zMb k p0 p1 p2 p3 _ h2) (ob (o_b h3) ob0)) (by kernel_rfl))
 ·refine zr g2 (fun h4 g3 => ?_) (fun h4 g3 => ?_)
  ·exact zM (g := zjg) g3 (zqc [(30, 1, 4, .c (.tup [(db v1.1), (di v1.2)])), (30, 2, 1, .q (xb false)), (30, 4, 1, .q (xb true))] [] (ob (zMb k p0 p1 p2 p3 _ h2) (ob (o_b h3) (ob (o_b h4) ob0))) (by kernel_rfl))
  ·refine zr g3 (fun h5 g4 => ?_) (fun h5 g4 => ?_)
   ·refine z8 g4 (fun h6 g5 => ?_)
    refine zp g5 (fun v7 h8 g6 => ?_)
    exact zM (g := zjg) g6 (zqc [(30, 1, 4, .c (.tup [(db v1.1), (di v1.2)])), (30, 2, 1, .q (xb false)), (30, 4, 1, .q (xb false)), (70, 1, 1, .q (xb true)), (71, 0, 7, .ap ([(⟨p2, p1, p3, 0⟩ : zo)] : List zo).length (rowO true 4 zh ([(⟨p2, p1, p3, 0⟩ : zo)] : List zo) true)), (30, 18, 2, .q (xi (v7.2.2.2.length : Int))), (30, 18, 4, .q (xi (v7.2.2.2.length : Int))), (30, 18, 5, .sr (.d (dl eI v7.2.2.2 (xcap true v7.2.2.2))) (rowO true 1 eI v7.2.2.2 false))] [(30, 0, (.nor, zeh p0 p1 p2 p3 v1 v7))] (ob (zMb k p0 p1 p2 p3 _ h2) (ob (o_b h3) (ob (o_b h4) (ob (o_b h5) (ob (o_ap (b := true) (z := 4) (e := zh) (l := ([] : List zo)) (w := true) (⟨p2, p1, p3, 0⟩ : zo) (fun _ => rfl) h6) (ob (zR (id := 0) (r' := (.nor, zeh p0 p1 p2 p3 v1 v7)) (zQv (zro k p0 p1 p2 p3 v1) k _ _ h8) rfl) (ob (z7i true 1 eI v7.2.2.2 true) (ob (z7i true 1 eI v7.2.2.2 true) (ob (o_sr (P := TE.P) (T := 42) (U := 3) (by' := 8) (ρ := fun _ => xi (v7.2.2.2.length : Int)) (lv := 0) (s := 14) (lo := none) (hi := some (.tmp 0)) (mx := some (.tmp 0)) true 1 eI v7.2.2.2 true (by kernel_rfl) (by kernel_rfl) rfl rfl rfl) ob0))))))))) (by kernel_rfl))
   ·refine z8 g4 (fun h6 g5 => ?_)
    refine z8 g5 (fun h7 g6 => ?_)
    refine zp g6 (fun v8 h9 g7 => ?_)
    exact zM (g := zjg) g7 (zqc [(30, 1, 4, .c (.tup [(db v1.1), (di v1.2)])), (30, 2, 1, .q (xb false)), (30, 4, 1, .q (xb false)), (70, 1, 1, .q (xb false)), (70, 3, 2, .ns (p0.Counts.1.map zh) p0.Counts.1.length), (71, 0, 7, .ap (p0.Counts.1 ++ [(⟨p2, p1, p3, 0⟩ : zo)]).length (rowO false 4 zh (p0.Counts.1 ++ [(⟨p2, p1, p3, 0⟩ : zo)]) true)), (30, 18, 2, .q (xi (v8.2.2.2.length : Int))), (30, 18, 4, .q (xi (v8.2.2.2.length : Int))), (30, 18, 5, .sr (.d (dl eI v8.2.2.2 (xcap true v8.2.2.2))) (rowO true 1 eI v8.2.2.2 false))] [(30, 0, (.nor, z9g p0 p1 p2 p3 v1 v8))] (ob (zMb k p0 p1 p2 p3 _ h2) (ob (o_b h3) (ob (o_b h4) (ob (o_b h5) (ob (ztb p0.Counts.1 zh) (ob (o_ns (P := TE.P) (φ := fun _ _ => none) (T := 25) (q := (4, [(di 0), (di 0), (di 0), (di 0)])) (c := p0.Counts.2) (e := zh) p0.Counts.1 (by kernel_rfl) (fun _ => rfl) h6) (ob (rfl : (([] : List (List D)).isEmpty || !(p0.Counts.1.map zh).isEmpty) = true) (ob (o_rh false 4 zh p0.Counts.1) (ob (o_ap (b := false) (z := 4) (e := zh) (l := p0.Counts.1) (w := true) (⟨p2, p1, p3, 0⟩ : zo) (fun _ => rfl) h7) (ob (zR (id := 0) (r' := (.nor, z9g p0 p1 p2 p3 v1 v8)) (zQv (zCo k p0 p1 p2 p3 v1) k _ _ h9) rfl) (ob (z7i true 1 eI v8.2.2.2 true) (ob (z7i true 1 eI v8.2.2.2 true) (ob (o_sr (P := TE.P) (T := 42) (U := 3) (by' := 8) (ρ := fun _ => xi (v8.2.2.2.length : Int)) (lv := 0) (s := 14) (lo := none) (hi := some (.tmp 0)) (mx := some (.tmp 0)) true 1 eI v8.2.2.2 true (by kernel_rfl) (by kernel_rfl) rfl rfl rfl) ob0))))))))))))) (by kernel_rfl))
noncomputable def zUj (r0 : (SL Int)) (r1 r2 : Int) (r : zt4) : TM := [(0, (.d (dl eI r0.1 r0.2))), (1, (xi r1)), (2, (xi r2)), (3, (.ptr 0 1 0)), (4, (.ptr 0 5 0)), (8, (.d (.sl [] .nil))), (9, (xb false)), (17, (xb false)), (10, (xi r.1)), (24, (xb r.2))]
noncomputable def zke (p0 : zb) (r0 : (SL Int)) (r1 r2 : Int) (cb : Bool) (rc : zt3) (r : zt4) : St := ⟨(zUj r0 r1 r2 r), ⟨[], [[(zc 1 (za p0)), (5, (.cells [(.fn 75 [] [(.ptr 0 1 0), (.ptr 0 5 0)])]))]]⟩, []⟩
noncomputable def zZj (r0 : (SL Int)) (r1 r2 : Int) (cb : Bool) : TM := [(0, (.d (dl eI r0.1 r0.2))), (1, (xi r1)), (2, (xi r2)), (3, (.ptr 0 1 0)), (4, (.ptr 0 5 0)), (8, (.d (.sl [] .nil))), (9, (xb false)), (17, (xb false)), (10, (xi 0)), (24, (xb cb))]
theorem zzj (k : Nat) (p0 : zb) (r0 : (SL Int)) (r1 r2 : Int) (cb : Bool) (rc : zt3) (hrc : ∀ (f : Fr) (r0 : (SL Int)) (r1 : Int) (r2 : Int) (r : ((SL Int) × Bool)), rc r0 r1 r2 = some r → zkb TE (ev TE) 75 [(.d (dl eI r0.1 r0.2)), (xi r1), (xi r2), (.ptr 0 1 0), (.ptr 0 5 0)] ⟨f, [[(1, (.cells ((za p0).map .d))), (5, (.cells [(.fn 75 [] [(.ptr 0 1 0), (.ptr 0 5 0)])]))]]⟩ [] = some (zE r, ⟨f, [[(1, (.cells ((za p0).map .d))), (5, (.cells [(.fn 75 [] [(.ptr 0 1 0), (.ptr 0 5 0)])]))]]⟩, [])) (r : zt4) (h : z3h k p0 r0 r1 r2 cb rc = some r) : ev TE 75 (cnd TE 75 24) ⟨(zZj r0 r1 r2 cb), ⟨[], [[(zc 1 (za p0)), (5, (.cells [(.fn 75 [] [(.ptr 0 1 0), (.ptr 0 5 0)])]))]]⟩, []⟩ = some (.nor, zke p0 r0 r1 r2 cb rc r) := by
 unfold z3h at h
 refine zr h (fun h401 g1 => ?_) (fun h401 g1 => ?_)
 ·subst h401
  refine zp g1 (fun v402 h403 g2 => ?_)
  exact zJ (g := fun r => (Ex.nor, zke p0 r0 r1 r2 true rc r)) g2 (zqe [(75, 5, 2, .q (xi (r0.1.length : Int))), (75, 5, 4, .q (.d (.pin [(di v402)])))] [] (ob (zx eI r0.1) (ob (o_ia (e := eI) 1 h403 rfl) ob0)) (by kernel_rfl))
 ·subst h401
  exact zJ (g := fun r => (Ex.nor, zke p0 r0 r1 r2 false rc r)) g1 (zqe [] [] ob0 (by kernel_rfl))
noncomputable def z5v (r0 : (SL Int)) (r1 r2 : Int) (v302 : zt4) (s4_8 : Int) : TM := [(0, (.d (dl eI r0.1 r0.2))), (1, (xi r1)), (2, (xi r2)), (3, (.ptr 0 1 0)), (4, (.ptr 0 5 0)), (8, (.d (.sl [] .nil))), (9, (xb false)), (17, (xb false)), (10, (xi v302.1)), (24, (xb v302.2)), (11, (xi s4_8))]
noncomputable def zyo (p0 : zb) (r0 : (SL Int)) (r1 r2 : Int) (v302 : zt4) (rc : zt3) (s4_8 : Int) : St := ⟨(z5v r0 r1 r2 v302 s4_8), ⟨[], [[(zc 1 (za p0)), (5, (.cells [(.fn 75 [] [(.ptr 0 1 0), (.ptr 0 5 0)])]))]]⟩, []⟩
noncomputable def zpw (r0 : (SL Int)) (r1 r2 : Int) (r : zt10) (v302 : zt4) : TM := [(0, (.d (dl eI r0.1 r0.2))), (1, (xi r1)), (2, (xi r2)), (3, (.ptr 0 1 0)), (4, (.ptr 0 5 0)), (8, (.d (dl eI r.1.1 r.1.2))), (9, (xb true)), (17, (xb false)), (10, (xi v302.1)), (24, (xb v302.2)), (11, (xi r.2.1)), (37, (xb true)), (12, (.d (dl eI r.1.1 r.1.2))), (13, (xb r.2.2)), (59, (xb true))]
noncomputable def zPg (p0 : zb) (r0 : (SL Int)) (r1 r2 : Int) (v302 : zt4) (rc : zt3) (r : zt10) : St := ⟨(zpw r0 r1 r2 r v302), ⟨[], [[(zc 1 (za p0)), (5, (.cells [(.fn 75 [] [(.ptr 0 1 0), (.ptr 0 5 0)])]))]]⟩, []⟩
noncomputable def zdw (r0 : (SL Int)) (r1 r2 : Int) (v302 : zt4) (r : Int) : TM := [(0, (.d (dl eI r0.1 r0.2))), (1, (xi r1)), (2, (xi r2)), (3, (.ptr 0 1 0)), (4, (.ptr 0 5 0)), (8, (.d (.sl [] .nil))), (9, (xb false)), (17, (xb false)), (10, (xi v302.1)), (24, (xb v302.2)), (11, (xi r)), (37, (xb false))]
noncomputable def zJg (p0 : zb) (r0 : (SL Int)) (r1 r2 : Int) (v302 : zt4) (rc : zt3) (r : Int) : St := ⟨(zdw r0 r1 r2 v302 r), ⟨[], [[(zc 1 (za p0)), (5, (.cells [(.fn 75 [] [(.ptr 0 1 0), (.ptr 0 5 0)])]))]]⟩, []⟩
noncomputable def zXo (p0 : zb) (r0 : (SL Int)) (r1 r2 : Int) (v302 : zt4) (rc : zt3) : (((SL Int) × Int × Bool) ⊕ Int) → Ex × St := Sum.elim (fun r => (.ret, zPg p0 r0 r1 r2 v302 rc r)) (fun r => ((.exit 0), zJg p0 r0 r1 r2 v302 rc r))
theorem ztj (k : Nat) (p0 : zb) (r0 : (SL Int)) (r1 r2 : Int) (v302 : zt4) (rc : zt3) (hrc : ∀ (f : Fr) (r0 : (SL Int)) (r1 : Int) (r2 : Int) (r : ((SL Int) × Bool)), rc r0 r1 r2 = some r → zkb TE (ev TE) 75 [(.d (dl eI r0.1 r0.2)), (xi r1), (xi r2), (.ptr 0 1 0), (.ptr 0 5 0)] ⟨f, [[(1, (.cells ((za p0).map .d))), (5, (.cells [(.fn 75 [] [(.ptr 0 1 0), (.ptr 0 5 0)])]))]]⟩ [] = some (zE r, ⟨f, [[(1, (.cells ((za p0).map .d))), (5, (.cells [(.fn 75 [] [(.ptr 0 1 0), (.ptr 0 5 0)])]))]]⟩, [])) (s4_8 : Int) (x : Int ⊕ (((SL Int) × Int × Bool) ⊕ Int)) (h : zri k p0 r0 r1 r2 v302 rc s4_8 = some x) : z7 TE 75 (blk TE 75 0) (fun s : Int => zyo p0 r0 r1 r2 v302 rc s) (zXo p0 r0 r1 r2 v302 rc) s4_8 x := by
 unfold zri at h
 refine zr h (fun h501 g1 => ?_) (fun h501 g1 => ?_)
 ·refine zr g1 (fun h502 g2 => ?_) (fun h502 g2 => ?_)
  ·cases g2
  ·refine z8 g2 (fun h503 g3 => ?_)
   refine zr g3 (fun h504 g4 => ?_) (fun h504 g4 => ?_)
   ·cases g4
   ·refine zp g4 (fun v505 h506 g5 => ?_)
    refine zr g5 (fun h507 g6 => ?_) (fun h507 g6 => ?_)
    ·exact zqo [(75, 7, 3, .q (xi (p0.Counts.1.length : Int))), (75, 7, 4, .q (xb true)), (75, 9, 3, .q (xi (r0.1.length : Int))), (75, 9, 5, .q (xi (r0.1.length : Int))), (75, 9, 6, .q (.d (dl eI r0.1 (ccap r0.2)))), (75, 9, 9, .q (.d (dl eI (r0.1 ++ [s4_8]) .ro))), (75, 9, 12, .q (xi (zT 1 s4_8))), (75, 9, 15, .i (.tup [(dl eI v505.1.1 v505.1.2), (db v505.2)]) ⟨[], [[(1, (.cells ((za p0).map .d))), (5, (.cells [(.fn 75 [] [(.ptr 0 1 0), (.ptr 0 5 0)])]))]]⟩ []), (75, 10, 0, .q (xb true))] [] g6 (ob (zx zh p0.Counts.1) (ob (o_b h501) (ob (zx eI r0.1) (ob (zx eI r0.1) (ob (z8d (e := eI) (z := 1) r0.1 r0.2) (ob (o_ad (P := TE.P) (φ := fun _ _ => none) (T := 42) (q := (1, [(di 0)])) (c := (ccap r0.2)) (e := eI) r0.1 s4_8 (by kernel_rfl) (fun _ => rfl) h502 h503) (ob (zjc (x := 1) h504) (ob (hrc ([] : Fr) ((r0.1 ++ [s4_8]), .ro) (or64 r1 (zT 1 s4_8)) r2 _ h506) (ob (o_b h507) ob0))))))))) (by kernel_rfl)
    ·exact zqn (w64 (s4_8 + 1)) [] [(75, 7, 3, .q (xi (p0.Counts.1.length : Int))), (75, 7, 4, .q (xb true)), (75, 9, 3, .q (xi (r0.1.length : Int))), (75, 9, 5, .q (xi (r0.1.length : Int))), (75, 9, 6, .q (.d (dl eI r0.1 (ccap r0.2)))), (75, 9, 9, .q (.d (dl eI (r0.1 ++ [s4_8]) .ro))), (75, 9, 12, .q (xi (zT 1 s4_8))), (75, 9, 15, .i (.tup [(dl eI v505.1.1 v505.1.2), (db v505.2)]) ⟨[], [[(1, (.cells ((za p0).map .d))), (5, (.cells [(.fn 75 [] [(.ptr 0 1 0), (.ptr 0 5 0)])]))]]⟩ []), (75, 10, 0, .q (xb false))] [] g6 (ob (zx zh p0.Counts.1) (ob (o_b h501) (ob (zx eI r0.1) (ob (zx eI r0.1) (ob (z8d (e := eI) (z := 1) r0.1 r0.2) (ob (o_ad (P := TE.P) (φ := fun _ _ => none) (T := 42) (q := (1, [(di 0)])) (c := (ccap r0.2)) (e := eI) r0.1 s4_8 (by kernel_rfl) (fun _ => rfl) h502 h503) (ob (zjc (x := 1) h504) (ob (hrc ([] : Fr) ((r0.1 ++ [s4_8]), .ro) (or64 r1 (zT 1 s4_8)) r2 _ h506) (ob (o_b h507) ob0))))))))) (by kernel_rfl)
 ·exact zqo [(75, 7, 3, .q (xi (p0.Counts.1.length : Int))), (75, 7, 4, .q (xb false))] [] g1 (ob (zx zh p0.Counts.1) (ob (o_b h501) ob0)) (by kernel_rfl)
theorem zln (k : Nat) (p0 : zb) (rc : zt3) (hrc : ∀ (f : Fr) (r0 : (SL Int)) (r1 : Int) (r2 : Int) (r : ((SL Int) × Bool)), rc r0 r1 r2 = some r → zkb TE (ev TE) 75 [(.d (dl eI r0.1 r0.2)), (xi r1), (xi r2), (.ptr 0 1 0), (.ptr 0 5 0)] ⟨f, [[(1, (.cells ((za p0).map .d))), (5, (.cells [(.fn 75 [] [(.ptr 0 1 0), (.ptr 0 5 0)])]))]]⟩ [] = some (zE r, ⟨f, [[(1, (.cells ((za p0).map .d))), (5, (.cells [(.fn 75 [] [(.ptr 0 1 0), (.ptr 0 5 0)])]))]]⟩, [])) (r0 : (SL Int)) (r1 r2 : Int) (r : ((SL Int) × Bool)) (h : zOg k p0 rc r0 r1 r2 = some r) : zkb TE (ev TE) 75 [(.d (dl eI r0.1 r0.2)), (xi r1), (xi r2), (.ptr 0 1 0), (.ptr 0 5 0)] ⟨[(zc 1 (za p0)), (5, (.cells [(.fn 75 [] [(.ptr 0 1 0), (.ptr 0 5 0)])]))], []⟩ [] = some (zE r, ⟨[(zc 1 (za p0)), (5, (.cells [(.fn 75 [] [(.ptr 0 1 0), (.ptr 0 5 0)])]))], []⟩, []) := by
 unfold zOg at h
 refine zr h (fun h301 g1 => ?_) (fun h301 g1 => ?_)
 ·refine zp g1 (fun v302 h303 g2 => ?_)
  exact zFb (g := (fun r => (zE r, ⟨[(1, (.cells ((za p0).map .d))), (5, (.cells [(.fn 75 [] [(.ptr 0 1 0), (.ptr 0 5 0)])]))], []⟩, []))) g2 (zpb (n := 80) (V := [(75, 1, 1, .q (xi (r0.1.length : Int))), (75, 1, 3, .q (xb true)), (75, 2, 3, .c (db v302))]) (C := []) (ob (zx eI r0.1) (ob (o_b h301) (ob (zNb k p0 r1 _ h303) ob0))) (by kernel_rfl))
 ·refine zp g1 (fun v302 h303 g2 => ?_)
  refine zp g2 (fun v304 h305 g3 => ?_)
  refine zYd g3 (fun v307 hh g4_0 => ?_) (fun v307 hh g4_0 => ?_)
  ·subst hh
   exact zFb (g := (fun r => (zE r, ⟨[(1, (.cells ((za p0).map .d))), (5, (.cells [(.fn 75 [] [(.ptr 0 1 0), (.ptr 0 5 0)])]))], []⟩, []))) g4_0 (zpb (n := 80) (V := [(75, 1, 1, .q (xi (r0.1.length : Int))), (75, 1, 3, .q (xb false)), (75, 4, 1, .q (xi (r0.1.length : Int)))]) (C := [(75, 2000024, (.nor, zke p0 r0 r1 r2 (decide ((r0.1.length : Int) > 0)) rc v302)), (75, 0, (.ret, zPg p0 r0 r1 r2 v302 rc v307))]) (ob (zx eI r0.1) (ob (o_b h301) (ob (zx eI r0.1) (ob (zzj k p0 r0 r1 r2 (decide ((r0.1.length : Int) > 0)) rc hrc _ h303) (ob (zR (id := 0) (r' := (.ret, zPg p0 r0 r1 r2 v302 rc v307)) (zYc (ztj k p0 r0 r1 r2 v302 rc hrc) k _ _ h305) rfl) ob0))))) (by kernel_rfl))
  ·subst hh
   exact zFb (g := (fun r => (zE r, ⟨[(1, (.cells ((za p0).map .d))), (5, (.cells [(.fn 75 [] [(.ptr 0 1 0), (.ptr 0 5 0)])]))], []⟩, []))) g4_0 (zpb (n := 80) (V := [(75, 1, 1, .q (xi (r0.1.length : Int))), (75, 1, 3, .q (xb false)), (75, 4, 1, .q (xi (r0.1.length : Int)))]) (C := [(75, 2000024, (.nor, zke p0 r0 r1 r2 (decide ((r0.1.length : Int) > 0)) rc v302)), (75, 0, (.nor, zJg p0 r0 r1 r2 v302 rc v307))]) (ob (zx eI r0.1) (ob (o_b h301) (ob (zx eI r0.1) (ob (zzj k p0 r0 r1 r2 (decide ((r0.1.length : Int) > 0)) rc hrc _ h303) (ob (zR (id := 0) (r' := (.nor, zJg p0 r0 r1 r2 v302 rc v307)) (zYc (ztj k p0 r0 r1 r2 v302 rc hrc) k _ _ h305) rfl) ob0))))) (by kernel_rfl))
noncomputable def zte (p0 : zb) (r0 : (SL Int)) (r1 r2 : Int) (cb : Bool) (rc : zt3) (f1 : Fr) (r : zt4) : St := ⟨(zUj r0 r1 r2 r), ⟨[], [[(zc 1 (za p0)), (5, (.cells [(.fn 75 [] [(.ptr 0 1 0), (.ptr 0 5 0)])]))], f1]⟩, []⟩
theorem zyj (k : Nat) (p0 : zb) (r0 : (SL Int)) (r1 r2 : Int) (cb : Bool) (rc : zt3) (f1 : Fr) (hrc : ∀ (f : Fr) (r0 : (SL Int)) (r1 : Int) (r2 : Int) (r : ((SL Int) × Bool)), rc r0 r1 r2 = some r → zkb TE (ev TE) 75 [(.d (dl eI r0.1 r0.2)), (xi r1), (xi r2), (.ptr 0 1 0), (.ptr 0 5 0)] ⟨f, [[(1, (.cells ((za p0).map .d))), (5, (.cells [(.fn 75 [] [(.ptr 0 1 0), (.ptr 0 5 0)])]))], f1]⟩ [] = some (zE r, ⟨f, [[(1, (.cells ((za p0).map .d))), (5, (.cells [(.fn 75 [] [(.ptr 0 1 0), (.ptr 0 5 0)])]))], f1]⟩, [])) (r : zt4) (h : zli k p0 r0 r1 r2 cb rc = some r) : ev TE 75 (cnd TE 75 24) ⟨(zZj r0 r1 r2 cb), ⟨[], [[(zc 1 (za p0)), (5, (.cells [(.fn 75 [] [(.ptr 0 1 0), (.ptr 0 5 0)])]))], f1]⟩, []⟩ = some (.nor, zte p0 r0 r1 r2 cb rc f1 r) := by
 unfold zli at h
 refine zr h (fun h601 g1 => ?_) (fun h601 g1 => ?_)
 ·subst h601
  refine zp g1 (fun v602 h603 g2 => ?_)
  exact zJ (g := fun r => (Ex.nor, zte p0 r0 r1 r2 true rc f1 r)) g2 (zqe [(75, 5, 2, .q (xi (r0.1.length : Int))), (75, 5, 4, .q (.d (.pin [(di v602)])))] [] (ob (zx eI r0.1) (ob (o_ia (e := eI) 1 h603 rfl) ob0)) (by kernel_rfl))
 ·subst h601
  exact zJ (g := fun r => (Ex.nor, zte p0 r0 r1 r2 false rc f1 r)) g1 (zqe [] [] ob0 (by kernel_rfl))
noncomputable def zAw (r0 : (SL Int)) (r1 r2 : Int) (v502 : zt4) (s6_8 : Int) : TM := [(0, (.d (dl eI r0.1 r0.2))), (1, (xi r1)), (2, (xi r2)), (3, (.ptr 0 1 0)), (4, (.ptr 0 5 0)), (8, (.d (.sl [] .nil))), (9, (xb false)), (17, (xb false)), (10, (xi v502.1)), (24, (xb v502.2)), (11, (xi s6_8))]
noncomputable def zUo (p0 : zb) (r0 : (SL Int)) (r1 r2 : Int) (v502 : zt4) (rc : zt3) (f1 : Fr) (s6_8 : Int) : St := ⟨(zAw r0 r1 r2 v502 s6_8), ⟨[], [[(zc 1 (za p0)), (5, (.cells [(.fn 75 [] [(.ptr 0 1 0), (.ptr 0 5 0)])]))], f1]⟩, []⟩
noncomputable def z6v (r0 : (SL Int)) (r1 r2 : Int) (r : zt10) (v502 : zt4) : TM := [(0, (.d (dl eI r0.1 r0.2))), (1, (xi r1)), (2, (xi r2)), (3, (.ptr 0 1 0)), (4, (.ptr 0 5 0)), (8, (.d (dl eI r.1.1 r.1.2))), (9, (xb true)), (17, (xb false)), (10, (xi v502.1)), (24, (xb v502.2)), (11, (xi r.2.1)), (37, (xb true)), (12, (.d (dl eI r.1.1 r.1.2))), (13, (xb r.2.2)), (59, (xb true))]
noncomputable def zNg (p0 : zb) (r0 : (SL Int)) (r1 r2 : Int) (v502 : zt4) (rc : zt3) (f1 : Fr) (r : zt10) : St := ⟨(z6v r0 r1 r2 r v502), ⟨[], [[(zc 1 (za p0)), (5, (.cells [(.fn 75 [] [(.ptr 0 1 0), (.ptr 0 5 0)])]))], f1]⟩, []⟩
noncomputable def zRw (r0 : (SL Int)) (r1 r2 : Int) (v502 : zt4) (r : Int) : TM := [(0, (.d (dl eI r0.1 r0.2))), (1, (xi r1)), (2, (xi r2)), (3, (.ptr 0 1 0)), (4, (.ptr 0 5 0)), (8, (.d (.sl [] .nil))), (9, (xb false)), (17, (xb false)), (10, (xi v502.1)), (24, (xb v502.2)), (11, (xi r)), (37, (xb false))]
noncomputable def zQg (p0 : zb) (r0 : (SL Int)) (r1 r2 : Int) (v502 : zt4) (rc : zt3) (f1 : Fr) (r : Int) : St := ⟨(zRw r0 r1 r2 v502 r), ⟨[], [[(zc 1 (za p0)), (5, (.cells [(.fn 75 [] [(.ptr 0 1 0), (.ptr 0 5 0)])]))], f1]⟩, []⟩
noncomputable def zho (p0 : zb) (r0 : (SL Int)) (r1 r2 : Int) (v502 : zt4) (rc : zt3) (f1 : Fr) : (((SL Int) × Int × Bool) ⊕ Int) → Ex × St := Sum.elim (fun r => (.ret, zNg p0 r0 r1 r2 v502 rc f1 r)) (fun r => ((.exit 0), zQg p0 r0 r1 r2 v502 rc f1 r))
theorem zuj (k : Nat) (p0 : zb) (r0 : (SL Int)) (r1 r2 : Int) (v502 : zt4) (rc : zt3) (f1 : Fr) (hrc : ∀ (f : Fr) (r0 : (SL Int)) (r1 : Int) (r2 : Int) (r : ((SL Int) × Bool)), rc r0 r1 r2 = some r → zkb TE (ev TE) 75 [(.d (dl eI r0.1 r0.2)), (xi r1), (xi r2), (.ptr 0 1 0), (.ptr 0 5 0)] ⟨f, [[(1, (.cells ((za p0).map .d))), (5, (.cells [(.fn 75 [] [(.ptr 0 1 0), (.ptr 0 5 0)])]))], f1]⟩ [] = some (zE r, ⟨f, [[(1, (.cells ((za p0).map .d))), (5, (.cells [(.fn 75 [] [(.ptr 0 1 0), (.ptr 0 5 0)])]))], f1]⟩, [])) (s6_8 : Int) (x : Int ⊕ (((SL Int) × Int × Bool) ⊕ Int)) (h : zsi k p0 r0 r1 r2 v502 rc s6_8 = some x) : z7 TE 75 (blk TE 75 0) (fun s : Int => zUo p0 r0 r1 r2 v502 rc f1 s) (zho p0 r0 r1 r2 v502 rc f1) s6_8 x := by
 unfold zsi at h
 refine zr h (fun h701 g1 => ?_) (fun h701 g1 => ?_)
 ·refine zr g1 (fun h702 g2 => ?_) (fun h702 g2 => ?_)
  ·cases g2
  ·refine z8 g2 (fun h703 g3 => ?_)
   refine zr g3 (fun h704 g4 => ?_) (fun h704 g4 => ?_)
   ·cases g4
   ·refine zp g4 (fun v705 h706 g5 => ?_)
    refine zr g5 (fun h707 g6 => ?_) (fun h707 g6 => ?_)
    ·exact zqo [(75, 7, 3, .q (xi (p0.Counts.1.length : Int))), (75, 7, 4, .q (xb true)), (75, 9, 3, .q (xi (r0.1.length : Int))), (75, 9, 5, .q (xi (r0.1.length : Int))), (75, 9, 6, .q (.d (dl eI r0.1 (ccap r0.2)))), (75, 9, 9, .q (.d (dl eI (r0.1 ++ [s6_8]) .ro))), (75, 9, 12, .q (xi (zT 1 s6_8))), (75, 9, 15, .i (.tup [(dl eI v705.1.1 v705.1.2), (db v705.2)]) ⟨[], [[(1, (.cells ((za p0).map .d))), (5, (.cells [(.fn 75 [] [(.ptr 0 1 0), (.ptr 0 5 0)])]))], f1]⟩ []), (75, 10, 0, .q (xb true))] [] g6 (ob (zx zh p0.Counts.1) (ob (o_b h701) (ob (zx eI r0.1) (ob (zx eI r0.1) (ob (z8d (e := eI) (z := 1) r0.1 r0.2) (ob (o_ad (P := TE.P) (φ := fun _ _ => none) (T := 42) (q := (1, [(di 0)])) (c := (ccap r0.2)) (e := eI) r0.1 s6_8 (by kernel_rfl) (fun _ => rfl) h702 h703) (ob (zjc (x := 1) h704) (ob (hrc ([] : Fr) ((r0.1 ++ [s6_8]), .ro) (or64 r1 (zT 1 s6_8)) r2 _ h706) (ob (o_b h707) ob0))))))))) (by kernel_rfl)
    ·exact zqn (w64 (s6_8 + 1)) [] [(75, 7, 3, .q (xi (p0.Counts.1.length : Int))), (75, 7, 4, .q (xb true)), (75, 9, 3, .q (xi (r0.1.length : Int))), (75, 9, 5, .q (xi (r0.1.length : Int))), (75, 9, 6, .q (.d (dl eI r0.1 (ccap r0.2)))), (75, 9, 9, .q (.d (dl eI (r0.1 ++ [s6_8]) .ro))), (75, 9, 12, .q (xi (zT 1 s6_8))), (75, 9, 15, .i (.tup [(dl eI v705.1.1 v705.1.2), (db v705.2)]) ⟨[], [[(1, (.cells ((za p0).map .d))), (5, (.cells [(.fn 75 [] [(.ptr 0 1 0), (.ptr 0 5 0)])]))], f1]⟩ []), (75, 10, 0, .q (xb false))] [] g6 (ob (zx zh p0.Counts.1) (ob (o_b h701) (ob (zx eI r0.1) (ob (zx eI r0.1) (ob (z8d (e := eI) (z := 1) r0.1 r0.2) (ob (o_ad (P := TE.P) (φ := fun _ _ => none) (T := 42) (q := (1, [(di 0)])) (c := (ccap r0.2)) (e := eI) r0.1 s6_8 (by kernel_rfl) (fun _ => rfl) h702 h703) (ob (zjc (x := 1) h704) (ob (hrc ([] : Fr) ((r0.1 ++ [s6_8]), .ro) (or64 r1 (zT 1 s6_8)) r2 _ h706) (ob (o_b h707) ob0))))))))) (by kernel_rfl)
 ·exact zqo [(75, 7, 3, .q (xi (p0.Counts.1.length : Int))), (75, 7, 4, .q (xb false))] [] g1 (ob (zx zh p0.Counts.1) (ob (o_b h701) ob0)) (by kernel_rfl)
theorem zwn (k : Nat) (p0 : zb) (rc : zt3) (f1 : Fr) (hrc : ∀ (f : Fr) (r0 : (SL Int)) (r1 : Int) (r2 : Int) (r : ((SL Int) × Bool)), rc r0 r1 r2 = some r → zkb TE (ev TE) 75 [(.d (dl eI r0.1 r0.2)), (xi r1), (xi r2), (.ptr 0 1 0), (.ptr 0 5 0)] ⟨f, [[(1, (.cells ((za p0).map .d))), (5, (.cells [(.fn 75 [] [(.ptr 0 1 0), (.ptr 0 5 0)])]))], f1]⟩ [] = some (zE r, ⟨f, [[(1, (.cells ((za p0).map .d))), (5, (.cells [(.fn 75 [] [(.ptr 0 1 0), (.ptr 0 5 0)])]))], f1]⟩, [])) (r0 : (SL Int)) (r1 r2 : Int) (r : ((SL Int) × Bool)) (h : zLg k p0 rc r0 r1 r2 = some r) : zkb TE (ev TE) 75 [(.d (dl eI r0.1 r0.2)), (xi r1), (xi r2), (.ptr 0 1 0), (.ptr 0 5 0)] ⟨f1, [[(zc 1 (za p0)), (5, (.cells [(.fn 75 [] [(.ptr 0 1 0), (.ptr 0 5 0)])]))]]⟩ [] = some (zE r, ⟨f1, [[(zc 1 (za p0)), (5, (.cells [(.fn 75 [] [(.ptr 0 1 0), (.ptr 0 5 0)])]))]]⟩, []) := by
 unfold zLg at h
 refine zr h (fun h501 g1 => ?_) (fun h501 g1 => ?_)
 ·refine zp g1 (fun v502 h503 g2 => ?_)
  exact zFb (g := (fun r => (zE r, ⟨f1, [[(1, (.cells ((za p0).map .d))), (5, (.cells [(.fn 75 [] [(.ptr 0 1 0), (.ptr 0 5 0)])]))]]⟩, []))) g2 (zpb (n := 80) (V := [(75, 1, 1, .q (xi (r0.1.length : Int))), (75, 1, 3, .q (xb true)), (75, 2, 3, .c (db v502))]) (C := []) (ob (zx eI r0.1) (ob (o_b h501) (ob (zNb k p0 r1 _ h503) ob0))) (by kernel_rfl))
 ·refine zp g1 (fun v502 h503 g2 => ?_)
  refine zp g2 (fun v504 h505 g3 => ?_)
  refine zYd g3 (fun v507 hh g4_0 => ?_) (fun v507 hh g4_0 => ?_)
  ·subst hh
   exact zFb (g := (fun r => (zE r, ⟨f1, [[(1, (.cells ((za p0).map .d))), (5, (.cells [(.fn 75 [] [(.ptr 0 1 0), (.ptr 0 5 0)])]))]]⟩, []))) g4_0 (zpb (n := 80) (V := [(75, 1, 1, .q (xi (r0.1.length : Int))), (75, 1, 3, .q (xb false)), (75, 4, 1, .q (xi (r0.1.length : Int)))]) (C := [(75, 2000024, (.nor, zte p0 r0 r1 r2 (decide ((r0.1.length : Int) > 0)) rc f1 v502)), (75, 0, (.ret, zNg p0 r0 r1 r2 v502 rc f1 v507))]) (ob (zx eI r0.1) (ob (o_b h501) (ob (zx eI r0.1) (ob (zyj k p0 r0 r1 r2 (decide ((r0.1.length : Int) > 0)) rc f1 hrc _ h503) (ob (zR (id := 0) (r' := (.ret, zNg p0 r0 r1 r2 v502 rc f1 v507)) (zYc (zuj k p0 r0 r1 r2 v502 rc f1 hrc) k _ _ h505) rfl) ob0))))) (by kernel_rfl))
  ·subst hh
   exact zFb (g := (fun r => (zE r, ⟨f1, [[(1, (.cells ((za p0).map .d))), (5, (.cells [(.fn 75 [] [(.ptr 0 1 0), (.ptr 0 5 0)])]))]]⟩, []))) g4_0 (zpb (n := 80) (V := [(75, 1, 1, .q (xi (r0.1.length : Int))), (75, 1, 3, .q (xb false)), (75, 4, 1, .q (xi (r0.1.length : Int)))]) (C := [(75, 2000024, (.nor, zte p0 r0 r1 r2 (decide ((r0.1.length : Int) > 0)) rc f1 v502)), (75, 0, (.nor, zQg p0 r0 r1 r2 v502 rc f1 v507))]) (ob (zx eI r0.1) (ob (o_b h501) (ob (zx eI r0.1) (ob (zyj k p0 r0 r1 r2 (decide ((r0.1.length : Int) > 0)) rc f1 hrc _ h503) (ob (zR (id := 0) (r' := (.nor, zQg p0 r0 r1 r2 v502 rc f1 v507)) (zYc (zuj k p0 r0 r1 r2 v502 rc f1 hrc) k _ _ h505) rfl) ob0))))) (by kernel_rfl))
noncomputable def zpe (p0 : zb) (r0 : (SL Int)) (r1 r2 : Int) (cb : Bool) (rc : zt3) (f1 f2 : Fr) (r : zt4) : St := ⟨(zUj r0 r1 r2 r), ⟨[], [[(zc 1 (za p0)), (5, (.cells [(.fn 75 [] [(.ptr 0 1 0), (.ptr 0 5 0)])]))], f1, f2]⟩, []⟩
theorem zAj (k : Nat) (p0 : zb) (r0 : (SL Int)) (r1 r2 : Int) (cb : Bool) (rc : zt3) (f1 f2 : Fr) (hrc : ∀ (f : Fr) (r0 : (SL Int)) (r1 : Int) (r2 : Int) (r : ((SL Int) × Bool)), rc r0 r1 r2 = some r → zkb TE (ev TE) 75 [(.d (dl eI r0.1 r0.2)), (xi r1), (xi r2), (.ptr 0 1 0), (.ptr 0 5 0)] ⟨f, [[(1, (.cells ((za p0).map .d))), (5, (.cells [(.fn 75 [] [(.ptr 0 1 0), (.ptr 0 5 0)])]))], f1, f2]⟩ [] = some (zE r, ⟨f, [[(1, (.cells ((za p0).map .d))), (5, (.cells [(.fn 75 [] [(.ptr 0 1 0), (.ptr 0 5 0)])]))], f1, f2]⟩, [])) (r : zt4) (h : zci k p0 r0 r1 r2 cb rc = some r) : ev TE 75 (cnd TE 75 24) ⟨(zZj r0 r1 r2 cb), ⟨[], [[(zc 1 (za p0)), (5, (.cells [(.fn 75 [] [(.ptr 0 1 0), (.ptr 0 5 0)])]))], f1, f2]⟩, []⟩ = some (.nor, zpe p0 r0 r1 r2 cb rc f1 f2 r) := by
 unfold zci at h
 refine zr h (fun h801 g1 => ?_) (fun h801 g1 => ?_)
 ·subst h801
  refine zp g1 (fun v802 h803 g2 => ?_)
  exact zJ (g := fun r => (Ex.nor, zpe p0 r0 r1 r2 true rc f1 f2 r)) g2 (zqe [(75, 5, 2, .q (xi (r0.1.length : Int))), (75, 5, 4, .q (.d (.pin [(di v802)])))] [] (ob (zx eI r0.1) (ob (o_ia (e := eI) 1 h803 rfl) ob0)) (by kernel_rfl))
 ·subst h801
  exact zJ (g := fun r => (Ex.nor, zpe p0 r0 r1 r2 false rc f1 f2 r)) g1 (zqe [] [] ob0 (by kernel_rfl))
noncomputable def zmx (r0 : (SL Int)) (r1 r2 : Int) (v702 : zt4) (s8_8 : Int) : TM := [(0, (.d (dl eI r0.1 r0.2))), (1, (xi r1)), (2, (xi r2)), (3, (.ptr 0 1 0)), (4, (.ptr 0 5 0)), (8, (.d (.sl [] .nil))), (9, (xb false)), (17, (xb false)), (10, (xi v702.1)), (24, (xb v702.2)), (11, (xi s8_8))]
noncomputable def zko (p0 : zb) (r0 : (SL Int)) (r1 r2 : Int) (v702 : zt4) (rc : zt3) (f1 f2 : Fr) (s8_8 : Int) : St := ⟨(zmx r0 r1 r2 v702 s8_8), ⟨[], [[(zc 1 (za p0)), (5, (.cells [(.fn 75 [] [(.ptr 0 1 0), (.ptr 0 5 0)])]))], f1, f2]⟩, []⟩
noncomputable def znw (r0 : (SL Int)) (r1 r2 : Int) (r : zt10) (v702 : zt4) : TM := [(0, (.d (dl eI r0.1 r0.2))), (1, (xi r1)), (2, (xi r2)), (3, (.ptr 0 1 0)), (4, (.ptr 0 5 0)), (8, (.d (dl eI r.1.1 r.1.2))), (9, (xb true)), (17, (xb false)), (10, (xi v702.1)), (24, (xb v702.2)), (11, (xi r.2.1)), (37, (xb true)), (12, (.d (dl eI r.1.1 r.1.2))), (13, (xb r.2.2)), (59, (xb true))]
noncomputable def zHg (p0 : zb) (r0 : (SL Int)) (r1 r2 : Int) (v702 : zt4) (rc : zt3) (f1 f2 : Fr) (r : zt10) : St := ⟨(znw r0 r1 r2 r v702), ⟨[], [[(zc 1 (za p0)), (5, (.cells [(.fn 75 [] [(.ptr 0 1 0), (.ptr 0 5 0)])]))], f1, f2]⟩, []⟩
noncomputable def zNw (r0 : (SL Int)) (r1 r2 : Int) (v702 : zt4) (r : Int) : TM := [(0, (.d (dl eI r0.1 r0.2))), (1, (xi r1)), (2, (xi r2)), (3, (.ptr 0 1 0)), (4, (.ptr 0 5 0)), (8, (.d (.sl [] .nil))), (9, (xb false)), (17, (xb false)), (10, (xi v702.1)), (24, (xb v702.2)), (11, (xi r)), (37, (xb false))]
noncomputable def zTg (p0 : zb) (r0 : (SL Int)) (r1 r2 : Int) (v702 : zt4) (rc : zt3) (f1 f2 : Fr) (r : Int) : St := ⟨(zNw r0 r1 r2 v702 r), ⟨[], [[(zc 1 (za p0)), (5, (.cells [(.fn 75 [] [(.ptr 0 1 0), (.ptr 0 5 0)])]))], f1, f2]⟩, []⟩
noncomputable def zGo (p0 : zb) (r0 : (SL Int)) (r1 r2 : Int) (v702 : zt4) (rc : zt3) (f1 f2 : Fr) : (((SL Int) × Int × Bool) ⊕ Int) → Ex × St := Sum.elim (fun r => (.ret, zHg p0 r0 r1 r2 v702 rc f1 f2 r)) (fun r => ((.exit 0), zTg p0 r0 r1 r2 v702 rc f1 f2 r))
theorem zGj (k : Nat) (p0 : zb) (r0 : (SL Int)) (r1 r2 : Int) (v702 : zt4) (rc : zt3) (f1 f2 : Fr) (hrc : ∀ (f : Fr) (r0 : (SL Int)) (r1 : Int) (r2 : Int) (r : ((SL Int) × Bool)), rc r0 r1 r2 = some r → zkb TE (ev TE) 75 [(.d (dl eI r0.1 r0.2)), (xi r1), (xi r2), (.ptr 0 1 0), (.ptr 0 5 0)] ⟨f, [[(1, (.cells ((za p0).map .d))), (5, (.cells [(.fn 75 [] [(.ptr 0 1 0), (.ptr 0 5 0)])]))], f1, f2]⟩ [] = some (zE r, ⟨f, [[(1, (.cells ((za p0).map .d))), (5, (.cells [(.fn 75 [] [(.ptr 0 1 0), (.ptr 0 5 0)])]))], f1, f2]⟩, [])) (s8_8 : Int) (x : Int ⊕ (((SL Int) × Int × Bool) ⊕ Int)) (h : zai k p0 r0 r1 r2 v702 rc s8_8 = some x) : z7 TE 75 (blk TE 75 0) (fun s : Int => zko p0 r0 r1 r2 v702 rc f1 f2 s) (zGo p0 r0 r1 r2 v702 rc f1 f2) s8_8 x := by
 unfold zai at h
 refine zr h (fun h901 g1 => ?_) (fun h901 g1 => ?_)
 ·refine zr g1 (fun h902 g2 => ?_) (fun h902 g2 => ?_)
  ·cases g2
  ·refine z8 g2 (fun h903 g3 => ?_)
   refine zr g3 (fun h904 g4 => ?_) (fun h904 g4 => ?_)
   ·cases g4
   ·refine zp g4 (fun v905 h906 g5 => ?_)
    refine zr g5 (fun h907 g6 => ?_) (fun h907 g6 => ?_)
    ·exact zqo [(75, 7, 3, .q (xi (p0.Counts.1.length : Int))), (75, 7, 4, .q (xb true)), (75, 9, 3, .q (xi (r0.1.length : Int))), (75, 9, 5, .q (xi (r0.1.length : Int))), (75, 9, 6, .q (.d (dl eI r0.1 (ccap r0.2)))), (75, 9, 9, .q (.d (dl eI (r0.1 ++ [s8_8]) .ro))), (75, 9, 12, .q (xi (zT 1 s8_8))), (75, 9, 15, .i (.tup [(dl eI v905.1.1 v905.1.2), (db v905.2)]) ⟨[], [[(1, (.cells ((za p0).map .d))), (5, (.cells [(.fn 75 [] [(.ptr 0 1 0), (.ptr 0 5 0)])]))], f1, f2]⟩ []), (75, 10, 0, .q (xb true))] [] g6 (ob (zx zh p0.Counts.1) (ob (o_b h901) (ob (zx eI r0.1) (ob (zx eI r0.1) (ob (z8d (e := eI) (z := 1) r0.1 r0.2) (ob (o_ad (P := TE.P) (φ := fun _ _ => none) (T := 42) (q := (1, [(di 0)])) (c := (ccap r0.2)) (e := eI) r0.1 s8_8 (by kernel_rfl) (fun _ => rfl) h902 h903) (ob (zjc (x := 1) h904) (ob (hrc ([] : Fr) ((r0.1 ++ [s8_8]), .ro) (or64 r1 (zT 1 s8_8)) r2 _ h906) (ob (o_b h907) ob0))))))))) (by kernel_rfl)
    ·exact zqn (w64 (s8_8 + 1)) [] [(75, 7, 3, .q (xi (p0.Counts.1.length : Int))), (75, 7, 4, .q (xb true)), (75, 9, 3, .q (xi (r0.1.length : Int))), (75, 9, 5, .q (xi (r0.1.length : Int))), (75, 9, 6, .q (.d (dl eI r0.1 (ccap r0.2)))), (75, 9, 9, .q (.d (dl eI (r0.1 ++ [s8_8]) .ro))), (75, 9, 12, .q (xi (zT 1 s8_8))), (75, 9, 15, .i (.tup [(dl eI v905.1.1 v905.1.2), (db v905.2)]) ⟨[], [[(1, (.cells ((za p0).map .d))), (5, (.cells [(.fn 75 [] [(.ptr 0 1 0), (.ptr 0 5 0)])]))], f1, f2]⟩ []), (75, 10, 0, .q (xb false))] [] g6 (ob (zx zh p0.Counts.1) (ob (o_b h901) (ob (zx eI r0.1) (ob (zx eI r0.1) (ob (z8d (e := eI) (z := 1) r0.1 r0.2) (ob (o_ad (P := TE.P) (φ := fun _ _ => none) (T := 42) (q := (1, [(di 0)])) (c := (ccap r0.2)) (e := eI) r0.1 s8_8 (by kernel_rfl) (fun _ => rfl) h902 h903) (ob (zjc (x := 1) h904) (ob (hrc ([] : Fr) ((r0.1 ++ [s8_8]), .ro) (or64 r1 (zT 1 s8_8)) r2 _ h906) (ob (o_b h907) ob0))))))))) (by kernel_rfl)
 ·exact zqo [(75, 7, 3, .q (xi (p0.Counts.1.length : Int))), (75, 7, 4, .q (xb false))] [] g1 (ob (zx zh p0.Counts.1) (ob (o_b h901) ob0)) (by kernel_rfl)
theorem z3m (k : Nat) (p0 : zb) (rc : zt3) (f1 f2 : Fr) (hrc : ∀ (f : Fr) (r0 : (SL Int)) (r1 : Int) (r2 : Int) (r : ((SL Int) × Bool)), rc r0 r1 r2 = some r → zkb TE (ev TE) 75 [(.d (dl eI r0.1 r0.2)), (xi r1), (xi r2), (.ptr 0 1 0), (.ptr 0 5 0)] ⟨f, [[(1, (.cells ((za p0).map .d))), (5, (.cells [(.fn 75 [] [(.ptr 0 1 0), (.ptr 0 5 0)])]))], f1, f2]⟩ [] = some (zE r, ⟨f, [[(1, (.cells ((za p0).map .d))), (5, (.cells [(.fn 75 [] [(.ptr 0 1 0), (.ptr 0 5 0)])]))], f1, f2]⟩, [])) (r0 : (SL Int)) (r1 r2 : Int) (r : ((SL Int) × Bool)) (h : zKg k p0 rc r0 r1 r2 = some r) : zkb TE (ev TE) 75 [(.d (dl eI r0.1 r0.2)), (xi r1), (xi r2), (.ptr 0 1 0), (.ptr 0 5 0)] ⟨f2, [[(zc 1 (za p0)), (5, (.cells [(.fn 75 [] [(.ptr 0 1 0), (.ptr 0 5 0)])]))], f1]⟩ [] = some (zE r, ⟨f2, [[(zc 1 (za p0)), (5, (.cells [(.fn 75 [] [(.ptr 0 1 0), (.ptr 0 5 0)])]))], f1]⟩, []) := by
 unfold zKg at h
 refine zr h (fun h701 g1 => ?_) (fun h701 g1 => ?_)
 ·refine zp g1 (fun v702 h703 g2 => ?_)
  exact zFb (g := (fun r => (zE r, ⟨f2, [[(1, (.cells ((za p0).map .d))), (5, (.cells [(.fn 75 [] [(.ptr 0 1 0), (.ptr 0 5 0)])]))], f1]⟩, []))) g2 (zpb (n := 80) (V := [(75, 1, 1, .q (xi (r0.1.length : Int))), (75, 1, 3, .q (xb true)), (75, 2, 3, .c (db v702))]) (C := []) (ob (zx eI r0.1) (ob (o_b h701) (ob (zNb k p0 r1 _ h703) ob0))) (by kernel_rfl))
 ·refine zp g1 (fun v702 h703 g2 => ?_)
  refine zp g2 (fun v704 h705 g3 => ?_)
  refine zYd g3 (fun v707 hh g4_0 => ?_) (fun v707 hh g4_0 => ?_)
  ·subst hh
   exact zFb (g := (fun r => (zE r, ⟨f2, [[(1, (.cells ((za p0).map .d))), (5, (.cells [(.fn 75 [] [(.ptr 0 1 0), (.ptr 0 5 0)])]))], f1]⟩, []))) g4_0 (zpb (n := 80) (V := [(75, 1, 1, .q (xi (r0.1.length : Int))), (75, 1, 3, .q (xb false)), (75, 4, 1, .q (xi (r0.1.length : Int)))]) (C := [(75, 2000024, (.nor, zpe p0 r0 r1 r2 (decide ((r0.1.length : Int) > 0)) rc f1 f2 v702)), (75, 0, (.ret, zHg p0 r0 r1 r2 v702 rc f1 f2 v707))]) (ob (zx eI r0.1) (ob (o_b h701) (ob (zx eI r0.1) (ob (zAj k p0 r0 r1 r2 (decide ((r0.1.length : Int) > 0)) rc f1 f2 hrc _ h703) (ob (zR (id := 0) (r' := (.ret, zHg p0 r0 r1 r2 v702 rc f1 f2 v707)) (zYc (zGj k p0 r0 r1 r2 v702 rc f1 f2 hrc) k _ _ h705) rfl) ob0))))) (by kernel_rfl))
  ·subst hh
   exact zFb (g := (fun r => (zE r, ⟨f2, [[(1, (.cells ((za p0).map .d))), (5, (.cells [(.fn 75 [] [(.ptr 0 1 0), (.ptr 0 5 0)])]))], f1]⟩, []))) g4_0 (zpb (n := 80) (V := [(75, 1, 1, .q (xi (r0.1.length : Int))), (75, 1, 3, .q (xb false)), (75, 4, 1, .q (xi (r0.1.length : Int)))]) (C := [(75, 2000024, (.nor, zpe p0 r0 r1 r2 (decide ((r0.1.length : Int) > 0)) rc f1 f2 v702)), (75, 0, (.nor, zTg p0 r0 r1 r2 v702 rc f1 f2 v707))]) (ob (zx eI r0.1) (ob (o_b h701) (ob (zx eI r0.1) (ob (zAj k p0 r0 r1 r2 (decide ((r0.1.length : Int) > 0)) rc f1 f2 hrc _ h703) (ob (zR (id := 0) (r' := (.nor, zTg p0 r0 r1 r2 v702 rc f1 f2 v707)) (zYc (zGj k p0 r0 r1 r2 v702 rc f1 f2 hrc) k _ _ h705) rfl) ob0))))) (by kernel_rfl))
noncomputable def zue (p0 : zb) (r0 : (SL Int)) (r1 r2 : Int) (cb : Bool) (rc : zt3) (f1 f2 f3 : Fr) (r : zt4) : St := ⟨(zUj r0 r1 r2 r), ⟨[], [[(zc 1 (za p0)), (5, (.cells [(.fn 75 [] [(.ptr 0 1 0), (.ptr 0 5 0)])]))], f1, f2, f3]⟩, []⟩
theorem zHj (k : Nat) (p0 : zb) (r0 : (SL Int)) (r1 r2 : Int) (cb : Bool) (rc : zt3) (f1 f2 f3 : Fr) (hrc : ∀ (f : Fr) (r0 : (SL Int)) (r1 : Int) (r2 : Int) (r : ((SL Int) × Bool)), rc r0 r1 r2 = some r → zkb TE (ev TE) 75 [(.d (dl eI r0.1 r0.2)), (xi r1), (xi r2), (.ptr 0 1 0), (.ptr 0 5 0)] ⟨f, [[(1, (.cells ((za p0).map .d))), (5, (.cells [(.fn 75 [] [(.ptr 0 1 0), (.ptr 0 5 0)])]))], f1, f2, f3]⟩ [] = some (zE r, ⟨f, [[(1, (.cells ((za p0).map .d))), (5, (.cells [(.fn 75 [] [(.ptr 0 1 0), (.ptr 0 5 0)])]))], f1, f2, f3]⟩, [])) (r : zt4) (h : zhi k p0 r0 r1 r2 cb rc = some r) : ev TE 75 (cnd TE 75 24) ⟨(zZj r0 r1 r2 cb), ⟨[], [[(zc 1 (za p0)), (5, (.cells [(.fn 75 [] [(.ptr 0 1 0), (.ptr 0 5 0)])]))], f1, f2, f3]⟩, []⟩ = some (.nor, zue p0 r0 r1 r2 cb rc f1 f2 f3 r) := by
 unfold zhi at h
 refine zr h (fun h1001 g1 => ?_) (fun h1001 g1 => ?_)
 ·subst h1001
  refine zp g1 (fun v1002 h1003 g2 => ?_)
  exact zJ (g := fun r => (Ex.nor, zue p0 r0 r1 r2 true rc f1 f2 f3 r)) g2 (zqe [(75, 5, 2, .q (xi (r0.1.length : Int))), (75, 5, 4, .q (.d (.pin [(di v1002)])))] [] (ob (zx eI r0.1) (ob (o_ia (e := eI) 1 h1003 rfl) ob0)) (by kernel_rfl))
 ·subst h1001
  exact zJ (g := fun r => (Ex.nor, zue p0 r0 r1 r2 false rc f1 f2 f3 r)) g1 (zqe [] [] ob0 (by kernel_rfl))
noncomputable def zuw (r0 : (SL Int)) (r1 r2 : Int) (v902 : zt4) (s10_8 : Int) : TM := [(0, (.d (dl eI r0.1 r0.2))), (1, (xi r1)), (2, (xi r2)), (3, (.ptr 0 1 0)), (4, (.ptr 0 5 0)), (8, (.d (.sl [] .nil))), (9, (xb false)), (17, (xb false)), (10, (xi v902.1)), (24, (xb v902.2)), (11, (xi s10_8))]
noncomputable def z2n (p0 : zb) (r0 : (SL Int)) (r1 r2 : Int) (v902 : zt4) (rc : zt3) (f1 f2 f3 : Fr) (s10_8 : Int) : St := ⟨(zuw r0 r1 r2 v902 s10_8), ⟨[], [[(zc 1 (za p0)), (5, (.cells [(.fn 75 [] [(.ptr 0 1 0), (.ptr 0 5 0)])]))], f1, f2, f3]⟩, []⟩
noncomputable def zqw (r0 : (SL Int)) (r1 r2 : Int) (r : zt10) (v902 : zt4) : TM := [(0, (.d (dl eI r0.1 r0.2))), (1, (xi r1)), (2, (xi r2)), (3, (.ptr 0 1 0)), (4, (.ptr 0 5 0)), (8, (.d (dl eI r.1.1 r.1.2))), (9, (xb true)), (17, (xb false)), (10, (xi v902.1)), (24, (xb v902.2)), (11, (xi r.2.1)), (37, (xb true)), (12, (.d (dl eI r.1.1 r.1.2))), (13, (xb r.2.2)), (59, (xb true))]
noncomputable def zig (p0 : zb) (r0 : (SL Int)) (r1 r2 : Int) (v902 : zt4) (rc : zt3) (f1 f2 f3 : Fr) (r : zt10) : St := ⟨(zqw r0 r1 r2 r v902), ⟨[], [[(zc 1 (za p0)), (5, (.cells [(.fn 75 [] [(.ptr 0 1 0), (.ptr 0 5 0)])]))], f1, f2, f3]⟩, []⟩
noncomputable def zcx (r0 : (SL Int)) (r1 r2 : Int) (v902 : zt4) (r : Int) : TM := [(0, (.d (dl eI r0.1 r0.2))), (1, (xi r1)), (2, (xi r2)), (3, (.ptr 0 1 0)), (4, (.ptr 0 5 0)), (8, (.d (.sl [] .nil))), (9, (xb false)), (17, (xb false)), (10, (xi v902.1)), (24, (xb v902.2)), (11, (xi r)), (37, (xb false))]
noncomputable def zog (p0 : zb) (r0 : (SL Int)) (r1 r2 : Int) (v902 : zt4) (rc : zt3) (f1 f2 f3 : Fr) (r : Int) : St := ⟨(zcx r0 r1 r2 v902 r), ⟨[], [[(zc 1 (za p0)), (5, (.cells [(.fn 75 [] [(.ptr 0 1 0), (.ptr 0 5 0)])]))], f1, f2, f3]⟩, []⟩
noncomputable def zPn (p0 : zb) (r0 : (SL Int)) (r1 r2 : Int) (v902 : zt4) (rc : zt3) (f1 f2 f3 : Fr) : (((SL Int) × Int × Bool) ⊕ Int) → Ex × St := Sum.elim (fun r => (.ret, zig p0 r0 r1 r2 v902 rc f1 f2 f3 r)) (fun r => ((.exit 0), zog p0 r0 r1 r2 v902 rc f1 f2 f3 r))
theorem zKi (k : Nat) (p0 : zb) (r0 : (SL Int)) (r1 r2 : Int) (v902 : zt4) (rc : zt3) (f1 f2 f3 : Fr) (hrc : ∀ (f : Fr) (r0 : (SL Int)) (r1 : Int) (r2 : Int) (r : ((SL Int) × Bool)), rc r0 r1 r2 = some r → zkb TE (ev TE) 75 [(.d (dl eI r0.1 r0.2)), (xi r1), (xi r2), (.ptr 0 1 0), (.ptr 0 5 0)] ⟨f, [[(1, (.cells ((za p0).map .d))), (5, (.cells [(.fn 75 [] [(.ptr 0 1 0), (.ptr 0 5 0)])]))], f1, f2, f3]⟩ [] = some (zE r, ⟨f, [[(1, (.cells ((za p0).map .d))), (5, (.cells [(.fn 75 [] [(.ptr 0 1 0), (.ptr 0 5 0)])]))], f1, f2, f3]⟩, [])) (s10_8 : Int) (x : Int ⊕ (((SL Int) × Int × Bool) ⊕ Int)) (h : zDh k p0 r0 r1 r2 v902 rc s10_8 = some x) : z7 TE 75 (blk TE 75 0) (fun s : Int => z2n p0 r0 r1 r2 v902 rc f1 f2 f3 s) (zPn p0 r0 r1 r2 v902 rc f1 f2 f3) s10_8 x := by
 unfold zDh at h
 refine zr h (fun h1101 g1 => ?_) (fun h1101 g1 => ?_)
 ·refine zr g1 (fun h1102 g2 => ?_) (fun h1102 g2 => ?_)
  ·cases g2
  ·refine z8 g2 (fun h1103 g3 => ?_)
   refine zr g3 (fun h1104 g4 => ?_) (fun h1104 g4 => ?_)
   ·cases g4
   ·refine zp g4 (fun v1105 h1106 g5 => ?_)
    refine zr g5 (fun h1107 g6 => ?_) (fun h1107 g6 => ?_)
    ·exact zqo [(75, 7, 3, .q (xi (p0.Counts.1.length : Int))), (75, 7, 4, .q (xb true)), (75, 9, 3, .q (xi (r0.1.length : Int))), (75, 9, 5, .q (xi (r0.1.length : Int))), (75, 9, 6, .q (.d (dl eI r0.1 (ccap r0.2)))), (75, 9, 9, .q (.d (dl eI (r0.1 ++ [s10_8]) .ro))), (75, 9, 12, .q (xi (zT 1 s10_8))), (75, 9, 15, .i (.tup [(dl eI v1105.1.1 v1105.1.2), (db v1105.2)]) ⟨[], [[(1, (.cells ((za p0).map .d))), (5, (.cells [(.fn 75 [] [(.ptr 0 1 0), (.ptr 0 5 0)])]))], f1, f2, f3]⟩ []), (75, 10, 0, .q (xb true))] [] g6 (ob (zx zh p0.Counts.1) (ob (o_b h1101) (ob (zx eI r0.1) (ob (zx eI r0.1) (ob (z8d (e := eI) (z := 1) r0.1 r0.2) (ob (o_ad (P := TE.P) (φ := fun _ _ => none) (T := 42) (q := (1, [(di 0)])) (c := (ccap r0.2)) (e := eI) r0.1 s10_8 (by kernel_rfl) (fun _ => rfl) h1102 h1103) (ob (zjc (x := 1) h1104) (ob (hrc ([] : Fr) ((r0.1 ++ [s10_8]), .ro) (or64 r1 (zT 1 s10_8)) r2 _ h1106) (ob (o_b h1107) ob0))))))))) (by kernel_rfl)
    ·exact zqn (w64 (s10_8 + 1)) [] [(75, 7, 3, .q (xi (p0.Counts.1.length : Int))), (75, 7, 4, .q (xb true)), (75, 9, 3, .q (xi (r0.1.length : Int))), (75, 9, 5, .q (xi (r0.1.length : Int))), (75, 9, 6, .q (.d (dl eI r0.1 (ccap r0.2)))), (75, 9, 9, .q (.d (dl eI (r0.1 ++ [s10_8]) .ro))), (75, 9, 12, .q (xi (zT 1 s10_8))), (75, 9, 15, .i (.tup [(dl eI v1105.1.1 v1105.1.2), (db v1105.2)]) ⟨[], [[(1, (.cells ((za p0).map .d))), (5, (.cells [(.fn 75 [] [(.ptr 0 1 0), (.ptr 0 5 0)])]))], f1, f2, f3]⟩ []), (75, 10, 0, .q (xb false))] [] g6 (ob (zx zh p0.Counts.1) (ob (o_b h1101) (ob (zx eI r0.1) (ob (zx eI r0.1) (ob (z8d (e := eI) (z := 1) r0.1 r0.2) (ob (o_ad (P := TE.P) (φ := fun _ _ => none) (T := 42) (q := (1, [(di 0)])) (c := (ccap r0.2)) (e := eI) r0.1 s10_8 (by kernel_rfl) (fun _ => rfl) h1102 h1103) (ob (zjc (x := 1) h1104) (ob (hrc ([] : Fr) ((r0.1 ++ [s10_8]), .ro) (or64 r1 (zT 1 s10_8)) r2 _ h1106) (ob (o_b h1107) ob0))))))))) (by kernel_rfl)
 ·exact zqo [(75, 7, 3, .q (xi (p0.Counts.1.length : Int))), (75, 7, 4, .q (xb false))] [] g1 (ob (zx zh p0.Counts.1) (ob (o_b h1101) ob0)) (by kernel_rfl)
theorem z2m (k : Nat) (p0 : zb) (rc : zt3) (f1 f2 f3 : Fr) (hrc : ∀ (f : Fr) (r0 : (SL Int)) (r1 : Int) (r2 : Int) (r : ((SL Int) × Bool)), rc r0 r1 r2 = some r → zkb TE (ev TE) 75 [(.d (dl eI r0.1 r0.2)), (xi r1), (xi r2), (.ptr 0 1 0), (.ptr 0 5 0)] ⟨f, [[(1, (.cells ((za p0).map .d))), (5, (.cells [(.fn 75 [] [(.ptr 0 1 0), (.ptr 0 5 0)])]))], f1, f2, f3]⟩ [] = some (zE r, ⟨f, [[(1, (.cells ((za p0).map .d))), (5, (.cells [(.fn 75 [] [(.ptr 0 1 0), (.ptr 0 5 0)])]))], f1, f2, f3]⟩, [])) (r0 : (SL Int)) (r1 r2 : Int) (r : ((SL Int) × Bool)) (h : zMg k p0 rc r0 r1 r2 = some r) : zkb TE (ev TE) 75 [(.d (dl eI r0.1 r0.2)), (xi r1), (xi r2), (.ptr 0 1 0), (.ptr 0 5 0)] ⟨f3, [[(zc 1 (za p0)), (5, (.cells [(.fn 75 [] [(.ptr 0 1 0), (.ptr 0 5 0)])]))], f1, f2]⟩ [] = some (zE r, ⟨f3, [[(zc 1 (za p0)), (5, (.cells [(.fn 75 [] [(.ptr 0 1 0), (.ptr 0 5 0)])]))], f1, f2]⟩, []) := by
 unfold zMg at h
 refine zr h (fun h901 g1 => ?_) (fun h901 g1 => ?_)
 ·refine zp g1 (fun v902 h903 g2 => ?_)
  exact zFb (g := (fun r => (zE r, ⟨f3, [[(1, (.cells ((za p0).map .d))), (5, (.cells [(.fn 75 [] [(.ptr 0 1 0), (.ptr 0 5 0)])]))], f1, f2]⟩, []))) g2 (zpb (n := 80) (V := [(75, 1, 1, .q (xi (r0.1.length : Int))), (75, 1, 3, .q (xb true)), (75, 2, 3, .c (db v902))]) (C := []) (ob (zx eI r0.1) (ob (o_b h901) (ob (zNb k p0 r1 _ h903) ob0))) (by kernel_rfl))
 ·refine zp g1 (fun v902 h903 g2 => ?_)
  refine zp g2 (fun v904 h905 g3 => ?_)
  refine zYd g3 (fun v907 hh g4_0 => ?_) (fun v907 hh g4_0 => ?_)
  ·subst hh
   exact zFb (g := (fun r => (zE r, ⟨f3, [[(1, (.cells ((za p0).map .d))), (5, (.cells [(.fn 75 [] [(.ptr 0 1 0), (.ptr 0 5 0)])]))], f1, f2]⟩, []))) g4_0 (zpb (n := 80) (V := [(75, 1, 1, .q (xi (r0.1.length : Int))), (75, 1, 3, .q (xb false)), (75, 4, 1, .q (xi (r0.1.length : Int)))]) (C := [(75, 2000024, (.nor, zue p0 r0 r1 r2 (decide ((r0.1.length : Int) > 0)) rc f1 f2 f3 v902)), (75, 0, (.ret, zig p0 r0 r1 r2 v902 rc f1 f2 f3 v907))]) (ob (zx eI r0.1) (ob (o_b h901) (ob (zx eI r0.1) (ob (zHj k p0 r0 r1 r2 (decide ((r0.1.length : Int) > 0)) rc f1 f2 f3 hrc _ h903) (ob (zR (id := 0) (r' := (.ret, zig p0 r0 r1 r2 v902 rc f1 f2 f3 v907)) (zYc (zKi k p0 r0 r1 r2 v902 rc f1 f2 f3 hrc) k _ _ h905) rfl) ob0))))) (by kernel_rfl))
  ·subst hh
   exact zFb (g := (fun r => (zE r, ⟨f3, [[(1, (.cells ((za p0).map .d))), (5, (.cells [(.fn 75 [] [(.ptr 0 1 0), (.ptr 0 5 0)])]))], f1, f2]⟩, []))) g4_0 (zpb (n := 80) (V := [(75, 1, 1, .q (xi (r0.1.length : Int))), (75, 1, 3, .q (xb false)), (75, 4, 1, .q (xi (r0.1.length : Int)))]) (C := [(75, 2000024, (.nor, zue p0 r0 r1 r2 (decide ((r0.1.length : Int) > 0)) rc f1 f2 f3 v902)), (75, 0, (.nor, zog p0 r0 r1 r2 v902 rc f1 f2 f3 v907))]) (ob (zx eI r0.1) (ob (o_b h901) (ob (zx eI r0.1) (ob (zHj k p0 r0 r1 r2 (decide ((r0.1.length : Int) > 0)) rc f1 f2 f3 hrc _ h903) (ob (zR (id := 0) (r' := (.nor, zog p0 r0 r1 r2 v902 rc f1 f2 f3 v907)) (zYc (zKi k p0 r0 r1 r2 v902 rc f1 f2 f3 hrc) k _ _ h905) rfl) ob0))))) (by kernel_rfl))
noncomputable def zZd (p0 : zb) (r0 : (SL Int)) (r1 r2 : Int) (cb : Bool) (rc : zt3) (f1 f2 f3 f4 : Fr) (r : zt4) : St := ⟨(zUj r0 r1 r2 r), ⟨[], [[(zc 1 (za p0)), (5, (.cells [(.fn 75 [] [(.ptr 0 1 0), (.ptr 0 5 0)])]))], f1, f2, f3, f4]⟩, []⟩
theorem zGi (k : Nat) (p0 : zb) (r0 : (SL Int)) (r1 r2 : Int) (cb : Bool) (rc : zt3) (f1 f2 f3 f4 : Fr) (hrc : ∀ (f : Fr) (r0 : (SL Int)) (r1 : Int) (r2 : Int) (r : ((SL Int) × Bool)), rc r0 r1 r2 = some r → zkb TE (ev TE) 75 [(.d (dl eI r0.1 r0.2)), (xi r1), (xi r2), (.ptr 0 1 0), (.ptr 0 5 0)] ⟨f, [[(1, (.cells ((za p0).map .d))), (5, (.cells [(.fn 75 [] [(.ptr 0 1 0), (.ptr 0 5 0)])]))], f1, f2, f3, f4]⟩ [] = some (zE r, ⟨f, [[(1, (.cells ((za p0).map .d))), (5, (.cells [(.fn 75 [] [(.ptr 0 1 0), (.ptr 0 5 0)])]))], f1, f2, f3, f4]⟩, [])) (r : zt4) (h : zJh k p0 r0 r1 r2 cb rc = some r) : ev TE 75 (cnd TE 75 24) ⟨(zZj r0 r1 r2 cb), ⟨[], [[(zc 1 (za p0)), (5, (.cells [(.fn 75 [] [(.ptr 0 1 0), (.ptr 0 5 0)])]))], f1, f2, f3, f4]⟩, []⟩ = some (.nor, zZd p0 r0 r1 r2 cb rc f1 f2 f3 f4 r) := by
 unfold zJh at h
 refine zr h (fun h1201 g1 => ?_) (fun h1201 g1 => ?_)
 ·subst h1201
  refine zp g1 (fun v1202 h1203 g2 => ?_)
  exact zJ (g := fun r => (Ex.nor, zZd p0 r0 r1 r2 true rc f1 f2 f3 f4 r)) g2 (zqe [(75, 5, 2, .q (xi (r0.1.length : Int))), (75, 5, 4, .q (.d (.pin [(di v1202)])))] [] (ob (zx eI r0.1) (ob (o_ia (e := eI) 1 h1203 rfl) ob0)) (by kernel_rfl))
 ·subst h1201
  exact zJ (g := fun r => (Ex.nor, zZd p0 r0 r1 r2 false rc f1 f2 f3 f4 r)) g1 (zqe [] [] ob0 (by kernel_rfl))
noncomputable def z5w (r0 : (SL Int)) (r1 r2 : Int) (v1102 : zt4) (s12_8 : Int) : TM := [(0, (.d (dl eI r0.1 r0.2))), (1, (xi r1)), (2, (xi r2)), (3, (.ptr 0 1 0)), (4, (.ptr 0 5 0)), (8, (.d (.sl [] .nil))), (9, (xb false)), (17, (xb false)), (10, (xi v1102.1)), (24, (xb v1102.2)), (11, (xi s12_8))]
noncomputable def z1n (p0 : zb) (r0 : (SL Int)) (r1 r2 : Int) (v1102 : zt4) (rc : zt3) (f1 f2 f3 f4 : Fr) (s12_8 : Int) : St := ⟨(z5w r0 r1 r2 v1102 s12_8), ⟨[], [[(zc 1 (za p0)), (5, (.cells [(.fn 75 [] [(.ptr 0 1 0), (.ptr 0 5 0)])]))], f1, f2, f3, f4]⟩, []⟩
noncomputable def zUw (r0 : (SL Int)) (r1 r2 : Int) (r : zt10) (v1102 : zt4) : TM := [(0, (.d (dl eI r0.1 r0.2))), (1, (xi r1)), (2, (xi r2)), (3, (.ptr 0 1 0)), (4, (.ptr 0 5 0)), (8, (.d (dl eI r.1.1 r.1.2))), (9, (xb true)), (17, (xb false)), (10, (xi v1102.1)), (24, (xb v1102.2)), (11, (xi r.2.1)), (37, (xb true)), (12, (.d (dl eI r.1.1 r.1.2))), (13, (xb r.2.2)), (59, (xb true))]
noncomputable def zlg (p0 : zb) (r0 : (SL Int)) (r1 r2 : Int) (v1102 : zt4) (rc : zt3) (f1 f2 f3 f4 : Fr) (r : zt10) : St := ⟨(zUw r0 r1 r2 r v1102), ⟨[], [[(zc 1 (za p0)), (5, (.cells [(.fn 75 [] [(.ptr 0 1 0), (.ptr 0 5 0)])]))], f1, f2, f3, f4]⟩, []⟩
noncomputable def z7w (r0 : (SL Int)) (r1 r2 : Int) (v1102 : zt4) (r : Int) : TM := [(0, (.d (dl eI r0.1 r0.2))), (1, (xi r1)), (2, (xi r2)), (3, (.ptr 0 1 0)), (4, (.ptr 0 5 0)), (8, (.d (.sl [] .nil))), (9, (xb false)), (17, (xb false)), (10, (xi v1102.1)), (24, (xb v1102.2)), (11, (xi r)), (37, (xb false))]
noncomputable def zmg (p0 : zb) (r0 : (SL Int)) (r1 r2 : Int) (v1102 : zt4) (rc : zt3) (f1 f2 f3 f4 : Fr) (r : Int) : St := ⟨(z7w r0 r1 r2 v1102 r), ⟨[], [[(zc 1 (za p0)), (5, (.cells [(.fn 75 [] [(.ptr 0 1 0), (.ptr 0 5 0)])]))], f1, f2, f3, f4]⟩, []⟩
noncomputable def zYn (p0 : zb) (r0 : (SL Int)) (r1 r2 : Int) (v1102 : zt4) (rc : zt3) (f1 f2 f3 f4 : Fr) : (((SL Int) × Int × Bool) ⊕ Int) → Ex × St := Sum.elim (fun r => (.ret, zlg p0 r0 r1 r2 v1102 rc f1 f2 f3 f4 r)) (fun r => ((.exit 0), zmg p0 r0 r1 r2 v1102 rc f1 f2 f3 f4 r))
end Go.AM

