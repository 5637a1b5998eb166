/- The statement ShelfTrue holds for every input that its row lets in. Conditions: none. -/
import Derived.Test.YtfoohlabifhplaaDoorC
set_option linter.all false
set_option linter.unusedVariables false
set_option maxRecDepth 100000
namespace Go.AM
open Go Go.Proofs
def zsp (n : Nat) : Nat × X := (n, .ptr 0 n 0)
def zc (n : Nat) (l : List D) : Nat × O := (n, .cells (l.map .d))
section
variable {E : Env} {fid : Nat} {c : Code}
theorem zqn {S R : Type} {S0 : S → St} {R0 : R → Ex × St} {s : S} {x : S ⊕ R} (s' : S) (rs : List Nat) (V : Ovs) (C : Cuts) (h : some (Sum.inl s') = some x) {P : List Prop} (hP : All P) (hr : zwk E V C rs 80 fid c (S0 s) = some (.inl (S0 s'), P)) : zO E fid c S0 R0 s x := zfz h hP hr
theorem zqo {S R : Type} {S0 : S → St} {R0 : R → Ex × St} {s : S} {r : R} {x : S ⊕ R} (V : Ovs) (C : Cuts) (h : some (Sum.inr r) = some x) {P : List Prop} (hP : All P) (hr : zwk E V C [] 80 fid c (S0 s) = some (.inr (R0 r), P)) : zO E fid c S0 R0 s x := zLz h hP hr
theorem zRb {A0 R : Type} {S0 : A0 → St} {R0 : R → Ex × St} {W : A0 → Option ((A0) ⊕ R)} (h : ∀ b0 x, W b0 = some x → zO E fid c S0 R0 b0 x) : ∀ (m : Nat) (s : A0) (r : R), iter (fun s => W s) m s = some r → ev E fid c (S0 s) = some (R0 r) := zqk fun s x e => h s x e
theorem zbc {A0 A1 R : Type} {S0 : A0 × A1 → St} {R0 : R → Ex × St} {W : A0 → A1 → Option ((A0 × A1) ⊕ R)} (h : ∀ b0 b1 x, W b0 b1 = some x → zO E fid c S0 R0 (b0, b1) x) : ∀ (m : Nat) (s : A0 × A1) (r : R), iter (fun s => W s.1 s.2) m s = some r → ev E fid c (S0 s) = some (R0 r) := zqk fun s x e => h s.1 s.2 x e
theorem zxz {A0 A1 A2 R : Type} {S0 : A0 × A1 × A2 → St} {R0 : R → Ex × St} {W : A0 → A1 → A2 → Option ((A0 × A1 × A2) ⊕ R)} (h : ∀ b0 b1 b2 x, W b0 b1 b2 = some x → zO E fid c S0 R0 (b0, b1, b2) x) : ∀ (m : Nat) (s : A0 × A1 × A2) (r : R), iter (fun s => W s.1 s.2.1 s.2.2) m s = some r → ev E fid c (S0 s) = some (R0 r) := zqk fun s x e => h s.1 s.2.1 s.2.2 x e
theorem zjy {A0 A1 A2 A3 R : Type} {S0 : A0 × A1 × A2 × A3 → St} {R0 : R → Ex × St} {W : A0 → A1 → A2 → A3 → Option ((A0 × A1 × A2 × A3) ⊕ R)} (h : ∀ b0 b1 b2 b3 x, W b0 b1 b2 b3 = some x → zO E fid c S0 R0 (b0, b1, b2, b3) x) : ∀ (m : Nat) (s : A0 × A1 × A2 × A3) (r : R), iter (fun s => W s.1 s.2.1 s.2.2.1 s.2.2.2) m s = some r → ev E fid c (S0 s) = some (R0 r) := zqk fun s x e => h s.1 s.2.1 s.2.2.1 s.2.2.2 x e
theorem zCz {A0 A1 A2 A3 A4 R : Type} {S0 : A0 × A1 × A2 × A3 × A4 → St} {R0 : R → Ex × St} {W : A0 → A1 → A2 → A3 → A4 → Option ((A0 × A1 × A2 × A3 × A4) ⊕ R)} (h : ∀ b0 b1 b2 b3 b4 x, W b0 b1 b2 b3 b4 = some x → zO E fid c S0 R0 (b0, b1, b2, b3, b4) x) : ∀ (m : Nat) (s : A0 × A1 × A2 × A3 × A4) (r : R), iter (fun s => W s.1 s.2.1 s.2.2.1 s.2.2.2.1 s.2.2.2.2) m s = some r → ev E fid c (S0 s) = some (R0 r) := zqk fun s x e => h s.1 s.2.1 s.2.2.1 s.2.2.2.1 s.2.2.2.2 x e
theorem zwC {A0 A1 A2 A3 A4 A5 R : Type} {S0 : A0 × A1 × A2 × A3 × A4 × A5 → St} {R0 : R → Ex × St} {W : A0 → A1 → A2 → A3 → A4 → A5 → Option ((A0 × A1 × A2 × A3 × A4 × A5) ⊕ R)} (h : ∀ b0 b1 b2 b3 b4 b5 x, W b0 b1 b2 b3 b4 b5 = some x → zO E fid c S0 R0 (b0, b1, b2, b3, b4, b5) x) : ∀ (m : Nat) (s : A0 × A1 × A2 × A3 × A4 × A5) (r : R), iter (fun s => W s.1 s.2.1 s.2.2.1 s.2.2.2.1 s.2.2.2.2.1 s.2.2.2.2.2) m s = some r → ev E fid c (S0 s) = some (R0 r) := zqk fun s x e => h s.1 s.2.1 s.2.2.1 s.2.2.2.1 s.2.2.2.2.1 s.2.2.2.2.2 x e
theorem zqe {st : St} {r : Ex × St} {P : List Prop} (V : Ovs) (C : Cuts) (hP : All P) (h : evV E V C 80 fid c st = some (r, P)) : ev E fid c st = some r := zKz hP h
theorem zqc {f : Nat} {ds : List D} {d : D} {P : List Prop} (V : Ovs) (C : Cuts) (hP : All P) (h : zxt E V C 80 f ds = some (d, P)) : zL E (ev E) f ds = some d := zdy hP h
theorem zqr {f : Nat} {ds : List D} {d : D} {P : List Prop} (V : Ovs) (C : Cuts) (res : List D) (hP : All P) (h : zCr E V C 80 f ds res = some (d, P)) : zL E (ev E) f ds = some d := zyw hP h
end
section
variable {α : Type}
theorem zqa (T : TypeId) (bt lv s : Nat) (n : Int) (b : Bool) (z : Nat) (e : α → List D) (l : List α) (w : Bool) {y : α} (ha : arT TE.P T = none) (hs : slT TE.P T = some (z, bt)) (h : idx l n = some y) : iaX TE.P (fun _ _ => some (rowO b z e l w)) T (.row lv s l.length) (xi n) = some (.rp lv s l.length n.toNat 0) := zYA ha hs h
theorem zql (T : TypeId) (q : Nat × Bool) (lv s o : Nat) (n : Int) (x : X) (b : Bool) (z : Nat) (e : α → List D) (l : List α) (w : Bool) {y : α} (ht : tyT TE.P T = some q) (h : idx l n = some y) (hx : (zGi q.2 q.1 ((e y).drop o)).map X.d = some x) : ldX TE.P (fun _ _ => some (rowO b z e l w)) T (.rp lv s l.length n.toNat o) = some x := zxB ht h hx
theorem zqf (T : TypeId) (q : Nat × Nat × Bool) (lv s o f : Nat) (n : Int) (b : Bool) (z : Nat) (e : α → List D) (l : List α) (w : Bool) {y : α} (hf : fdT TE.P T f = some q) (hq : q.2.1 ≠ 0) (h : idx l n = some y) : faX TE.P (fun _ _ => some (rowO b z e l w)) T (.rp lv s l.length n.toNat o) f = some (.rp lv s l.length n.toNat (o + q.1)) := zEB hf hq h
end
theorem zE (k : Nat) (p0 p1 p2 : Int) (r : Bool) (h : zV k p0 p1 p2 = some r) : zL TE (ev TE) 60 [(di p0), (di p1), (di p2)] = some (zpk r) := by
 unfold zV at h
 refine zm h (fun h1 g1 => ?_) (fun h1 g1 => ?_)
 ·exact zI (g := zpk) g1 (zqc [(60, 1, 3, .q (xb true))] [] (ob (o_b h1) ob0) (by kernel_rfl))
 ·exact zI (g := zpk) g1 (zqc [(60, 1, 3, .q (xb false))] [] (ob (o_b h1) ob0) (by kernel_rfl))
theorem z5f (k : Nat) (p0 : zr) (p1 p2 : Int) (r : Bool) (h : zCe k p0 p1 p2 = some r) : zL TE (ev TE) 61 [(.agg [(di p0.Low), (di p0.High)]), (di p1), (di p2)] = some (zhi r) := by
 unfold zCe at h
 refine zm h (fun h1 g1 => ?_) (fun h1 g1 => ?_)
 ·refine zm g1 (fun h2 g2 => ?_) (fun h2 g2 => ?_)
  ·exact zI (g := zhi) g2 (zqc [(61, 1, 4, .q (xb true)), (61, 1, 11, .q (xb true))] [] (ob (o_b h1) (ob (o_b h2) ob0)) (by kernel_rfl))
  ·exact zI (g := zhi) g2 (zqc [(61, 1, 4, .q (xb true)), (61, 1, 11, .q (xb false))] [] (ob (o_b h1) (ob (o_b h2) ob0)) (by kernel_rfl))
 ·exact zI (g := zhi) g1 (zqc [(61, 1, 4, .q (xb false))] [] (ob (o_b h1) ob0) (by kernel_rfl))
noncomputable def zk1 (p0 : za) (r : Bool) : TM := [(0, (.d (.agg (zb p0)))), (zsp 1), (2, (xi 0)), (3, (xb r))]
noncomputable def zTc (p0 : za) (r : Bool) : St := ⟨(zk1 p0 r), ⟨[(zc 1 (zb p0))], []⟩, []⟩
theorem zMl (k : Nat) (p0 : za) (r : Bool) (h : zJg k p0 = some r) : ev TE 18 (rgn TE 18 1) ⟨[(0, (.d (.agg (zb p0)))), (zsp 1), (2, (xi 0))], ⟨[(zc 1 (zb p0))], []⟩, []⟩ = some (.nor, zTc p0 r) := by
 unfold zJg at h
 refine zj h (fun v201 h202 g1 => ?_)
 refine zm g1 (fun h203 g2 => ?_) (fun h203 g2 => ?_)
 ·refine zj g2 (fun v204 h205 g3 => ?_)
  refine zm g3 (fun h206 g4 => ?_) (fun h206 g4 => ?_)
  ·refine zm g4 (fun h207 g5 => ?_) (fun h207 g5 => ?_)
   ·refine zm g5 (fun h208 g6 => ?_) (fun h208 g6 => ?_)
    ·exact zy (g := fun r => (Ex.nor, zTc p0 r)) g6 (zqe [(18, 1, 2, .c (db v201)), (18, 1, 3, .q (xb true)), (18, 1, 6, .q (xi (p0.Shelves.1.length : Int))), (18, 1, 7, .c (db v204)), (18, 1, 9, .q (xb true)), (18, 1, 12, .q (xi (p0.Moves.1.length : Int))), (18, 1, 15, .q (xb true)), (18, 1, 18, .q (xi (p0.Deliveries.1.length : Int))), (18, 1, 21, .q (xb true)), (18, 1, 24, .q (xi (p0.Counts.1.length : Int)))] [] (ob (zE k p0.Days 1 12 _ h202) (ob (o_b h203) (ob (zw zk p0.Shelves.1) (ob (zE k (p0.Shelves.1.length : Int) 1 4 _ h205) (ob (o_b h206) (ob (zw zl p0.Moves.1) (ob (o_b h207) (ob (zw zh p0.Deliveries.1) (ob (o_b h208) (ob (zw zi p0.Counts.1) ob0)))))))))) (by kernel_rfl))
    ·exact zy (g := fun r => (Ex.nor, zTc p0 r)) g6 (zqe [(18, 1, 2, .c (db v201)), (18, 1, 3, .q (xb true)), (18, 1, 6, .q (xi (p0.Shelves.1.length : Int))), (18, 1, 7, .c (db v204)), (18, 1, 9, .q (xb true)), (18, 1, 12, .q (xi (p0.Moves.1.length : Int))), (18, 1, 15, .q (xb true)), (18, 1, 18, .q (xi (p0.Deliveries.1.length : Int))), (18, 1, 21, .q (xb false))] [] (ob (zE k p0.Days 1 12 _ h202) (ob (o_b h203) (ob (zw zk p0.Shelves.1) (ob (zE k (p0.Shelves.1.length : Int) 1 4 _ h205) (ob (o_b h206) (ob (zw zl p0.Moves.1) (ob (o_b h207) (ob (zw zh p0.Deliveries.1) (ob (o_b h208) ob0))))))))) (by kernel_rfl))
   ·exact zy (g := fun r => (Ex.nor, zTc p0 r)) g5 (zqe [(18, 1, 2, .c (db v201)), (18, 1, 3, .q (xb true)), (18, 1, 6, .q (xi (p0.Shelves.1.length : Int))), (18, 1, 7, .c (db v204)), (18, 1, 9, .q (xb true)), (18, 1, 12, .q (xi (p0.Moves.1.length : Int))), (18, 1, 15, .q (xb false))] [] (ob (zE k p0.Days 1 12 _ h202) (ob (o_b h203) (ob (zw zk p0.Shelves.1) (ob (zE k (p0.Shelves.1.length : Int) 1 4 _ h205) (ob (o_b h206) (ob (zw zl p0.Moves.1) (ob (o_b h207) ob0))))))) (by kernel_rfl))
  ·exact zy (g := fun r => (Ex.nor, zTc p0 r)) g4 (zqe [(18, 1, 2, .c (db v201)), (18, 1, 3, .q (xb true)), (18, 1, 6, .q (xi (p0.Shelves.1.length : Int))), (18, 1, 7, .c (db v204)), (18, 1, 9, .q (xb false))] [] (ob (zE k p0.Days 1 12 _ h202) (ob (o_b h203) (ob (zw zk p0.Shelves.1) (ob (zE k (p0.Shelves.1.length : Int) 1 4 _ h205) (ob (o_b h206) ob0))))) (by kernel_rfl))
 ·exact zy (g := fun r => (Ex.nor, zTc p0 r)) g2 (zqe [(18, 1, 2, .c (db v201)), (18, 1, 3, .q (xb false))] [] (ob (zE k p0.Days 1 12 _ h202) (ob (o_b h203) ob0)) (by kernel_rfl))
noncomputable def zk2 (p0 : za) (r : Bool) (s2_9 : Int) : TM := zk1 p0 r ++ [(40, (.d (dl zk p0.Shelves.1 p0.Shelves.2))), (41, (xi (p0.Shelves.1.length : Int))), (42, (xi s2_9)), (43, (xb true)), (zsp 5)]
noncomputable def zyf (p0 : za) (s2_6 : Bool) (s2_9 : Int) (v402 : zt) (r : Bool) : St := ⟨(zk2 p0 r s2_9), ⟨[(zc 1 (zb p0)), (zc 5 (zk v402))], []⟩, []⟩
noncomputable def zk3 (p0 : za) (s2_6 : Bool) (s2_9 : Int) : TM := [(0, (.d (.agg (zb p0)))), (zsp 1), (2, (xi 0)), (3, (xb s2_6)), (40, (.d (dl zk p0.Shelves.1 p0.Shelves.2))), (41, (xi (p0.Shelves.1.length : Int))), (42, (xi s2_9)), (43, (xb true)), (zsp 5)]
theorem zkq (k : Nat) (p0 : za) (s2_6 : Bool) (s2_9 : Int) (v402 : zt) (r : Bool) (h : z0g k p0 s2_6 s2_9 v402 = some r) : ev TE 18 (rgn TE 18 5) ⟨(zk3 p0 s2_6 s2_9), ⟨[(zc 1 (zb p0)), (zc 5 (zk v402))], []⟩, []⟩ = some (.nor, zyf p0 s2_6 s2_9 v402 r) := by
 unfold z0g at h
 refine zm h (fun h501 g1 => ?_) (fun h501 g1 => ?_)
 ·refine zj g1 (fun v502 h503 g2 => ?_)
  refine zm g2 (fun h504 g3 => ?_) (fun h504 g3 => ?_)
  ·refine zj g3 (fun v505 h506 g4 => ?_)
   exact zy (g := fun r => (Ex.nor, zyf p0 s2_6 s2_9 v402 r)) g4 (zqe [(18, 5, 1, .q (xb true)), (18, 5, 4, .c (db v502)), (18, 5, 6, .q (xb true)), (18, 5, 11, .c (db v505))] [] (ob (o_b h501) (ob (zE k v402.Room 1 60 _ h503) (ob (o_b h504) (ob (z5f k v402.Begin 0 v402.Room _ h506) ob0)))) (by kernel_rfl))
  ·exact zy (g := fun r => (Ex.nor, zyf p0 s2_6 s2_9 v402 r)) g3 (zqe [(18, 5, 1, .q (xb true)), (18, 5, 4, .c (db v502)), (18, 5, 6, .q (xb false))] [] (ob (o_b h501) (ob (zE k v402.Room 1 60 _ h503) (ob (o_b h504) ob0))) (by kernel_rfl))
 ·exact zy (g := fun r => (Ex.nor, zyf p0 s2_6 s2_9 v402 r)) g1 (zqe [(18, 5, 1, .q (xb false))] [] (ob (o_b h501) ob0) (by kernel_rfl))
noncomputable def zk4 (p0 : za) (s2_6 : Bool) (s2_9 : Int) : TM := [(0, (.d (.agg (zb p0)))), (zsp 1), (2, (xi 0)), (3, (xb s2_6)), (40, (.d (dl zk p0.Shelves.1 p0.Shelves.2))), (41, (xi (p0.Shelves.1.length : Int))), (42, (xi s2_9))]
noncomputable def zTq (p0 : za) (s2_6 : Bool) (s2_9 : Int) : St := ⟨(zk4 p0 s2_6 s2_9), ⟨[(zc 1 (zb p0))], []⟩, []⟩
noncomputable def zk5 (p0 : za) (r : zt1) : TM := [(0, (.d (.agg (zb p0)))), (zsp 1), (2, (xi 0)), (3, (xb r.1)), (40, (.d (dl zk p0.Shelves.1 p0.Shelves.2))), (41, (xi (p0.Shelves.1.length : Int))), (42, (xi r.2)), (43, (xb false))]
noncomputable def z2e (p0 : za) (r : zt1) : St := ⟨(zk5 p0 r), ⟨[(zc 1 (zb p0))], []⟩, []⟩
noncomputable def zJq (p0 : za) : (Bool × Int) → Ex × St := fun r => ((.exit 0), z2e p0 r)
theorem zLl (k : Nat) (p0 : za) (s2_6 : Bool) (s2_9 : Int) (x : (Bool × Int) ⊕ (Bool × Int)) (h : ztd k p0 s2_6 s2_9 = some x) : zO TE 18 (blk TE 18 0) (fun s : (Bool × Int) => zTq p0 s.1 s.2) (zJq p0) (s2_6, s2_9) x := by
 unfold ztd at h
 refine zm h (fun h401 g1 => ?_) (fun h401 g1 => ?_)
 ·refine zj g1 (fun v402 h403 g2 => ?_)
  refine zj g2 (fun v404 h405 g3 => ?_)
  exact zqn (v404, (w64 (s2_9 + 1))) [] [(18, 3, 0, .q (xb true)), (18, 4, 0, .q (.d (.pin (zk v402))))] [(18, 1000005, (.nor, zyf p0 s2_6 s2_9 v402 v404))] g3 (ob (o_b h401) (ob (o_ia (e := zk) 3 h403 rfl) (ob (zkq k p0 s2_6 s2_9 v402 _ h405) ob0))) (by kernel_rfl)
 ·exact zqo [(18, 3, 0, .q (xb false))] [] g1 (ob (o_b h401) ob0) (by kernel_rfl)
noncomputable def zk6 (p0 : za) (r : Bool) (v3 : zt1) (s5_13 : Int) : TM := zk1 p0 r ++ [(40, (.d (dl zk p0.Shelves.1 p0.Shelves.2))), (41, (xi (p0.Shelves.1.length : Int))), (42, (xi v3.2)), (43, (xb false)), (61, (.d (dl zl p0.Moves.1 p0.Moves.2))), (62, (xi (p0.Moves.1.length : Int))), (63, (xi s5_13)), (64, (xb true)), (zsp 7)]
noncomputable def zne (p0 : za) (v3 : zt1) (s5_6 : Bool) (s5_13 : Int) (v702 : zx) (r : Bool) : St := ⟨(zk6 p0 r v3 s5_13), ⟨[(zc 1 (zb p0)), (zc 7 (zl v702))], []⟩, []⟩
noncomputable def zk7 (p0 : za) (s5_6 : Bool) (v3 : zt1) (s5_13 : Int) : TM := [(0, (.d (.agg (zb p0)))), (zsp 1), (2, (xi 0)), (3, (xb s5_6)), (40, (.d (dl zk p0.Shelves.1 p0.Shelves.2))), (41, (xi (p0.Shelves.1.length : Int))), (42, (xi v3.2)), (43, (xb false)), (61, (.d (dl zl p0.Moves.1 p0.Moves.2))), (62, (xi (p0.Moves.1.length : Int))), (63, (xi s5_13)), (64, (xb true)), (zsp 7)]
theorem zdq (k : Nat) (p0 : za) (v3 : zt1) (s5_6 : Bool) (s5_13 : Int) (v702 : zx) (r : Bool) (h : z1g k p0 v3 s5_6 s5_13 v702 = some r) : ev TE 18 (rgn TE 18 10) ⟨(zk7 p0 s5_6 v3 s5_13), ⟨[(zc 1 (zb p0)), (zc 7 (zl v702))], []⟩, []⟩ = some (.nor, zne p0 v3 s5_6 s5_13 v702 r) := by
 unfold z1g at h
 refine zm h (fun h801 g1 => ?_) (fun h801 g1 => ?_)
 ·refine zj g1 (fun v802 h803 g2 => ?_)
  refine zm g2 (fun h804 g3 => ?_) (fun h804 g3 => ?_)
  ·refine zj g3 (fun v805 h806 g4 => ?_)
   refine zm g4 (fun h807 g5 => ?_) (fun h807 g5 => ?_)
   ·refine zj g5 (fun v808 h809 g6 => ?_)
    exact zy (g := fun r => (Ex.nor, zne p0 v3 s5_6 s5_13 v702 r)) g6 (zqe [(18, 10, 1, .q (xb true)), (18, 10, 7, .c (db v802)), (18, 10, 9, .q (xb true)), (18, 10, 14, .q (xi (p0.Shelves.1.length : Int))), (18, 10, 16, .c (db v805)), (18, 10, 18, .q (xb true)), (18, 10, 21, .c (db v808))] [] (ob (o_b h801) (ob (zE k v702.Day 0 (w64 (p0.Days - 1)) _ h803) (ob (o_b h804) (ob (zw zk p0.Shelves.1) (ob (zE k v702.Shelf 0 (w64 ((p0.Shelves.1.length : Int) - 1)) _ h806) (ob (o_b h807) (ob (z5f k v702.By 0 60 _ h809) ob0))))))) (by kernel_rfl))
   ·exact zy (g := fun r => (Ex.nor, zne p0 v3 s5_6 s5_13 v702 r)) g5 (zqe [(18, 10, 1, .q (xb true)), (18, 10, 7, .c (db v802)), (18, 10, 9, .q (xb true)), (18, 10, 14, .q (xi (p0.Shelves.1.length : Int))), (18, 10, 16, .c (db v805)), (18, 10, 18, .q (xb false))] [] (ob (o_b h801) (ob (zE k v702.Day 0 (w64 (p0.Days - 1)) _ h803) (ob (o_b h804) (ob (zw zk p0.Shelves.1) (ob (zE k v702.Shelf 0 (w64 ((p0.Shelves.1.length : Int) - 1)) _ h806) (ob (o_b h807) ob0)))))) (by kernel_rfl))
  ·exact zy (g := fun r => (Ex.nor, zne p0 v3 s5_6 s5_13 v702 r)) g3 (zqe [(18, 10, 1, .q (xb true)), (18, 10, 7, .c (db v802)), (18, 10, 9, .q (xb false))] [] (ob (o_b h801) (ob (zE k v702.Day 0 (w64 (p0.Days - 1)) _ h803) (ob (o_b h804) ob0))) (by kernel_rfl))
 ·exact zy (g := fun r => (Ex.nor, zne p0 v3 s5_6 s5_13 v702 r)) g1 (zqe [(18, 10, 1, .q (xb false))] [] (ob (o_b h801) ob0) (by kernel_rfl))
noncomputable def zk8 (p0 : za) (s5_6 : Bool) (v3 : zt1) (s5_13 : Int) : TM := [(0, (.d (.agg (zb p0)))), (zsp 1), (2, (xi 0)), (3, (xb s5_6)), (40, (.d (dl zk p0.Shelves.1 p0.Shelves.2))), (41, (xi (p0.Shelves.1.length : Int))), (42, (xi v3.2)), (43, (xb false)), (61, (.d (dl zl p0.Moves.1 p0.Moves.2))), (62, (xi (p0.Moves.1.length : Int))), (63, (xi s5_13))]
noncomputable def zQq (p0 : za) (v3 : zt1) (s5_6 : Bool) (s5_13 : Int) : St := ⟨(zk8 p0 s5_6 v3 s5_13), ⟨[(zc 1 (zb p0))], []⟩, []⟩
noncomputable def zk9 (p0 : za) (r v3 : zt1) : TM := [(0, (.d (.agg (zb p0)))), (zsp 1), (2, (xi 0)), (3, (xb r.1)), (40, (.d (dl zk p0.Shelves.1 p0.Shelves.2))), (41, (xi (p0.Shelves.1.length : Int))), (42, (xi v3.2)), (43, (xb false)), (61, (.d (dl zl p0.Moves.1 p0.Moves.2))), (62, (xi (p0.Moves.1.length : Int))), (63, (xi r.2)), (64, (xb false))]
noncomputable def zZe (p0 : za) (v3 r : zt1) : St := ⟨(zk9 p0 r v3), ⟨[(zc 1 (zb p0))], []⟩, []⟩
noncomputable def zKq (p0 : za) (v3 : zt1) : (Bool × Int) → Ex × St := fun r => ((.exit 2), zZe p0 v3 r)
theorem zEl (k : Nat) (p0 : za) (v3 : zt1) (s5_6 : Bool) (s5_13 : Int) (x : (Bool × Int) ⊕ (Bool × Int)) (h : zxd k p0 v3 s5_6 s5_13 = some x) : zO TE 18 (blk TE 18 2) (fun s : (Bool × Int) => zQq p0 v3 s.1 s.2) (zKq p0 v3) (s5_6, s5_13) x := by
 unfold zxd at h
 refine zm h (fun h701 g1 => ?_) (fun h701 g1 => ?_)
 ·refine zj g1 (fun v702 h703 g2 => ?_)
  refine zj g2 (fun v704 h705 g3 => ?_)
  exact zqn (v704, (w64 (s5_13 + 1))) [] [(18, 8, 0, .q (xb true)), (18, 9, 0, .q (.d (.pin (zl v702))))] [(18, 1000010, (.nor, zne p0 v3 s5_6 s5_13 v702 v704))] g3 (ob (o_b h701) (ob (o_ia (e := zl) 5 h703 rfl) (ob (zdq k p0 v3 s5_6 s5_13 v702 _ h705) ob0))) (by kernel_rfl)
 ·exact zqo [(18, 8, 0, .q (xb false))] [] g1 (ob (o_b h701) ob0) (by kernel_rfl)
noncomputable def zoC (p0 : za) (r : Bool) (v3 v5 : zt1) (s8_17 : Int) : TM := zk1 p0 r ++ [(40, (.d (dl zk p0.Shelves.1 p0.Shelves.2))), (41, (xi (p0.Shelves.1.length : Int))), (42, (xi v3.2)), (43, (xb false)), (61, (.d (dl zl p0.Moves.1 p0.Moves.2))), (62, (xi (p0.Moves.1.length : Int))), (63, (xi v5.2)), (64, (xb false)), (92, (.d (dl zh p0.Deliveries.1 p0.Deliveries.2))), (93, (xi (p0.Deliveries.1.length : Int))), (94, (xi s8_17)), (95, (xb true)), (zsp 9)]
noncomputable def zVd (p0 : za) (v3 v5 : zt1) (s8_6 : Bool) (s8_17 : Int) (v1002 : zu) (r : Bool) : St := ⟨(zoC p0 r v3 v5 s8_17), ⟨[(zc 1 (zb p0)), (zc 9 (zh v1002))], []⟩, []⟩
noncomputable def zIC (p0 : za) (s8_6 : Bool) (v3 v5 : zt1) (s8_17 : Int) : TM := [(0, (.d (.agg (zb p0)))), (zsp 1), (2, (xi 0)), (3, (xb s8_6)), (40, (.d (dl zk p0.Shelves.1 p0.Shelves.2))), (41, (xi (p0.Shelves.1.length : Int))), (42, (xi v3.2)), (43, (xb false)), (61, (.d (dl zl p0.Moves.1 p0.Moves.2))), (62, (xi (p0.Moves.1.length : Int))), (63, (xi v5.2)), (64, (xb false)), (92, (.d (dl zh p0.Deliveries.1 p0.Deliveries.2))), (93, (xi (p0.Deliveries.1.length : Int))), (94, (xi s8_17)), (95, (xb true)), (zsp 9)]
theorem zNp (k : Nat) (p0 : za) (v3 v5 : zt1) (s8_6 : Bool) (s8_17 : Int) (v1002 : zu) (r : Bool) (h : z1f k p0 v3 v5 s8_6 s8_17 v1002 = some r) : ev TE 18 (rgn TE 18 15) ⟨(zIC p0 s8_6 v3 v5 s8_17), ⟨[(zc 1 (zb p0)), (zc 9 (zh v1002))], []⟩, []⟩ = some (.nor, zVd p0 v3 v5 s8_6 s8_17 v1002 r) := by
 unfold z1f at h
 refine zm h (fun h1101 g1 => ?_) (fun h1101 g1 => ?_)
 ·refine zj g1 (fun v1102 h1103 g2 => ?_)
  refine zm g2 (fun h1104 g3 => ?_) (fun h1104 g3 => ?_)
  ·refine zj g3 (fun v1105 h1106 g4 => ?_)
   refine zm g4 (fun h1107 g5 => ?_) (fun h1107 g5 => ?_)
   ·refine zj g5 (fun v1108 h1109 g6 => ?_)
    exact zy (g := fun r => (Ex.nor, zVd p0 v3 v5 s8_6 s8_17 v1002 r)) g6 (zqe [(18, 15, 1, .q (xb true)), (18, 15, 6, .q (xi (p0.Shelves.1.length : Int))), (18, 15, 8, .c (db v1102)), (18, 15, 10, .q (xb true)), (18, 15, 16, .c (db v1105)), (18, 15, 18, .q (xb true)), (18, 15, 21, .c (db v1108))] [] (ob (o_b h1101) (ob (zw zk p0.Shelves.1) (ob (zE k v1002.Shelf 0 (w64 ((p0.Shelves.1.length : Int) - 1)) _ h1103) (ob (o_b h1104) (ob (z5f k v1002.Days 0 (w64 (p0.Days - 1)) _ h1106) (ob (o_b h1107) (ob (z5f k v1002.By 0 60 _ h1109) ob0))))))) (by kernel_rfl))
   ·exact zy (g := fun r => (Ex.nor, zVd p0 v3 v5 s8_6 s8_17 v1002 r)) g5 (zqe [(18, 15, 1, .q (xb true)), (18, 15, 6, .q (xi (p0.Shelves.1.length : Int))), (18, 15, 8, .c (db v1102)), (18, 15, 10, .q (xb true)), (18, 15, 16, .c (db v1105)), (18, 15, 18, .q (xb false))] [] (ob (o_b h1101) (ob (zw zk p0.Shelves.1) (ob (zE k v1002.Shelf 0 (w64 ((p0.Shelves.1.length : Int) - 1)) _ h1103) (ob (o_b h1104) (ob (z5f k v1002.Days 0 (w64 (p0.Days - 1)) _ h1106) (ob (o_b h1107) ob0)))))) (by kernel_rfl))
  ·exact zy (g := fun r => (Ex.nor, zVd p0 v3 v5 s8_6 s8_17 v1002 r)) g3 (zqe [(18, 15, 1, .q (xb true)), (18, 15, 6, .q (xi (p0.Shelves.1.length : Int))), (18, 15, 8, .c (db v1102)), (18, 15, 10, .q (xb false))] [] (ob (o_b h1101) (ob (zw zk p0.Shelves.1) (ob (zE k v1002.Shelf 0 (w64 ((p0.Shelves.1.length : Int) - 1)) _ h1103) (ob (o_b h1104) ob0)))) (by kernel_rfl))
 ·exact zy (g := fun r => (Ex.nor, zVd p0 v3 v5 s8_6 s8_17 v1002 r)) g1 (zqe [(18, 15, 1, .q (xb false))] [] (ob (o_b h1101) ob0) (by kernel_rfl))
noncomputable def zqC (p0 : za) (s8_6 : Bool) (v3 v5 : zt1) (s8_17 : Int) : TM := [(0, (.d (.agg (zb p0)))), (zsp 1), (2, (xi 0)), (3, (xb s8_6)), (40, (.d (dl zk p0.Shelves.1 p0.Shelves.2))), (41, (xi (p0.Shelves.1.length : Int))), (42, (xi v3.2)), (43, (xb false)), (61, (.d (dl zl p0.Moves.1 p0.Moves.2))), (62, (xi (p0.Moves.1.length : Int))), (63, (xi v5.2)), (64, (xb false)), (92, (.d (dl zh p0.Deliveries.1 p0.Deliveries.2))), (93, (xi (p0.Deliveries.1.length : Int))), (94, (xi s8_17))]
noncomputable def z9q (p0 : za) (v3 v5 : zt1) (s8_6 : Bool) (s8_17 : Int) : St := ⟨(zqC p0 s8_6 v3 v5 s8_17), ⟨[(zc 1 (zb p0))], []⟩, []⟩
noncomputable def zXC (p0 : za) (r v3 v5 : zt1) : TM := [(0, (.d (.agg (zb p0)))), (zsp 1), (2, (xi 0)), (3, (xb r.1)), (40, (.d (dl zk p0.Shelves.1 p0.Shelves.2))), (41, (xi (p0.Shelves.1.length : Int))), (42, (xi v3.2)), (43, (xb false)), (61, (.d (dl zl p0.Moves.1 p0.Moves.2))), (62, (xi (p0.Moves.1.length : Int))), (63, (xi v5.2)), (64, (xb false)), (92, (.d (dl zh p0.Deliveries.1 p0.Deliveries.2))), (93, (xi (p0.Deliveries.1.length : Int))), (94, (xi r.2)), (95, (xb false))]
noncomputable def zXe (p0 : za) (v3 v5 r : zt1) : St := ⟨(zXC p0 r v3 v5), ⟨[(zc 1 (zb p0))], []⟩, []⟩
noncomputable def z7q (p0 : za) (v3 v5 : zt1) : (Bool × Int) → Ex × St := fun r => ((.exit 4), zXe p0 v3 v5 r)
theorem zCl (k : Nat) (p0 : za) (v3 v5 : zt1) (s8_6 : Bool) (s8_17 : Int) (x : (Bool × Int) ⊕ (Bool × Int)) (h : zzd k p0 v3 v5 s8_6 s8_17 = some x) : zO TE 18 (blk TE 18 4) (fun s : (Bool × Int) => z9q p0 v3 v5 s.1 s.2) (z7q p0 v3 v5) (s8_6, s8_17) x := by
 unfold zzd at h
 refine zm h (fun h1001 g1 => ?_) (fun h1001 g1 => ?_)
 ·refine zj g1 (fun v1002 h1003 g2 => ?_)
  refine zj g2 (fun v1004 h1005 g3 => ?_)
  exact zqn (v1004, (w64 (s8_17 + 1))) [] [(18, 13, 0, .q (xb true)), (18, 14, 0, .q (.d (.pin (zh v1002))))] [(18, 1000015, (.nor, zVd p0 v3 v5 s8_6 s8_17 v1002 v1004))] g3 (ob (o_b h1001) (ob (o_ia (e := zh) 5 h1003 rfl) (ob (zNp k p0 v3 v5 s8_6 s8_17 v1002 _ h1005) ob0))) (by kernel_rfl)
 ·exact zqo [(18, 13, 0, .q (xb false))] [] g1 (ob (o_b h1001) ob0) (by kernel_rfl)
noncomputable def zgC (p0 : za) (r : Bool) (v3 v5 v7 : zt1) (s11_21 : Int) : TM := zk1 p0 r ++ [(40, (.d (dl zk p0.Shelves.1 p0.Shelves.2))), (41, (xi (p0.Shelves.1.length : Int))), (42, (xi v3.2)), (43, (xb false)), (61, (.d (dl zl p0.Moves.1 p0.Moves.2))), (62, (xi (p0.Moves.1.length : Int))), (63, (xi v5.2)), (64, (xb false)), (92, (.d (dl zh p0.Deliveries.1 p0.Deliveries.2))), (93, (xi (p0.Deliveries.1.length : Int))), (94, (xi v7.2)), (95, (xb false)), (123, (.d (dl zi p0.Counts.1 p0.Counts.2))), (124, (xi (p0.Counts.1.length : Int))), (125, (xi s11_21)), (126, (xb true)), (zsp 11)]
noncomputable def z5c (p0 : za) (v3 v5 v7 : zt1) (s11_6 : Bool) (s11_21 : Int) (v1302 : zo) (r : Bool) : St := ⟨(zgC p0 r v3 v5 v7 s11_21), ⟨[(zc 1 (zb p0)), (zc 11 (zi v1302))], []⟩, []⟩
noncomputable def ziD (p0 : za) (s11_6 : Bool) (v3 v5 v7 : zt1) (s11_21 : Int) : TM := [(0, (.d (.agg (zb p0)))), (zsp 1), (2, (xi 0)), (3, (xb s11_6)), (40, (.d (dl zk p0.Shelves.1 p0.Shelves.2))), (41, (xi (p0.Shelves.1.length : Int))), (42, (xi v3.2)), (43, (xb false)), (61, (.d (dl zl p0.Moves.1 p0.Moves.2))), (62, (xi (p0.Moves.1.length : Int))), (63, (xi v5.2)), (64, (xb false)), (92, (.d (dl zh p0.Deliveries.1 p0.Deliveries.2))), (93, (xi (p0.Deliveries.1.length : Int))), (94, (xi v7.2)), (95, (xb false)), (123, (.d (dl zi p0.Counts.1 p0.Counts.2))), (124, (xi (p0.Counts.1.length : Int))), (125, (xi s11_21)), (126, (xb true)), (zsp 11)]
theorem zjp (k : Nat) (p0 : za) (v3 v5 v7 : zt1) (s11_6 : Bool) (s11_21 : Int) (v1302 : zo) (r : Bool) (h : zZf k p0 v3 v5 v7 s11_6 s11_21 v1302 = some r) : ev TE 18 (rgn TE 18 20) ⟨(ziD p0 s11_6 v3 v5 v7 s11_21), ⟨[(zc 1 (zb p0)), (zc 11 (zi v1302))], []⟩, []⟩ = some (.nor, z5c p0 v3 v5 v7 s11_6 s11_21 v1302 r) := by
 unfold zZf at h
 refine zm h (fun h1401 g1 => ?_) (fun h1401 g1 => ?_)
 ·refine zj g1 (fun v1402 h1403 g2 => ?_)
  refine zm g2 (fun h1404 g3 => ?_) (fun h1404 g3 => ?_)
  ·refine zj g3 (fun v1405 h1406 g4 => ?_)
   refine zm g4 (fun h1407 g5 => ?_) (fun h1407 g5 => ?_)
   ·refine zj g5 (fun v1408 h1409 g6 => ?_)
    refine zm g6 (fun h1410 g7 => ?_) (fun h1410 g7 => ?_)
    ·refine zj g7 (fun v1411 h1412 g8 => ?_)
     exact zy (g := fun r => (Ex.nor, z5c p0 v3 v5 v7 s11_6 s11_21 v1302 r)) g8 (zqe [(18, 20, 1, .q (xb true)), (18, 20, 7, .c (db v1402)), (18, 20, 9, .q (xb true)), (18, 20, 14, .q (xi (p0.Shelves.1.length : Int))), (18, 20, 16, .c (db v1405)), (18, 20, 18, .q (xb true)), (18, 20, 21, .c (db v1408)), (18, 20, 23, .q (xb true)), (18, 20, 26, .c (db v1411))] [] (ob (o_b h1401) (ob (zE k v1302.Day 0 (w64 (p0.Days - 1)) _ h1403) (ob (o_b h1404) (ob (zw zk p0.Shelves.1) (ob (zE k v1302.Shelf 0 (w64 ((p0.Shelves.1.length : Int) - 1)) _ h1406) (ob (o_b h1407) (ob (zE k v1302.Read 0 60 _ h1409) (ob (o_b h1410) (ob (zE k v1302.Err 0 20 _ h1412) ob0))))))))) (by kernel_rfl))
    ·exact zy (g := fun r => (Ex.nor, z5c p0 v3 v5 v7 s11_6 s11_21 v1302 r)) g7 (zqe [(18, 20, 1, .q (xb true)), (18, 20, 7, .c (db v1402)), (18, 20, 9, .q (xb true)), (18, 20, 14, .q (xi (p0.Shelves.1.length : Int))), (18, 20, 16, .c (db v1405)), (18, 20, 18, .q (xb true)), (18, 20, 21, .c (db v1408)), (18, 20, 23, .q (xb false))] [] (ob (o_b h1401) (ob (zE k v1302.Day 0 (w64 (p0.Days - 1)) _ h1403) (ob (o_b h1404) (ob (zw zk p0.Shelves.1) (ob (zE k v1302.Shelf 0 (w64 ((p0.Shelves.1.length : Int) - 1)) _ h1406) (ob (o_b h1407) (ob (zE k v1302.Read 0 60 _ h1409) (ob (o_b h1410) ob0)))))))) (by kernel_rfl))
   ·exact zy (g := fun r => (Ex.nor, z5c p0 v3 v5 v7 s11_6 s11_21 v1302 r)) g5 (zqe [(18, 20, 1, .q (xb true)), (18, 20, 7, .c (db v1402)), (18, 20, 9, .q (xb true)), (18, 20, 14, .q (xi (p0.Shelves.1.length : Int))), (18, 20, 16, .c (db v1405)), (18, 20, 18, .q (xb false))] [] (ob (o_b h1401) (ob (zE k v1302.Day 0 (w64 (p0.Days - 1)) _ h1403) (ob (o_b h1404) (ob (zw zk p0.Shelves.1) (ob (zE k v1302.Shelf 0 (w64 ((p0.Shelves.1.length : Int) - 1)) _ h1406) (ob (o_b h1407) ob0)))))) (by kernel_rfl))
  ·exact zy (g := fun r => (Ex.nor, z5c p0 v3 v5 v7 s11_6 s11_21 v1302 r)) g3 (zqe [(18, 20, 1, .q (xb true)), (18, 20, 7, .c (db v1402)), (18, 20, 9, .q (xb false))] [] (ob (o_b h1401) (ob (zE k v1302.Day 0 (w64 (p0.Days - 1)) _ h1403) (ob (o_b h1404) ob0))) (by kernel_rfl))
 ·exact zy (g := fun r => (Ex.nor, z5c p0 v3 v5 v7 s11_6 s11_21 v1302 r)) g1 (zqe [(18, 20, 1, .q (xb false))] [] (ob (o_b h1401) ob0) (by kernel_rfl))
noncomputable def zaD (p0 : za) (s11_6 : Bool) (v3 v5 v7 : zt1) (s11_21 : Int) : TM := [(0, (.d (.agg (zb p0)))), (zsp 1), (2, (xi 0)), (3, (xb s11_6)), (40, (.d (dl zk p0.Shelves.1 p0.Shelves.2))), (41, (xi (p0.Shelves.1.length : Int))), (42, (xi v3.2)), (43, (xb false)), (61, (.d (dl zl p0.Moves.1 p0.Moves.2))), (62, (xi (p0.Moves.1.length : Int))), (63, (xi v5.2)), (64, (xb false)), (92, (.d (dl zh p0.Deliveries.1 p0.Deliveries.2))), (93, (xi (p0.Deliveries.1.length : Int))), (94, (xi v7.2)), (95, (xb false)), (123, (.d (dl zi p0.Counts.1 p0.Counts.2))), (124, (xi (p0.Counts.1.length : Int))), (125, (xi s11_21))]
noncomputable def zrq (p0 : za) (v3 v5 v7 : zt1) (s11_6 : Bool) (s11_21 : Int) : St := ⟨(zaD p0 s11_6 v3 v5 v7 s11_21), ⟨[(zc 1 (zb p0))], []⟩, []⟩
noncomputable def zRC (p0 : za) (r v3 v5 v7 : zt1) : TM := [(0, (.d (.agg (zb p0)))), (zsp 1), (2, (xi 0)), (3, (xb r.1)), (40, (.d (dl zk p0.Shelves.1 p0.Shelves.2))), (41, (xi (p0.Shelves.1.length : Int))), (42, (xi v3.2)), (43, (xb false)), (61, (.d (dl zl p0.Moves.1 p0.Moves.2))), (62, (xi (p0.Moves.1.length : Int))), (63, (xi v5.2)), (64, (xb false)), (92, (.d (dl zh p0.Deliveries.1 p0.Deliveries.2))), (93, (xi (p0.Deliveries.1.length : Int))), (94, (xi v7.2)), (95, (xb false)), (123, (.d (dl zi p0.Counts.1 p0.Counts.2))), (124, (xi (p0.Counts.1.length : Int))), (125, (xi r.2)), (126, (xb false))]
noncomputable def zDe (p0 : za) (v3 v5 v7 r : zt1) : St := ⟨(zRC p0 r v3 v5 v7), ⟨[(zc 1 (zb p0))], []⟩, []⟩
noncomputable def zpq (p0 : za) (v3 v5 v7 : zt1) : (Bool × Int) → Ex × St := fun r => ((.exit 6), zDe p0 v3 v5 v7 r)
theorem zcl (k : Nat) (p0 : za) (v3 v5 v7 : zt1) (s11_6 : Bool) (s11_21 : Int) (x : (Bool × Int) ⊕ (Bool × Int)) (h : z6c k p0 v3 v5 v7 s11_6 s11_21 = some x) : zO TE 18 (blk TE 18 6) (fun s : (Bool × Int) => zrq p0 v3 v5 v7 s.1 s.2) (zpq p0 v3 v5 v7) (s11_6, s11_21) x := by
 unfold z6c at h
 refine zm h (fun h1301 g1 => ?_) (fun h1301 g1 => ?_)
 ·refine zj g1 (fun v1302 h1303 g2 => ?_)
  refine zj g2 (fun v1304 h1305 g3 => ?_)
  exact zqn (v1304, (w64 (s11_21 + 1))) [] [(18, 18, 0, .q (xb true)), (18, 19, 0, .q (.d (.pin (zi v1302))))] [(18, 1000020, (.nor, z5c p0 v3 v5 v7 s11_6 s11_21 v1302 v1304))] g3 (ob (o_b h1301) (ob (o_ia (e := zi) 4 h1303 rfl) (ob (zjp k p0 v3 v5 v7 s11_6 s11_21 v1302 _ h1305) ob0))) (by kernel_rfl)
 ·exact zqo [(18, 18, 0, .q (xb false))] [] g1 (ob (o_b h1301) ob0) (by kernel_rfl)
theorem zCb (k : Nat) (p0 : za) (r : Int) (h : zff k p0 = some r) : zL TE (ev TE) 18 [(.agg (zb p0))] = some (zsl r) := by
 unfold zff at h
 refine zj h (fun v1 h2 g1 => ?_)
 refine zj g1 (fun v3 h4 g2 => ?_)
 refine zj g2 (fun v5 h6 g3 => ?_)
 refine zj g3 (fun v7 h8 g4 => ?_)
 refine zj g4 (fun v9 h10 g5 => ?_)
 refine zm g5 (fun h11 g6 => ?_) (fun h11 g6 => ?_)
 ·exact zI (g := zsl) g6 (zqc [(18, 2, 2, .q (xi (p0.Shelves.1.length : Int))), (18, 7, 2, .q (xi (p0.Moves.1.length : Int))), (18, 12, 2, .q (xi (p0.Deliveries.1.length : Int))), (18, 17, 2, .q (xi (p0.Counts.1.length : Int))), (18, 22, 1, .q (xb true))] [(18, 1000001, (.nor, zTc p0 v1)), (18, 0, (.nor, z2e p0 v3)), (18, 2, (.nor, zZe p0 v3 v5)), (18, 4, (.nor, zXe p0 v3 v5 v7)), (18, 6, (.nor, zDe p0 v3 v5 v7 v9))] (ob (zMl k p0 _ h2) (ob (zw zk p0.Shelves.1) (ob (zF (id := 0) (r' := (.nor, z2e p0 v3)) (zbc (zLl k p0) k _ _ h4) rfl) (ob (zw zl p0.Moves.1) (ob (zF (id := 2) (r' := (.nor, zZe p0 v3 v5)) (zbc (zEl k p0 v3) k _ _ h6) rfl) (ob (zw zh p0.Deliveries.1) (ob (zF (id := 4) (r' := (.nor, zXe p0 v3 v5 v7)) (zbc (zCl k p0 v3 v5) k _ _ h8) rfl) (ob (zw zi p0.Counts.1) (ob (zF (id := 6) (r' := (.nor, zDe p0 v3 v5 v7 v9)) (zbc (zcl k p0 v3 v5 v7) k _ _ h10) rfl) (ob (o_b h11) ob0)))))))))) (by kernel_rfl))
 ·exact zI (g := zsl) g6 (zqc [(18, 2, 2, .q (xi (p0.Shelves.1.length : Int))), (18, 7, 2, .q (xi (p0.Moves.1.length : Int))), (18, 12, 2, .q (xi (p0.Deliveries.1.length : Int))), (18, 17, 2, .q (xi (p0.Counts.1.length : Int))), (18, 22, 1, .q (xb false))] [(18, 1000001, (.nor, zTc p0 v1)), (18, 0, (.nor, z2e p0 v3)), (18, 2, (.nor, zZe p0 v3 v5)), (18, 4, (.nor, zXe p0 v3 v5 v7)), (18, 6, (.nor, zDe p0 v3 v5 v7 v9))] (ob (zMl k p0 _ h2) (ob (zw zk p0.Shelves.1) (ob (zF (id := 0) (r' := (.nor, z2e p0 v3)) (zbc (zLl k p0) k _ _ h4) rfl) (ob (zw zl p0.Moves.1) (ob (zF (id := 2) (r' := (.nor, zZe p0 v3 v5)) (zbc (zEl k p0 v3) k _ _ h6) rfl) (ob (zw zh p0.Deliveries.1) (ob (zF (id := 4) (r' := (.nor, zXe p0 v3 v5 v7)) (zbc (zCl k p0 v3 v5) k _ _ h8) rfl) (ob (zw zi p0.Counts.1) (ob (zF (id := 6) (r' := (.nor, zDe p0 v3 v5 v7 v9)) (zbc (zcl k p0 v3 v5 v7) k _ _ h10) rfl) (ob (o_b h11) ob0)))))))))) (by kernel_rfl))
theorem zG (k : Nat) (p0 p1 p2 : Int) (r : Bool) (h : zX k p0 p1 p2 = some r) : zL TE (ev TE) 62 [(di p0), (di p1), (di p2)] = some (zIg r) := by
 unfold zX at h
 refine zm h (fun h1 g1 => ?_) (fun h1 g1 => ?_)
 ·exact zI (g := zIg) g1 (zqc [(62, 1, 3, .q (xb true))] [] (ob (o_b h1) ob0) (by kernel_rfl))
 ·exact zI (g := zIg) g1 (zqc [(62, 1, 3, .q (xb false))] [] (ob (o_b h1) ob0) (by kernel_rfl))
theorem z3c (k : Nat) (p0 : zr) (p1 p2 : Int) (r : Bool) (h : zOb k p0 p1 p2 = some r) : zL TE (ev TE) 43 [(.agg [(di p0.Low), (di p0.High)]), (di p1), (di p2)] = some (zue r) := by
 unfold zOb at h
 refine zm h (fun h1 g1 => ?_) (fun h1 g1 => ?_)
 ·refine zm g1 (fun h2 g2 => ?_) (fun h2 g2 => ?_)
  ·exact zI (g := zue) g2 (zqc [(43, 1, 4, .q (xb true)), (43, 1, 11, .q (xb true))] [] (ob (o_b h1) (ob (o_b h2) ob0)) (by kernel_rfl))
  ·exact zI (g := zue) g2 (zqc [(43, 1, 4, .q (xb true)), (43, 1, 11, .q (xb false))] [] (ob (o_b h1) (ob (o_b h2) ob0)) (by kernel_rfl))
 ·exact zI (g := zue) g1 (zqc [(43, 1, 4, .q (xb false))] [] (ob (o_b h1) ob0) (by kernel_rfl))
noncomputable def z6t (p0 : za) (r : Bool) : TM := [(0, (.d (.agg (zb p0)))), (zsp 1), (2, (xb false)), (3, (xb r))]
noncomputable def zob (p0 : za) (r : Bool) : St := ⟨(z6t p0 r), ⟨[(zc 1 (zb p0))], []⟩, []⟩
theorem z6l (k : Nat) (p0 : za) (r : Bool) (h : zfd k p0 = some r) : ev TE 37 (rgn TE 37 1) ⟨[(0, (.d (.agg (zb p0)))), (zsp 1), (2, (xb false))], ⟨[(zc 1 (zb p0))], []⟩, []⟩ = some (.nor, zob p0 r) := by
 unfold zfd at h
 refine zj h (fun v201 h202 g1 => ?_)
 refine zm g1 (fun h203 g2 => ?_) (fun h203 g2 => ?_)
 ·refine zj g2 (fun v204 h205 g3 => ?_)
  refine zm g3 (fun h206 g4 => ?_) (fun h206 g4 => ?_)
  ·refine zj g4 (fun v207 h208 g5 => ?_)
   refine zm g5 (fun h209 g6 => ?_) (fun h209 g6 => ?_)
   ·refine zm g6 (fun h210 g7 => ?_) (fun h210 g7 => ?_)
    ·refine zm g7 (fun h211 g8 => ?_) (fun h211 g8 => ?_)
     ·exact zy (g := fun r => (Ex.nor, zob p0 r)) g8 (zqe [(37, 1, 1, .c (di v201)), (37, 1, 3, .q (xb true)), (37, 1, 6, .c (db v204)), (37, 1, 8, .q (xb true)), (37, 1, 11, .q (xi (p0.Shelves.1.length : Int))), (37, 1, 12, .c (db v207)), (37, 1, 14, .q (xb true)), (37, 1, 17, .q (xi (p0.Moves.1.length : Int))), (37, 1, 20, .q (xb true)), (37, 1, 23, .q (xi (p0.Deliveries.1.length : Int))), (37, 1, 26, .q (xb true)), (37, 1, 29, .q (xi (p0.Counts.1.length : Int)))] [] (ob (zCb k p0 _ h202) (ob (o_b h203) (ob (zG k p0.Days 1 12 _ h205) (ob (o_b h206) (ob (zw zk p0.Shelves.1) (ob (zG k (p0.Shelves.1.length : Int) 1 4 _ h208) (ob (o_b h209) (ob (zw zl p0.Moves.1) (ob (o_b h210) (ob (zw zh p0.Deliveries.1) (ob (o_b h211) (ob (zw zi p0.Counts.1) ob0)))))))))))) (by kernel_rfl))
     ·exact zy (g := fun r => (Ex.nor, zob p0 r)) g8 (zqe [(37, 1, 1, .c (di v201)), (37, 1, 3, .q (xb true)), (37, 1, 6, .c (db v204)), (37, 1, 8, .q (xb true)), (37, 1, 11, .q (xi (p0.Shelves.1.length : Int))), (37, 1, 12, .c (db v207)), (37, 1, 14, .q (xb true)), (37, 1, 17, .q (xi (p0.Moves.1.length : Int))), (37, 1, 20, .q (xb true)), (37, 1, 23, .q (xi (p0.Deliveries.1.length : Int))), (37, 1, 26, .q (xb false))] [] (ob (zCb k p0 _ h202) (ob (o_b h203) (ob (zG k p0.Days 1 12 _ h205) (ob (o_b h206) (ob (zw zk p0.Shelves.1) (ob (zG k (p0.Shelves.1.length : Int) 1 4 _ h208) (ob (o_b h209) (ob (zw zl p0.Moves.1) (ob (o_b h210) (ob (zw zh p0.Deliveries.1) (ob (o_b h211) ob0))))))))))) (by kernel_rfl))
    ·exact zy (g := fun r => (Ex.nor, zob p0 r)) g7 (zqe [(37, 1, 1, .c (di v201)), (37, 1, 3, .q (xb true)), (37, 1, 6, .c (db v204)), (37, 1, 8, .q (xb true)), (37, 1, 11, .q (xi (p0.Shelves.1.length : Int))), (37, 1, 12, .c (db v207)), (37, 1, 14, .q (xb true)), (37, 1, 17, .q (xi (p0.Moves.1.length : Int))), (37, 1, 20, .q (xb false))] [] (ob (zCb k p0 _ h202) (ob (o_b h203) (ob (zG k p0.Days 1 12 _ h205) (ob (o_b h206) (ob (zw zk p0.Shelves.1) (ob (zG k (p0.Shelves.1.length : Int) 1 4 _ h208) (ob (o_b h209) (ob (zw zl p0.Moves.1) (ob (o_b h210) ob0))))))))) (by kernel_rfl))
   ·exact zy (g := fun r => (Ex.nor, zob p0 r)) g6 (zqe [(37, 1, 1, .c (di v201)), (37, 1, 3, .q (xb true)), (37, 1, 6, .c (db v204)), (37, 1, 8, .q (xb true)), (37, 1, 11, .q (xi (p0.Shelves.1.length : Int))), (37, 1, 12, .c (db v207)), (37, 1, 14, .q (xb false))] [] (ob (zCb k p0 _ h202) (ob (o_b h203) (ob (zG k p0.Days 1 12 _ h205) (ob (o_b h206) (ob (zw zk p0.Shelves.1) (ob (zG k (p0.Shelves.1.length : Int) 1 4 _ h208) (ob (o_b h209) ob0))))))) (by kernel_rfl))
  ·exact zy (g := fun r => (Ex.nor, zob p0 r)) g4 (zqe [(37, 1, 1, .c (di v201)), (37, 1, 3, .q (xb true)), (37, 1, 6, .c (db v204)), (37, 1, 8, .q (xb false))] [] (ob (zCb k p0 _ h202) (ob (o_b h203) (ob (zG k p0.Days 1 12 _ h205) (ob (o_b h206) ob0)))) (by kernel_rfl))
 ·exact zy (g := fun r => (Ex.nor, zob p0 r)) g2 (zqe [(37, 1, 1, .c (di v201)), (37, 1, 3, .q (xb false))] [] (ob (zCb k p0 _ h202) (ob (o_b h203) ob0)) (by kernel_rfl))
noncomputable def zJC (p0 : za) (s2_6 : Bool) (s2_7 : Int) (r : Bool) : TM := [(0, (.d (.agg (zb p0)))), (zsp 1), (2, (xb false)), (3, (xb s2_6)), (4, (xi s2_7)), (50, (xb r))]
noncomputable def zWc (p0 : za) (s2_6 : Bool) (s2_7 : Int) (r : Bool) : St := ⟨(zJC p0 s2_6 s2_7 r), ⟨[(zc 1 (zb p0))], []⟩, []⟩
noncomputable def zmy (p0 : za) (s2_6 : Bool) (s2_7 : Int) : TM := [(0, (.d (.agg (zb p0)))), (zsp 1), (2, (xb false)), (3, (xb s2_6)), (4, (xi s2_7))]
theorem zDh (k : Nat) (p0 : za) (s2_6 : Bool) (s2_7 : Int) (r : Bool) (h : zyc k p0 s2_6 s2_7 = some r) : ev TE 37 (rgn TE 37 3) ⟨(zmy p0 s2_6 s2_7), ⟨[(zc 1 (zb p0))], []⟩, []⟩ = some (.nor, zWc p0 s2_6 s2_7 r) := by
 unfold zyc at h
 refine zm h (fun h601 g1 => ?_) (fun h601 g1 => ?_)
 ·exact zy (g := fun r => (Ex.nor, zWc p0 s2_6 s2_7 r)) g1 (zqe [(37, 3, 1, .q (xb true)), (37, 3, 5, .q (xi (p0.Shelves.1.length : Int)))] [] (ob (o_b h601) (ob (zw zk p0.Shelves.1) ob0)) (by kernel_rfl))
 ·exact zy (g := fun r => (Ex.nor, zWc p0 s2_6 s2_7 r)) g1 (zqe [(37, 3, 1, .q (xb false))] [] (ob (o_b h601) ob0) (by kernel_rfl))
noncomputable def zTd (p0 : za) (s2_6 : Bool) (s2_7 : Int) (r : Bool) : St := ⟨(z6t p0 r ++ [(4, (xi s2_7)), (50, (xb true))]), ⟨[(zc 1 (zb p0))], []⟩, []⟩
theorem z4l (k : Nat) (p0 : za) (s2_6 : Bool) (s2_7 : Int) (r : Bool) (h : zve k p0 s2_6 s2_7 = some r) : ev TE 37 (rgn TE 37 5) ⟨(zmy p0 s2_6 s2_7 ++ [(50, (xb true))]), ⟨[(zc 1 (zb p0))], []⟩, []⟩ = some (.nor, zTd p0 s2_6 s2_7 r) := by
 unfold zve at h
 refine zj h (fun v701 h702 g1 => ?_)
 refine zj g1 (fun v703 h704 g2 => ?_)
 refine zm g2 (fun h705 g3 => ?_) (fun h705 g3 => ?_)
 ·refine zj g3 (fun v706 h707 g4 => ?_)
  refine zj g4 (fun v708 h709 g5 => ?_)
  refine zj g5 (fun v710 h711 g6 => ?_)
  exact zy (g := fun r => (Ex.nor, zTd p0 s2_6 s2_7 r)) g6 (zqe [(37, 5, 3, .q (.d (.pin (zk v701)))), (37, 5, 6, .c (db v703)), (37, 5, 7, .q (xb true)), (37, 5, 11, .q (.d (.pin (zk v706)))), (37, 5, 17, .q (.d (.pin (zk v708)))), (37, 5, 20, .c (db v710))] [] (ob (o_ia (e := zk) 3 h702 rfl) (ob (zG k v701.Room 1 60 _ h704) (ob (o_b h705) (ob (o_ia (e := zk) 3 h707 rfl) (ob (o_ia (e := zk) 3 h709 rfl) (ob (z3c k v706.Begin 0 v708.Room _ h711) ob0)))))) (by kernel_rfl))
 ·exact zy (g := fun r => (Ex.nor, zTd p0 s2_6 s2_7 r)) g3 (zqe [(37, 5, 3, .q (.d (.pin (zk v701)))), (37, 5, 6, .c (db v703)), (37, 5, 7, .q (xb false))] [] (ob (o_ia (e := zk) 3 h702 rfl) (ob (zG k v701.Room 1 60 _ h704) (ob (o_b h705) ob0))) (by kernel_rfl))
noncomputable def zDm (p0 : za) (s2_6 : Bool) (s2_7 : Int) : St := ⟨(zmy p0 s2_6 s2_7), ⟨[(zc 1 (zb p0))], []⟩, []⟩
noncomputable def zmC (p0 : za) (r : zt1) : TM := [(0, (.d (.agg (zb p0)))), (zsp 1), (2, (xb false)), (3, (xb r.1)), (4, (xi r.2)), (50, (xb false))]
noncomputable def z8e (p0 : za) (r : zt1) : St := ⟨(zmC p0 r), ⟨[(zc 1 (zb p0))], []⟩, []⟩
noncomputable def zEm (p0 : za) : (Bool × Int) → Ex × St := fun r => ((.exit 0), z8e p0 r)
theorem zYl (k : Nat) (p0 : za) (s2_6 : Bool) (s2_7 : Int) (x : (Bool × Int) ⊕ (Bool × Int)) (h : zxc k p0 s2_6 s2_7 = some x) : zO TE 37 (blk TE 37 0) (fun s : (Bool × Int) => zDm p0 s.1 s.2) (zEm p0) (s2_6, s2_7) x := by
 unfold zxc at h
 refine zj h (fun v501 h502 g1 => ?_)
 refine zm g1 (fun h503 g2 => ?_) (fun h503 g2 => ?_)
 ·subst h503
  refine zj g2 (fun v504 h505 g3 => ?_)
  exact zqn (v504, (w64 (s2_7 + 1))) [] [] [(37, 1000003, (.nor, zWc p0 s2_6 s2_7 true)), (37, 1000005, (.nor, zTd p0 s2_6 s2_7 v504))] g3 (ob (zDh k p0 s2_6 s2_7 _ h502) (ob (z4l k p0 s2_6 s2_7 _ h505) ob0)) (by kernel_rfl)
 ·subst h503
  exact zqo [] [(37, 1000003, (.nor, zWc p0 s2_6 s2_7 false))] g2 (ob (zDh k p0 s2_6 s2_7 _ h502) ob0) (by kernel_rfl)
noncomputable def zyC (p0 : za) (s7_6 : Bool) (v3 : zt1) (s7_9 : Int) (r : Bool) : TM := [(0, (.d (.agg (zb p0)))), (zsp 1), (2, (xb false)), (3, (xb s7_6)), (4, (xi v3.2)), (50, (xb false)), (5, (xi s7_9)), (82, (xb r))]
noncomputable def zDc (p0 : za) (v3 : zt1) (s7_6 : Bool) (s7_9 : Int) (r : Bool) : St := ⟨(zyC p0 s7_6 v3 s7_9 r), ⟨[(zc 1 (zb p0))], []⟩, []⟩
noncomputable def zwx (p0 : za) (s7_6 : Bool) (v3 : zt1) (s7_9 : Int) : TM := [(0, (.d (.agg (zb p0)))), (zsp 1), (2, (xb false)), (3, (xb s7_6)), (4, (xi v3.2)), (50, (xb false)), (5, (xi s7_9))]
theorem zlh (k : Nat) (p0 : za) (v3 : zt1) (s7_6 : Bool) (s7_9 : Int) (r : Bool) (h : zkc k p0 v3 s7_6 s7_9 = some r) : ev TE 37 (rgn TE 37 7) ⟨(zwx p0 s7_6 v3 s7_9), ⟨[(zc 1 (zb p0))], []⟩, []⟩ = some (.nor, zDc p0 v3 s7_6 s7_9 r) := by
 unfold zkc at h
 refine zm h (fun h1101 g1 => ?_) (fun h1101 g1 => ?_)
 ·exact zy (g := fun r => (Ex.nor, zDc p0 v3 s7_6 s7_9 r)) g1 (zqe [(37, 7, 1, .q (xb true)), (37, 7, 5, .q (xi (p0.Moves.1.length : Int)))] [] (ob (o_b h1101) (ob (zw zl p0.Moves.1) ob0)) (by kernel_rfl))
 ·exact zy (g := fun r => (Ex.nor, zDc p0 v3 s7_6 s7_9 r)) g1 (zqe [(37, 7, 1, .q (xb false))] [] (ob (o_b h1101) ob0) (by kernel_rfl))
noncomputable def zeD (p0 : za) (r : Bool) (v3 : zt1) (s7_9 : Int) : TM := z6t p0 r ++ [(4, (xi v3.2)), (50, (xb false)), (5, (xi s7_9)), (82, (xb true)), (zsp 6)]
noncomputable def zEc (p0 : za) (v3 : zt1) (s7_6 : Bool) (s7_9 : Int) (v1004 : zx) (r : Bool) : St := ⟨(zeD p0 r v3 s7_9), ⟨[(zc 1 (zb p0)), (zc 6 (zl v1004))], []⟩, []⟩
theorem zkl (k : Nat) (p0 : za) (v3 : zt1) (s7_6 : Bool) (s7_9 : Int) (v1004 : zx) (r : Bool) (h : z6d k p0 v3 s7_6 s7_9 v1004 = some r) : ev TE 37 (rgn TE 37 10) ⟨(zwx p0 s7_6 v3 s7_9 ++ [(82, (xb true)), (zsp 6)]), ⟨[(zc 1 (zb p0)), (zc 6 (zl v1004))], []⟩, []⟩ = some (.nor, zEc p0 v3 s7_6 s7_9 v1004 r) := by
 unfold z6d at h
 refine zj h (fun v1201 h1202 g1 => ?_)
 refine zm g1 (fun h1203 g2 => ?_) (fun h1203 g2 => ?_)
 ·refine zj g2 (fun v1204 h1205 g3 => ?_)
  refine zm g3 (fun h1206 g4 => ?_) (fun h1206 g4 => ?_)
  ·refine zj g4 (fun v1207 h1208 g5 => ?_)
   exact zy (g := fun r => (Ex.nor, zEc p0 v3 s7_6 s7_9 v1004 r)) g5 (zqe [(37, 10, 5, .c (db v1201)), (37, 10, 6, .q (xb true)), (37, 10, 11, .q (xi (p0.Shelves.1.length : Int))), (37, 10, 13, .c (db v1204)), (37, 10, 15, .q (xb true)), (37, 10, 18, .c (db v1207))] [] (ob (zG k v1004.Day 0 (w64 (p0.Days - 1)) _ h1202) (ob (o_b h1203) (ob (zw zk p0.Shelves.1) (ob (zG k v1004.Shelf 0 (w64 ((p0.Shelves.1.length : Int) - 1)) _ h1205) (ob (o_b h1206) (ob (z3c k v1004.By 0 60 _ h1208) ob0)))))) (by kernel_rfl))
  ·exact zy (g := fun r => (Ex.nor, zEc p0 v3 s7_6 s7_9 v1004 r)) g4 (zqe [(37, 10, 5, .c (db v1201)), (37, 10, 6, .q (xb true)), (37, 10, 11, .q (xi (p0.Shelves.1.length : Int))), (37, 10, 13, .c (db v1204)), (37, 10, 15, .q (xb false))] [] (ob (zG k v1004.Day 0 (w64 (p0.Days - 1)) _ h1202) (ob (o_b h1203) (ob (zw zk p0.Shelves.1) (ob (zG k v1004.Shelf 0 (w64 ((p0.Shelves.1.length : Int) - 1)) _ h1205) (ob (o_b h1206) ob0))))) (by kernel_rfl))
 ·exact zy (g := fun r => (Ex.nor, zEc p0 v3 s7_6 s7_9 v1004 r)) g2 (zqe [(37, 10, 5, .c (db v1201)), (37, 10, 6, .q (xb false))] [] (ob (zG k v1004.Day 0 (w64 (p0.Days - 1)) _ h1202) (ob (o_b h1203) ob0)) (by kernel_rfl))
noncomputable def zkm (p0 : za) (v3 : zt1) (s7_6 : Bool) (s7_9 : Int) : St := ⟨(zwx p0 s7_6 v3 s7_9), ⟨[(zc 1 (zb p0))], []⟩, []⟩
noncomputable def zSC (p0 : za) (r v3 : zt1) : TM := [(0, (.d (.agg (zb p0)))), (zsp 1), (2, (xb false)), (3, (xb r.1)), (4, (xi v3.2)), (50, (xb false)), (5, (xi r.2)), (82, (xb false))]
noncomputable def zbf (p0 : za) (v3 r : zt1) : St := ⟨(zSC p0 r v3), ⟨[(zc 1 (zb p0))], []⟩, []⟩
noncomputable def zom (p0 : za) (v3 : zt1) : (Bool × Int) → Ex × St := fun r => ((.exit 2), zbf p0 v3 r)
theorem zPl (k : Nat) (p0 : za) (v3 : zt1) (s7_6 : Bool) (s7_9 : Int) (x : (Bool × Int) ⊕ (Bool × Int)) (h : zzc k p0 v3 s7_6 s7_9 = some x) : zO TE 37 (blk TE 37 2) (fun s : (Bool × Int) => zkm p0 v3 s.1 s.2) (zom p0 v3) (s7_6, s7_9) x := by
 unfold zzc at h
 refine zj h (fun v1001 h1002 g1 => ?_)
 refine zm g1 (fun h1003 g2 => ?_) (fun h1003 g2 => ?_)
 ·subst h1003
  refine zj g2 (fun v1004 h1005 g3 => ?_)
  refine zj g3 (fun v1006 h1007 g4 => ?_)
  exact zqn (v1006, (w64 (s7_9 + 1))) [] [(37, 9, 3, .q (.d (.pin (zl v1004))))] [(37, 1000007, (.nor, zDc p0 v3 s7_6 s7_9 true)), (37, 1000010, (.nor, zEc p0 v3 s7_6 s7_9 v1004 v1006))] g4 (ob (zlh k p0 v3 s7_6 s7_9 _ h1002) (ob (o_ia (e := zl) 5 h1005 rfl) (ob (zkl k p0 v3 s7_6 s7_9 v1004 _ h1007) ob0))) (by kernel_rfl)
 ·subst h1003
  exact zqo [] [(37, 1000007, (.nor, zDc p0 v3 s7_6 s7_9 false))] g2 (ob (zlh k p0 v3 s7_6 s7_9 _ h1002) ob0) (by kernel_rfl)
noncomputable def zzC (p0 : za) (s12_6 : Bool) (v3 v5 : zt1) (s12_11 : Int) (r : Bool) : TM := [(0, (.d (.agg (zb p0)))), (zsp 1), (2, (xb false)), (3, (xb s12_6)), (4, (xi v3.2)), (50, (xb false)), (5, (xi v5.2)), (82, (xb false)), (7, (xi s12_11)), (117, (xb r))]
noncomputable def zCc (p0 : za) (v3 v5 : zt1) (s12_6 : Bool) (s12_11 : Int) (r : Bool) : St := ⟨(zzC p0 s12_6 v3 v5 s12_11 r), ⟨[(zc 1 (zb p0))], []⟩, []⟩
noncomputable def zWx (p0 : za) (s12_6 : Bool) (v3 v5 : zt1) (s12_11 : Int) : TM := [(0, (.d (.agg (zb p0)))), (zsp 1), (2, (xb false)), (3, (xb s12_6)), (4, (xi v3.2)), (50, (xb false)), (5, (xi v5.2)), (82, (xb false)), (7, (xi s12_11))]
theorem zoh (k : Nat) (p0 : za) (v3 v5 : zt1) (s12_6 : Bool) (s12_11 : Int) (r : Bool) (h : zrc k p0 v3 v5 s12_6 s12_11 = some r) : ev TE 37 (rgn TE 37 12) ⟨(zWx p0 s12_6 v3 v5 s12_11), ⟨[(zc 1 (zb p0))], []⟩, []⟩ = some (.nor, zCc p0 v3 v5 s12_6 s12_11 r) := by
 unfold zrc at h
 refine zm h (fun h1601 g1 => ?_) (fun h1601 g1 => ?_)
 ·exact zy (g := fun r => (Ex.nor, zCc p0 v3 v5 s12_6 s12_11 r)) g1 (zqe [(37, 12, 1, .q (xb true)), (37, 12, 5, .q (xi (p0.Deliveries.1.length : Int)))] [] (ob (o_b h1601) (ob (zw zh p0.Deliveries.1) ob0)) (by kernel_rfl))
 ·exact zy (g := fun r => (Ex.nor, zCc p0 v3 v5 s12_6 s12_11 r)) g1 (zqe [(37, 12, 1, .q (xb false))] [] (ob (o_b h1601) ob0) (by kernel_rfl))
noncomputable def zdD (p0 : za) (r : Bool) (v3 v5 : zt1) (s12_11 : Int) : TM := z6t p0 r ++ [(4, (xi v3.2)), (50, (xb false)), (5, (xi v5.2)), (82, (xb false)), (7, (xi s12_11)), (117, (xb true)), (zsp 8)]
noncomputable def zHc (p0 : za) (v3 v5 : zt1) (s12_6 : Bool) (s12_11 : Int) (v1504 : zu) (r : Bool) : St := ⟨(zdD p0 r v3 v5 s12_11), ⟨[(zc 1 (zb p0)), (zc 8 (zh v1504))], []⟩, []⟩
theorem zrl (k : Nat) (p0 : za) (v3 v5 : zt1) (s12_6 : Bool) (s12_11 : Int) (v1504 : zu) (r : Bool) (h : z8d k p0 v3 v5 s12_6 s12_11 v1504 = some r) : ev TE 37 (rgn TE 37 15) ⟨(zWx p0 s12_6 v3 v5 s12_11 ++ [(117, (xb true)), (zsp 8)]), ⟨[(zc 1 (zb p0)), (zc 8 (zh v1504))], []⟩, []⟩ = some (.nor, zHc p0 v3 v5 s12_6 s12_11 v1504 r) := by
 unfold z8d at h
 refine zj h (fun v1701 h1702 g1 => ?_)
 refine zm g1 (fun h1703 g2 => ?_) (fun h1703 g2 => ?_)
 ·refine zj g2 (fun v1704 h1705 g3 => ?_)
  refine zm g3 (fun h1706 g4 => ?_) (fun h1706 g4 => ?_)
  ·refine zj g4 (fun v1707 h1708 g5 => ?_)
   exact zy (g := fun r => (Ex.nor, zHc p0 v3 v5 s12_6 s12_11 v1504 r)) g5 (zqe [(37, 15, 4, .q (xi (p0.Shelves.1.length : Int))), (37, 15, 6, .c (db v1701)), (37, 15, 7, .q (xb true)), (37, 15, 13, .c (db v1704)), (37, 15, 15, .q (xb true)), (37, 15, 18, .c (db v1707))] [] (ob (zw zk p0.Shelves.1) (ob (zG k v1504.Shelf 0 (w64 ((p0.Shelves.1.length : Int) - 1)) _ h1702) (ob (o_b h1703) (ob (z3c k v1504.Days 0 (w64 (p0.Days - 1)) _ h1705) (ob (o_b h1706) (ob (z3c k v1504.By 0 60 _ h1708) ob0)))))) (by kernel_rfl))
  ·exact zy (g := fun r => (Ex.nor, zHc p0 v3 v5 s12_6 s12_11 v1504 r)) g4 (zqe [(37, 15, 4, .q (xi (p0.Shelves.1.length : Int))), (37, 15, 6, .c (db v1701)), (37, 15, 7, .q (xb true)), (37, 15, 13, .c (db v1704)), (37, 15, 15, .q (xb false))] [] (ob (zw zk p0.Shelves.1) (ob (zG k v1504.Shelf 0 (w64 ((p0.Shelves.1.length : Int) - 1)) _ h1702) (ob (o_b h1703) (ob (z3c k v1504.Days 0 (w64 (p0.Days - 1)) _ h1705) (ob (o_b h1706) ob0))))) (by kernel_rfl))
 ·exact zy (g := fun r => (Ex.nor, zHc p0 v3 v5 s12_6 s12_11 v1504 r)) g2 (zqe [(37, 15, 4, .q (xi (p0.Shelves.1.length : Int))), (37, 15, 6, .c (db v1701)), (37, 15, 7, .q (xb false))] [] (ob (zw zk p0.Shelves.1) (ob (zG k v1504.Shelf 0 (w64 ((p0.Shelves.1.length : Int) - 1)) _ h1702) (ob (o_b h1703) ob0))) (by kernel_rfl))
noncomputable def zUl (p0 : za) (v3 v5 : zt1) (s12_6 : Bool) (s12_11 : Int) : St := ⟨(zWx p0 s12_6 v3 v5 s12_11), ⟨[(zc 1 (zb p0))], []⟩, []⟩
noncomputable def zDC (p0 : za) (r v3 v5 : zt1) : TM := [(0, (.d (.agg (zb p0)))), (zsp 1), (2, (xb false)), (3, (xb r.1)), (4, (xi v3.2)), (50, (xb false)), (5, (xi v5.2)), (82, (xb false)), (7, (xi r.2)), (117, (xb false))]
noncomputable def zRe (p0 : za) (v3 v5 r : zt1) : St := ⟨(zDC p0 r v3 v5), ⟨[(zc 1 (zb p0))], []⟩, []⟩
noncomputable def zWl (p0 : za) (v3 v5 : zt1) : (Bool × Int) → Ex × St := fun r => ((.exit 4), zRe p0 v3 v5 r)
theorem zll (k : Nat) (p0 : za) (v3 v5 : zt1) (s12_6 : Bool) (s12_11 : Int) (x : (Bool × Int) ⊕ (Bool × Int)) (h : zoc k p0 v3 v5 s12_6 s12_11 = some x) : zO TE 37 (blk TE 37 4) (fun s : (Bool × Int) => zUl p0 v3 v5 s.1 s.2) (zWl p0 v3 v5) (s12_6, s12_11) x := by
 unfold zoc at h
 refine zj h (fun v1501 h1502 g1 => ?_)
 refine zm g1 (fun h1503 g2 => ?_) (fun h1503 g2 => ?_)
 ·subst h1503
  refine zj g2 (fun v1504 h1505 g3 => ?_)
  refine zj g3 (fun v1506 h1507 g4 => ?_)
  exact zqn (v1506, (w64 (s12_11 + 1))) [] [(37, 14, 3, .q (.d (.pin (zh v1504))))] [(37, 1000012, (.nor, zCc p0 v3 v5 s12_6 s12_11 true)), (37, 1000015, (.nor, zHc p0 v3 v5 s12_6 s12_11 v1504 v1506))] g4 (ob (zoh k p0 v3 v5 s12_6 s12_11 _ h1502) (ob (o_ia (e := zh) 5 h1505 rfl) (ob (zrl k p0 v3 v5 s12_6 s12_11 v1504 _ h1507) ob0))) (by kernel_rfl)
 ·subst h1503
  exact zqo [] [(37, 1000012, (.nor, zCc p0 v3 v5 s12_6 s12_11 false))] g2 (ob (zoh k p0 v3 v5 s12_6 s12_11 _ h1502) ob0) (by kernel_rfl)
noncomputable def zOC (p0 : za) (s17_6 : Bool) (v3 v5 v7 : zt1) (s17_13 : Int) (r : Bool) : TM := [(0, (.d (.agg (zb p0)))), (zsp 1), (2, (xb false)), (3, (xb s17_6)), (4, (xi v3.2)), (50, (xb false)), (5, (xi v5.2)), (82, (xb false)), (7, (xi v7.2)), (117, (xb false)), (9, (xi s17_13)), (152, (xb r))]
noncomputable def zFc (p0 : za) (v3 v5 v7 : zt1) (s17_6 : Bool) (s17_13 : Int) (r : Bool) : St := ⟨(zOC p0 s17_6 v3 v5 v7 s17_13 r), ⟨[(zc 1 (zb p0))], []⟩, []⟩
noncomputable def zJx (p0 : za) (s17_6 : Bool) (v3 v5 v7 : zt1) (s17_13 : Int) : TM := [(0, (.d (.agg (zb p0)))), (zsp 1), (2, (xb false)), (3, (xb s17_6)), (4, (xi v3.2)), (50, (xb false)), (5, (xi v5.2)), (82, (xb false)), (7, (xi v7.2)), (117, (xb false)), (9, (xi s17_13))]
theorem zqh (k : Nat) (p0 : za) (v3 v5 v7 : zt1) (s17_6 : Bool) (s17_13 : Int) (r : Bool) (h : zpc k p0 v3 v5 v7 s17_6 s17_13 = some r) : ev TE 37 (rgn TE 37 17) ⟨(zJx p0 s17_6 v3 v5 v7 s17_13), ⟨[(zc 1 (zb p0))], []⟩, []⟩ = some (.nor, zFc p0 v3 v5 v7 s17_6 s17_13 r) := by
 unfold zpc at h
 refine zm h (fun h2101 g1 => ?_) (fun h2101 g1 => ?_)
 ·exact zy (g := fun r => (Ex.nor, zFc p0 v3 v5 v7 s17_6 s17_13 r)) g1 (zqe [(37, 17, 1, .q (xb true)), (37, 17, 5, .q (xi (p0.Counts.1.length : Int)))] [] (ob (o_b h2101) (ob (zw zi p0.Counts.1) ob0)) (by kernel_rfl))
 ·exact zy (g := fun r => (Ex.nor, zFc p0 v3 v5 v7 s17_6 s17_13 r)) g1 (zqe [(37, 17, 1, .q (xb false))] [] (ob (o_b h2101) ob0) (by kernel_rfl))
noncomputable def z5C (p0 : za) (r : Bool) (v3 v5 v7 : zt1) (s17_13 : Int) : TM := z6t p0 r ++ [(4, (xi v3.2)), (50, (xb false)), (5, (xi v5.2)), (82, (xb false)), (7, (xi v7.2)), (117, (xb false)), (9, (xi s17_13)), (152, (xb true)), (zsp 10)]
noncomputable def zTb (p0 : za) (v3 v5 v7 : zt1) (s17_6 : Bool) (s17_13 : Int) (v2004 : zo) (r : Bool) : St := ⟨(z5C p0 r v3 v5 v7 s17_13), ⟨[(zc 1 (zb p0)), (zc 10 (zi v2004))], []⟩, []⟩
theorem zgl (k : Nat) (p0 : za) (v3 v5 v7 : zt1) (s17_6 : Bool) (s17_13 : Int) (v2004 : zo) (r : Bool) (h : zae k p0 v3 v5 v7 s17_6 s17_13 v2004 = some r) : ev TE 37 (rgn TE 37 20) ⟨(zJx p0 s17_6 v3 v5 v7 s17_13 ++ [(152, (xb true)), (zsp 10)]), ⟨[(zc 1 (zb p0)), (zc 10 (zi v2004))], []⟩, []⟩ = some (.nor, zTb p0 v3 v5 v7 s17_6 s17_13 v2004 r) := by
 unfold zae at h
 refine zj h (fun v2201 h2202 g1 => ?_)
 refine zm g1 (fun h2203 g2 => ?_) (fun h2203 g2 => ?_)
 ·refine zj g2 (fun v2204 h2205 g3 => ?_)
  refine zm g3 (fun h2206 g4 => ?_) (fun h2206 g4 => ?_)
  ·refine zj g4 (fun v2207 h2208 g5 => ?_)
   refine zm g5 (fun h2209 g6 => ?_) (fun h2209 g6 => ?_)
   ·refine zj g6 (fun v2210 h2211 g7 => ?_)
    exact zy (g := fun r => (Ex.nor, zTb p0 v3 v5 v7 s17_6 s17_13 v2004 r)) g7 (zqe [(37, 20, 5, .c (db v2201)), (37, 20, 6, .q (xb true)), (37, 20, 11, .q (xi (p0.Shelves.1.length : Int))), (37, 20, 13, .c (db v2204)), (37, 20, 15, .q (xb true)), (37, 20, 18, .c (db v2207)), (37, 20, 20, .q (xb true)), (37, 20, 23, .c (db v2210))] [] (ob (zG k v2004.Day 0 (w64 (p0.Days - 1)) _ h2202) (ob (o_b h2203) (ob (zw zk p0.Shelves.1) (ob (zG k v2004.Shelf 0 (w64 ((p0.Shelves.1.length : Int) - 1)) _ h2205) (ob (o_b h2206) (ob (zG k v2004.Read 0 60 _ h2208) (ob (o_b h2209) (ob (zG k v2004.Err 0 20 _ h2211) ob0)))))))) (by kernel_rfl))
   ·exact zy (g := fun r => (Ex.nor, zTb p0 v3 v5 v7 s17_6 s17_13 v2004 r)) g6 (zqe [(37, 20, 5, .c (db v2201)), (37, 20, 6, .q (xb true)), (37, 20, 11, .q (xi (p0.Shelves.1.length : Int))), (37, 20, 13, .c (db v2204)), (37, 20, 15, .q (xb true)), (37, 20, 18, .c (db v2207)), (37, 20, 20, .q (xb false))] [] (ob (zG k v2004.Day 0 (w64 (p0.Days - 1)) _ h2202) (ob (o_b h2203) (ob (zw zk p0.Shelves.1) (ob (zG k v2004.Shelf 0 (w64 ((p0.Shelves.1.length : Int) - 1)) _ h2205) (ob (o_b h2206) (ob (zG k v2004.Read 0 60 _ h2208) (ob (o_b h2209) ob0))))))) (by kernel_rfl))
  ·exact zy (g := fun r => (Ex.nor, zTb p0 v3 v5 v7 s17_6 s17_13 v2004 r)) g4 (zqe [(37, 20, 5, .c (db v2201)), (37, 20, 6, .q (xb true)), (37, 20, 11, .q (xi (p0.Shelves.1.length : Int))), (37, 20, 13, .c (db v2204)), (37, 20, 15, .q (xb false))] [] (ob (zG k v2004.Day 0 (w64 (p0.Days - 1)) _ h2202) (ob (o_b h2203) (ob (zw zk p0.Shelves.1) (ob (zG k v2004.Shelf 0 (w64 ((p0.Shelves.1.length : Int) - 1)) _ h2205) (ob (o_b h2206) ob0))))) (by kernel_rfl))
 ·exact zy (g := fun r => (Ex.nor, zTb p0 v3 v5 v7 s17_6 s17_13 v2004 r)) g2 (zqe [(37, 20, 5, .c (db v2201)), (37, 20, 6, .q (xb false))] [] (ob (zG k v2004.Day 0 (w64 (p0.Days - 1)) _ h2202) (ob (o_b h2203) ob0)) (by kernel_rfl))
noncomputable def z1l (p0 : za) (v3 v5 v7 : zt1) (s17_6 : Bool) (s17_13 : Int) : St := ⟨(zJx p0 s17_6 v3 v5 v7 s17_13), ⟨[(zc 1 (zb p0))], []⟩, []⟩
noncomputable def z8B (p0 : za) (r v3 v5 v7 : zt1) : TM := [(0, (.d (.agg (zb p0)))), (zsp 1), (2, (xb false)), (3, (xb r.1)), (4, (xi v3.2)), (50, (xb false)), (5, (xi v5.2)), (82, (xb false)), (7, (xi v7.2)), (117, (xb false)), (9, (xi r.2)), (152, (xb false))]
noncomputable def zPe (p0 : za) (v3 v5 v7 r : zt1) : St := ⟨(z8B p0 r v3 v5 v7), ⟨[(zc 1 (zb p0))], []⟩, []⟩
noncomputable def zQl (p0 : za) (v3 v5 v7 : zt1) : (Bool × Int) → Ex × St := fun r => ((.exit 6), zPe p0 v3 v5 v7 r)
theorem zhl (k : Nat) (p0 : za) (v3 v5 v7 : zt1) (s17_6 : Bool) (s17_13 : Int) (x : (Bool × Int) ⊕ (Bool × Int)) (h : znc k p0 v3 v5 v7 s17_6 s17_13 = some x) : zO TE 37 (blk TE 37 6) (fun s : (Bool × Int) => z1l p0 v3 v5 v7 s.1 s.2) (zQl p0 v3 v5 v7) (s17_6, s17_13) x := by
 unfold znc at h
 refine zj h (fun v2001 h2002 g1 => ?_)
 refine zm g1 (fun h2003 g2 => ?_) (fun h2003 g2 => ?_)
 ·subst h2003
  refine zj g2 (fun v2004 h2005 g3 => ?_)
  refine zj g3 (fun v2006 h2007 g4 => ?_)
  exact zqn (v2006, (w64 (s17_13 + 1))) [] [(37, 19, 3, .q (.d (.pin (zi v2004))))] [(37, 1000017, (.nor, zFc p0 v3 v5 v7 s17_6 s17_13 true)), (37, 1000020, (.nor, zTb p0 v3 v5 v7 s17_6 s17_13 v2004 v2006))] g4 (ob (zqh k p0 v3 v5 v7 s17_6 s17_13 _ h2002) (ob (o_ia (e := zi) 4 h2005 rfl) (ob (zgl k p0 v3 v5 v7 s17_6 s17_13 v2004 _ h2007) ob0))) (by kernel_rfl)
 ·subst h2003
  exact zqo [] [(37, 1000017, (.nor, zFc p0 v3 v5 v7 s17_6 s17_13 false))] g2 (ob (zqh k p0 v3 v5 v7 s17_6 s17_13 _ h2002) ob0) (by kernel_rfl)
theorem zSb (k : Nat) (p0 : za) (r : Bool) (h : zhe k p0 = some r) : zL TE (ev TE) 37 [(.agg (zb p0))] = some (z0i r) := by
 unfold zhe at h
 refine zj h (fun v1 h2 g1 => ?_)
 refine zj g1 (fun v3 h4 g2 => ?_)
 refine zj g2 (fun v5 h6 g3 => ?_)
 refine zj g3 (fun v7 h8 g4 => ?_)
 refine zj g4 (fun v9 h10 g5 => ?_)
 exact zI (g := z0i) g5 (zqc [] [(37, 1000001, (.nor, zob p0 v1)), (37, 0, (.nor, z8e p0 v3)), (37, 2, (.nor, zbf p0 v3 v5)), (37, 4, (.nor, zRe p0 v3 v5 v7)), (37, 6, (.nor, zPe p0 v3 v5 v7 v9))] (ob (z6l k p0 _ h2) (ob (zF (id := 0) (r' := (.nor, z8e p0 v3)) (zbc (zYl k p0) k _ _ h4) rfl) (ob (zF (id := 2) (r' := (.nor, zbf p0 v3 v5)) (zbc (zPl k p0 v3) k _ _ h6) rfl) (ob (zF (id := 4) (r' := (.nor, zRe p0 v3 v5 v7)) (zbc (zll k p0 v3 v5) k _ _ h8) rfl) (ob (zF (id := 6) (r' := (.nor, zPe p0 v3 v5 v7 v9)) (zbc (zhl k p0 v3 v5 v7) k _ _ h10) rfl) ob0))))) (by kernel_rfl))
theorem zQ (k : Nat) (p0 p1 : Int) (r : zr) (h : zcb k p0 p1 = some r) : zL TE (ev TE) 42 [(di p0), (di p1)] = some (zel r) := by
 unfold zcb at h
 exact zI (g := zel) h (zqc [] [] ob0 (by kernel_rfl))
theorem zN (k : Nat) (p0 p1 p2 p3 : Int) (r : zo) (h : zdd k p0 p1 p2 p3 = some r) : zL TE (ev TE) 44 [(di p0), (di p1), (di p2), (di p3)] = some (zYi r) := by
 unfold zdd at h
 exact zI (g := zYi) h (zqc [] [] ob0 (by kernel_rfl))
theorem zp (k : Nat) (p0 : (SL zo)) (r : za) (h : zzb k p0 = some r) : zL TE (ev TE) 50 [(dl zi p0.1 p0.2)] = some (zGj r) := by
 unfold zzb at h
 refine zj h (fun v1 h2 g1 => ?_)
 refine zj g1 (fun v3 h4 g2 => ?_)
 refine zj g2 (fun v5 h6 g3 => ?_)
 refine zj g3 (fun v7 h8 g4 => ?_)
 refine zj g4 (fun v9 h10 g5 => ?_)
 refine zj g5 (fun v11 h12 g6 => ?_)
 refine zj g6 (fun v13 h14 g7 => ?_)
 refine zj g7 (fun v15 h16 g8 => ?_)
 refine zj g8 (fun v17 h18 g9 => ?_)
 refine zj g9 (fun v19 h20 g10 => ?_)
 refine zR g10 (fun h21 g11 => ?_)
 exact zI (g := zGj) g11 (zqc [(50, 1, 0, .c (.agg [(di v1.Low), (di v1.High)])), (50, 1, 2, .c (.agg [(di v3.Low), (di v3.High)])), (50, 1, 5, .c (.agg [(di v5.Low), (di v5.High)])), (50, 1, 7, .c (.agg [(di v7.Low), (di v7.High)])), (50, 1, 9, .c (.agg [(di v9.Low), (di v9.High)])), (50, 1, 11, .c (.agg [(di v11.Low), (di v11.High)])), (50, 1, 14, .c (.agg [(di v13.Low), (di v13.High)])), (50, 1, 15, .c (.agg [(di v15.Low), (di v15.High)])), (50, 1, 18, .c (.agg (zi v17))), (50, 1, 19, .c (.agg (zi v19))), (50, 2, 3, .q (.d (dl zi (([v17, v19] : List zo) ++ p0.1) (cond p0.1.isEmpty .ex .ro))))] [] (ob (zQ k 10 12 _ h2) (ob (zQ k 5 5 _ h4) (ob (zQ k 3 4 _ h6) (ob (zQ k 5 8 _ h8) (ob (zQ k 0 2 _ h10) (ob (zQ k 2 2 _ h12) (ob (zQ k 1 3 _ h14) (ob (zQ k 10 10 _ h16) (ob (zN k 2 0 12 2 _ h18) (ob (zN k 1 1 3 0 _ h20) (ob (zeA (P := TE.P) (φ := fun _ _ => none) (T := 25) (q := (4, [(di 0), (di 0), (di 0), (di 0)])) (c := .ex) (c' := p0.2) (e := zi) ([v17, v19] : List zo) p0.1 (by kernel_rfl) (fun _ => rfl) rfl h21) ob0))))))))))) (by kernel_rfl))
theorem zOd (k : Nat) (p0 : za) (p1 p2 : Int) (r : Bool) (h : zpf k p0 p1 p2 = some r) : zL TE (ev TE) 52 [(.agg (zb p0)), (di p1), (di p2)] = some (zrk r) := by
 unfold zpf at h
 refine zj h (fun v1 h2 g1 => ?_)
 refine zm g1 (fun h3 g2 => ?_) (fun h3 g2 => ?_)
 ·refine zj g2 (fun v4 h5 g3 => ?_)
  exact zI (g := zrk) g3 (zqc [(52, 1, 3, .q (xi (p0.Shelves.1.length : Int))), (52, 1, 5, .c (db v1)), (52, 1, 6, .q (xb true)), (52, 1, 11, .c (db v4))] [] (ob (zw zk p0.Shelves.1) (ob (zE k p1 0 (w64 ((p0.Shelves.1.length : Int) - 1)) _ h2) (ob (o_b h3) (ob (zE k p2 0 (w64 (p0.Days - 1)) _ h5) ob0)))) (by kernel_rfl))
 ·exact zI (g := zrk) g2 (zqc [(52, 1, 3, .q (xi (p0.Shelves.1.length : Int))), (52, 1, 5, .c (db v1)), (52, 1, 6, .q (xb false))] [] (ob (zw zk p0.Shelves.1) (ob (zE k p1 0 (w64 ((p0.Shelves.1.length : Int) - 1)) _ h2) (ob (o_b h3) ob0))) (by kernel_rfl))
noncomputable def zrC (p0 : zd) (s1_7 : Int) : TM := [(0, (.d (.agg (zn p0)))), (zsp 1), (zsp 2), (zsp 3), (4, (xi s1_7))]
noncomputable def zVn (p0 : zd) (s1_7 : Int) (s1_16 : zt0) : St := ⟨(zrC p0 s1_7), ⟨[(zc 1 (zn p0)), (zc 2 (aB 61 (fun _ => false))), (zc 3 (aB 61 s1_16))], []⟩, []⟩
noncomputable def zFC (p0 : zd) (r : zt15) : TM := [(0, (.d (.agg (zn p0)))), (zsp 1), (zsp 2), (zsp 3), (4, (xi r.1)), (24, (xb false))]
noncomputable def zsg (p0 : zd) (r : zt15) : St := ⟨(zFC p0 r), ⟨[(zc 1 (zn p0)), (zc 2 (aB 61 (fun _ => false))), (zc 3 (aB 61 r.2))], []⟩, []⟩
noncomputable def zgo (p0 : zd) : (Int × (Nat → Bool)) → Ex × St := fun r => ((.exit 0), zsg p0 r)
theorem zln (k : Nat) (p0 : zd) (s1_7 : Int) (s1_16 : zt0) (x : (Int × (Nat → Bool)) ⊕ (Int × (Nat → Bool))) (h : zge k p0 s1_7 s1_16 = some x) : zO TE 90 (blk TE 90 0) (fun s : (Int × (Nat → Bool)) => zVn p0 s.1 s.2) (zgo p0) (s1_7, s1_16) x := by
 unfold zge at h
 refine zj h (fun v201 h202 g1 => ?_)
 refine zm g1 (fun h203 g2 => ?_) (fun h203 g2 => ?_)
 ·refine zR g2 (fun h204 g3 => ?_)
  exact zqn ((w64 (s1_7 + 1)), (upd s1_16 s1_7.toNat true)) [] [(90, 3, 6, .q (.d (.pin (zk v201)))), (90, 3, 10, .q (xb true)), (90, 5, 1, .q (.ptr 0 3 (s1_7.toNat))), (90, 5, 2, .st ((aB 61 (upd s1_16 s1_7.toNat true)).map .d))] [] g3 (ob (o_ia (e := zk) 3 h202 rfl) (ob (o_b h203) (ob (zrd (m := 61) 0 3 0 1 s1_7.toNat h204 (by omega)) (ob (zyk 61 s1_16 s1_7.toNat true (by have := h204; simp only [Bool.and_eq_true, decide_eq_true_eq] at this; omega)) ob0)))) (by kernel_rfl)
 ·exact zqo [(90, 3, 6, .q (.d (.pin (zk v201)))), (90, 3, 10, .q (xb false))] [] g2 (ob (o_ia (e := zk) 3 h202 rfl) (ob (o_b h203) ob0)) (by kernel_rfl)
theorem zfp (k : Nat) (p0 : zd) (r : zt0) (h : zjf k p0 = some r) : zL TE (ev TE) 90 [(.agg (zn p0))] = some (zLk r) := by
 unfold zjf at h
 refine zj h (fun v1 h2 g1 => ?_)
 refine zj g1 (fun v3 h4 g2 => ?_)
 exact zI (g := zLk) g2 (zqc [(90, 2, 5, .q (.d (.pin (zk v1))))] [(90, 0, (.nor, zsg p0 v3))] (ob (o_ia (e := zk) 3 h2 rfl) (ob (zF (id := 0) (r' := (.nor, zsg p0 v3)) (zbc (zln k p0) k _ _ h4) rfl) ob0)) (by kernel_rfl))
theorem zch (k : Nat) (r : zt0) (h : zTf k = some r) : zL TE (ev TE) 87 [] = some (zfn r) := by
 unfold zTf at h
 exact zI (g := zfn) h (zqc [] [] ob0 (by kernel_rfl))
theorem zSk (k : Nat) (p0 : zd) (p1 p2 : Int) (r : zt8) (h : zJe k p0 p1 p2 = some r) : zL TE (ev TE) 91 [(.agg (zn p0)), (di p1), (di p2)] = some (zAl r) := by
 unfold zJe at h
 exact zI (g := zAl) h (zqc [] [] ob0 (by kernel_rfl))
noncomputable def zhD (p0 : zd) (p1 p2 : Int) (s1_20 : zt16) (s1_12 : Int) : TM := [(0, (.d (.agg (zn p0)))), (1, (xi p1)), (2, (xi p2)), (zsp 3), (6, (.d (.sl [] .nil))), (7, (.row 0 7 s1_20.length)), (15, (.d (dl zh p0.ShelfBook.Deliveries.1 p0.ShelfBook.Deliveries.2))), (16, (xi (p0.ShelfBook.Deliveries.1.length : Int))), (17, (xi s1_12))]
noncomputable def zUn (p0 : zd) (p1 p2 s1_12 : Int) (s1_20 : zt16) : St := ⟨(zhD p0 p1 p2 s1_20 s1_12), ⟨[(zc 3 (zn p0)), (7, (rowO true 3 zM s1_20 true))], []⟩, []⟩
noncomputable def zpC (p0 : zd) (p1 p2 : Int) (r : zt13) : TM := [(0, (.d (.agg (zn p0)))), (1, (xi p1)), (2, (xi p2)), (zsp 3), (6, (.d (.sl [] .nil))), (7, (.row 0 7 r.2.length)), (15, (.d (dl zh p0.ShelfBook.Deliveries.1 p0.ShelfBook.Deliveries.2))), (16, (xi (p0.ShelfBook.Deliveries.1.length : Int))), (17, (xi r.1)), (18, (xb false))]
noncomputable def zqg (p0 : zd) (p1 p2 : Int) (r : zt13) : St := ⟨(zpC p0 p1 p2 r), ⟨[(zc 3 (zn p0)), (7, (rowO true 3 zM r.2 true))], []⟩, []⟩
noncomputable def z0n (p0 : zd) (p1 p2 : Int) : (Int × (List zD)) → Ex × St := fun r => ((.exit 0), zqg p0 p1 p2 r)
theorem zzn (k : Nat) (p0 : zd) (p1 p2 s1_12 : Int) (s1_20 : zt16) (x : (Int × (List zD)) ⊕ (Int × (List zD))) (h : zje k p0 p1 p2 s1_12 s1_20 = some x) : zO TE 92 (blk TE 92 0) (fun s : (Int × (List zD)) => zUn p0 p1 p2 s.1 s.2) (z0n p0 p1 p2) (s1_12, s1_20) x := by
 unfold zje at h
 refine zm h (fun h301 g1 => ?_) (fun h301 g1 => ?_)
 ·refine zj g1 (fun v302 h303 g2 => ?_)
  refine zm g2 (fun h304 g3 => ?_) (fun h304 g3 => ?_)
  ·cases g3
  ·refine zm g3 (fun h305 g4 => ?_) (fun h305 g4 => ?_)
   ·refine zR g4 (fun h306 g5 => ?_)
    exact zqn ((w64 (s1_12 + 1)), (s1_20 ++ [(⟨1, v302.By⟩ : zD)])) [7] [(92, 3, 0, .q (xb true)), (92, 4, 1, .q (.d (.pin (zh v302)))), (92, 5, 2, .q (xi (zW p2 s1_12))), (92, 5, 4, .q (xb true)), (92, 6, 5, .ap (s1_20 ++ [(⟨1, v302.By⟩ : zD)]).length (rowO true 3 zM (s1_20 ++ [(⟨1, v302.By⟩ : zD)]) true))] [] g5 (ob (o_b h301) (ob (o_ia (e := zh) 5 h303 rfl) (ob (z7e (x := p2) h304) (ob (o_b h305) (ob (o_ap (b := true) (z := 3) (e := zM) (l := s1_20) (w := true) (⟨1, v302.By⟩ : zD) (fun _ => rfl) h306) (ob (zKb true 3 zM (s1_20 ++ [(⟨1, v302.By⟩ : zD)]) true) ob0)))))) (by kernel_rfl)
   ·exact zqn ((w64 (s1_12 + 1)), s1_20) [7] [(92, 3, 0, .q (xb true)), (92, 4, 1, .q (.d (.pin (zh v302)))), (92, 5, 2, .q (xi (zW p2 s1_12))), (92, 5, 4, .q (xb false))] [] g4 (ob (o_b h301) (ob (o_ia (e := zh) 5 h303 rfl) (ob (z7e (x := p2) h304) (ob (o_b h305) (ob (zKb true 3 zM s1_20 true) ob0))))) (by kernel_rfl)
 ·exact zqo [(92, 3, 0, .q (xb false))] [] g1 (ob (o_b h301) ob0) (by kernel_rfl)
noncomputable def zUC (p0 : zd) (p1 p2 : Int) (s3_24 : zt16) (v1 : zt13) (s3_16 : Int) (r : Bool) : TM := [(0, (.d (.agg (zn p0)))), (1, (xi p1)), (2, (xi p2)), (zsp 3), (6, (.d (.sl [] .nil))), (7, (.row 0 7 s3_24.length)), (15, (.d (dl zh p0.ShelfBook.Deliveries.1 p0.ShelfBook.Deliveries.2))), (16, (xi (p0.ShelfBook.Deliveries.1.length : Int))), (17, (xi v1.1)), (18, (xb false)), (36, (.d (dl zl p0.ShelfBook.Moves.1 p0.ShelfBook.Moves.2))), (37, (xi (p0.ShelfBook.Moves.1.length : Int))), (38, (xi s3_16)), (39, (xb true)), (zsp 11), (52, (xb r))]
noncomputable def zBd (p0 : zd) (p1 p2 : Int) (v1 : zt13) (s3_16 : Int) (s3_24 : zt16) (v702 : zx) (r : Bool) : St := ⟨(zUC p0 p1 p2 s3_24 v1 s3_16 r), ⟨[(zc 3 (zn p0)), (7, (rowO true 3 zM s3_24 true)), (zc 11 (zl v702))], []⟩, []⟩
noncomputable def z4x (p0 : zd) (p1 p2 : Int) (s3_24 : zt16) (v1 : zt13) (s3_16 : Int) : TM := [(0, (.d (.agg (zn p0)))), (1, (xi p1)), (2, (xi p2)), (zsp 3), (6, (.d (.sl [] .nil))), (7, (.row 0 7 s3_24.length)), (15, (.d (dl zh p0.ShelfBook.Deliveries.1 p0.ShelfBook.Deliveries.2))), (16, (xi (p0.ShelfBook.Deliveries.1.length : Int))), (17, (xi v1.1)), (18, (xb false)), (36, (.d (dl zl p0.ShelfBook.Moves.1 p0.ShelfBook.Moves.2))), (37, (xi (p0.ShelfBook.Moves.1.length : Int))), (38, (xi s3_16)), (39, (xb true)), (zsp 11)]
theorem zyi (k : Nat) (p0 : zd) (p1 p2 : Int) (v1 : zt13) (s3_16 : Int) (s3_24 : zt16) (v702 : zx) (r : Bool) (h : zAf k p0 p1 p2 v1 s3_16 s3_24 v702 = some r) : ev TE 92 (rgn TE 92 11) ⟨(z4x p0 p1 p2 s3_24 v1 s3_16), ⟨[(zc 3 (zn p0)), (7, (rowO true 3 zM s3_24 true)), (zc 11 (zl v702))], []⟩, []⟩ = some (.nor, zBd p0 p1 p2 v1 s3_16 s3_24 v702 r) := by
 unfold zAf at h
 refine zm h (fun h801 g1 => ?_) (fun h801 g1 => ?_)
 ·exact zy (g := fun r => (Ex.nor, zBd p0 p1 p2 v1 s3_16 s3_24 v702 r)) g1 (zqe [(92, 11, 4, .q (xb true))] [] (ob (o_b h801) ob0) (by kernel_rfl))
 ·exact zy (g := fun r => (Ex.nor, zBd p0 p1 p2 v1 s3_16 s3_24 v702 r)) g1 (zqe [(92, 11, 4, .q (xb false))] [] (ob (o_b h801) ob0) (by kernel_rfl))
noncomputable def zMe (p0 : zd) (p1 p2 : Int) (v1 : zt13) (s3_16 : Int) (s3_24 : zt16) (v702 : zx) (cb : Bool) (r : zt1) : St := ⟨(z4x p0 p1 p2 s3_24 v1 s3_16 ++ [(52, (xb true)), (zsp 12), (57, (xb r.1))]), ⟨[(zc 3 (zn p0)), (7, (rowO true 3 zM s3_24 true)), (zc 11 (zl v702)), (12, (.cells [(xi r.2), (xi v702.By.Low), (xi v702.By.High)]))], []⟩, []⟩
theorem zAn (k : Nat) (p0 : zd) (p1 p2 : Int) (v1 : zt13) (s3_16 : Int) (s3_24 : zt16) (v702 : zx) (cb : Bool) (r : zt1) (h : zyh k p0 p1 p2 v1 s3_16 s3_24 v702 cb = some r) : ev TE 92 (cnd TE 92 57) ⟨(z4x p0 p1 p2 s3_24 v1 s3_16 ++ [(52, (xb true)), (zsp 12), (57, (xb cb))]), ⟨[(zc 3 (zn p0)), (7, (rowO true 3 zM s3_24 true)), (zc 11 (zl v702)), (12, (.cells [(xi 0), (xi v702.By.Low), (xi v702.By.High)]))], []⟩, []⟩ = some (.nor, zMe p0 p1 p2 v1 s3_16 s3_24 v702 cb r) := by
 unfold zyh at h
 refine zm h (fun h1001 g1 => ?_) (fun h1001 g1 => ?_)
 ·subst h1001
  exact zy (g := fun r => (Ex.nor, zMe p0 p1 p2 v1 s3_16 s3_24 v702 true r)) g1 (zqe [] [] ob0 (by kernel_rfl))
 ·subst h1001
  exact zy (g := fun r => (Ex.nor, zMe p0 p1 p2 v1 s3_16 s3_24 v702 false r)) g1 (zqe [] [] ob0 (by kernel_rfl))
noncomputable def zhC (p0 : zd) (p1 p2 : Int) (s3_24 : zt16) (v1 : zt13) (s3_16 : Int) : TM := [(0, (.d (.agg (zn p0)))), (1, (xi p1)), (2, (xi p2)), (zsp 3), (6, (.d (.sl [] .nil))), (7, (.row 0 7 s3_24.length)), (15, (.d (dl zh p0.ShelfBook.Deliveries.1 p0.ShelfBook.Deliveries.2))), (16, (xi (p0.ShelfBook.Deliveries.1.length : Int))), (17, (xi v1.1)), (18, (xb false)), (36, (.d (dl zl p0.ShelfBook.Moves.1 p0.ShelfBook.Moves.2))), (37, (xi (p0.ShelfBook.Moves.1.length : Int))), (38, (xi s3_16))]
noncomputable def zdo (p0 : zd) (p1 p2 : Int) (v1 : zt13) (s3_16 : Int) (s3_24 : zt16) : St := ⟨(zhC p0 p1 p2 s3_24 v1 s3_16), ⟨[(zc 3 (zn p0)), (7, (rowO true 3 zM s3_24 true))], []⟩, []⟩
noncomputable def zLC (p0 : zd) (p1 p2 : Int) (r v1 : zt13) : TM := [(0, (.d (.agg (zn p0)))), (1, (xi p1)), (2, (xi p2)), (zsp 3), (6, (.d (.sl [] .nil))), (7, (.row 0 7 r.2.length)), (15, (.d (dl zh p0.ShelfBook.Deliveries.1 p0.ShelfBook.Deliveries.2))), (16, (xi (p0.ShelfBook.Deliveries.1.length : Int))), (17, (xi v1.1)), (18, (xb false)), (36, (.d (dl zl p0.ShelfBook.Moves.1 p0.ShelfBook.Moves.2))), (37, (xi (p0.ShelfBook.Moves.1.length : Int))), (38, (xi r.1)), (39, (xb false))]
noncomputable def zpg (p0 : zd) (p1 p2 : Int) (v1 r : zt13) : St := ⟨(zLC p0 p1 p2 r v1), ⟨[(zc 3 (zn p0)), (7, (rowO true 3 zM r.2 true))], []⟩, []⟩
noncomputable def z1n (p0 : zd) (p1 p2 : Int) (v1 : zt13) : (Int × (List zD)) → Ex × St := fun r => ((.exit 2), zpg p0 p1 p2 v1 r)
theorem zKn (k : Nat) (p0 : zd) (p1 p2 : Int) (v1 : zt13) (s3_16 : Int) (s3_24 : zt16) (x : (Int × (List zD)) ⊕ (Int × (List zD))) (h : zbe k p0 p1 p2 v1 s3_16 s3_24 = some x) : zO TE 92 (blk TE 92 2) (fun s : (Int × (List zD)) => zdo p0 p1 p2 v1 s.1 s.2) (z1n p0 p1 p2 v1) (s3_16, s3_24) x := by
 unfold zbe at h
 refine zm h (fun h701 g1 => ?_) (fun h701 g1 => ?_)
 ·refine zj g1 (fun v702 h703 g2 => ?_)
  refine zj g2 (fun v704 h705 g3 => ?_)
  refine zm g3 (fun h706 g4 => ?_) (fun h706 g4 => ?_)
  ·subst h706
   refine zj g4 (fun v707 h708 g5 => ?_)
   refine zR g5 (fun h709 g6 => ?_)
   exact zqn ((w64 (s3_16 + 1)), (s3_24 ++ [(⟨v707.2, v702.By⟩ : zD)])) [7] [(92, 9, 0, .q (xb true)), (92, 10, 0, .q (.d (.pin (zl v702)))), (92, 15, 3, .ap (s3_24 ++ [(⟨v707.2, v702.By⟩ : zD)]).length (rowO true 3 zM (s3_24 ++ [(⟨v707.2, v702.By⟩ : zD)]) true))] [(92, 1000011, (.nor, zBd p0 p1 p2 v1 s3_16 s3_24 v702 true)), (92, 2000057, (.nor, zMe p0 p1 p2 v1 s3_16 s3_24 v702 v702.Back v707))] g6 (ob (o_b h701) (ob (o_ia (e := zl) 5 h703 rfl) (ob (zyi k p0 p1 p2 v1 s3_16 s3_24 v702 _ h705) (ob (zAn k p0 p1 p2 v1 s3_16 s3_24 v702 v702.Back _ h708) (ob (o_ap (b := true) (z := 3) (e := zM) (l := s3_24) (w := true) (⟨v707.2, v702.By⟩ : zD) (fun _ => rfl) h709) (ob (zKb true 3 zM (s3_24 ++ [(⟨v707.2, v702.By⟩ : zD)]) true) ob0)))))) (by kernel_rfl)
  ·subst h706
   exact zqn ((w64 (s3_16 + 1)), s3_24) [7] [(92, 9, 0, .q (xb true)), (92, 10, 0, .q (.d (.pin (zl v702))))] [(92, 1000011, (.nor, zBd p0 p1 p2 v1 s3_16 s3_24 v702 false))] g4 (ob (o_b h701) (ob (o_ia (e := zl) 5 h703 rfl) (ob (zyi k p0 p1 p2 v1 s3_16 s3_24 v702 _ h705) (ob (zKb true 3 zM s3_24 true) ob0)))) (by kernel_rfl)
 ·exact zqo [(92, 9, 0, .q (xb false))] [] g1 (ob (o_b h701) ob0) (by kernel_rfl)
theorem zZj (k : Nat) (p0 : zd) (p1 p2 : Int) (r : (SL zD)) (h : zpe k p0 p1 p2 = some r) : zL TE (ev TE) 92 [(.agg (zn p0)), (di p1), (di p2)] = some (z8k r) := by
 unfold zpe at h
 refine zj h (fun v1 h2 g1 => ?_)
 refine zj g1 (fun v3 h4 g2 => ?_)
 exact zI (g := z8k) g2 (zqr [(92, 2, 3, .q (xi (p0.ShelfBook.Deliveries.1.length : Int))), (92, 8, 3, .q (xi (p0.ShelfBook.Moves.1.length : Int)))] [(92, 0, (.nor, zqg p0 p1 p2 v1)), (92, 2, (.nor, zpg p0 p1 p2 v1 v3))] [(dl zM v3.2 (rcap true v3.2))] (ob (zw zh p0.ShelfBook.Deliveries.1) (ob (zF (id := 0) (r' := (.nor, zqg p0 p1 p2 v1)) (zbc (zzn k p0 p1 p2) k _ _ h2) rfl) (ob (zw zl p0.ShelfBook.Moves.1) (ob (zF (id := 2) (r' := (.nor, zpg p0 p1 p2 v1 v3)) (zbc (zKn k p0 p1 p2 v1) k _ _ h4) rfl) (ob (show zld ⟨[(7, (rowO true 3 zM v3.2 true))], []⟩ _ = _ from (o_s1 (x := (.row 0 7 v3.2.length)) (zBw true 3 zM v3.2 true rfl) o_s0)) ob0))))) (by kernel_rfl))
theorem z9d (k : Nat) (p0 r : zt0) (h : znb k p0 = some r) : zL TE (ev TE) 83 [(.agg (aB 61 p0))] = some (zui r) := by
 unfold znb at h
 exact zI (g := zui) h (zqc [] [] ob0 (by kernel_rfl))
theorem zyp (k : Nat) (p0 : zd) (p1 p2 r : Int) (h : zCh k p0 p1 p2 = some r) : zL TE (ev TE) 114 [(.agg (zn p0)), (di p1), (di p2)] = some (zGl r) := by
 unfold zCh at h
 exact zI (g := zGl) h (zqc [] [] ob0 (by kernel_rfl))
theorem ztp (k : Nat) (p0 : zd) (p1 p2 r : Int) (h : zEh k p0 p1 p2 = some r) : zL TE (ev TE) 115 [(.agg (zn p0)), (di p1), (di p2)] = some (zxl r) := by
 unfold zEh at h
 exact zI (g := zxl) h (zqc [] [] ob0 (by kernel_rfl))
noncomputable def z0C (p0 : zd) (p1 : zt0) (p2 : Int) (p3 : zr) (v1 : zt0) (s1_2 s9_14 v1203 : Int) (r : (Bool × (Nat → Bool))) : TM := [(0, (.d (.agg (zn p0)))), (1, (.d (.agg (aB 61 p1)))), (2, (xi p2)), (3, (.d (.agg [(di p3.Low), (di p3.High)]))), (zsp 4), (zsp 5), (zsp 6), (zsp 7), (zsp 8), (zsp 9), (14, (.d (.fn 96 [] [(.pin (aB 61 v1))]))), (15, (xi s1_2)), (10, (xi s1_2)), (11, (xi s9_14)), (21, (xb true)), (12, (xi v1203)), (40, (xb r.1))]
noncomputable def zTi (p0 : zd) (p1 : zt0) (p2 : Int) (p3 : zr) (v1 : zt0) : TM := [(0, (.d (.agg (zn p0)))), (1, (.d (.agg (aB 61 p1)))), (2, (xi p2)), (3, (.d (.agg [(di p3.Low), (di p3.High)]))), (zsp 4), (zsp 5), (zsp 6), (zsp 7), (zsp 8), (zsp 9), (14, (.d (.fn 96 [] [(.pin (aB 61 v1))])))]
noncomputable def zze (p0 : zd) (p1 : zt0) (p2 : Int) (p3 : zr) (v1 : zt0) (s1_2 s9_14 : Int) (s9_27 : zt0) (v1203 : Int) (v1207 : Bool) (r : (Bool × (Nat → Bool))) : St := ⟨(z0C p0 p1 p2 p3 v1 s1_2 s9_14 v1203 r), ⟨[], [[(zc 4 (zn p0)), (zc 5 (aB 61 p1)), (6, (.cells [(xi p2)])), (7, (.cells [(xi p3.Low), (xi p3.High)])), (zc 8 (aB 61 (fun _ => false))), (zc 9 (aB 61 r.2))], []]⟩, [⟨(zTi p0 p1 p2 p3 v1), 0, rfP (blk TE 93 0), rfA (blk TE 93 0), rfB (blk TE 93 0), 93, .busy⟩]⟩
noncomputable def zbD (p0 : zd) (p1 : zt0) (p2 : Int) (p3 : zr) (v1 : zt0) (s1_2 s9_14 v1203 : Int) (v1207 : Bool) : TM := zTi p0 p1 p2 p3 v1 ++ [(15, (xi s1_2)), (10, (xi s1_2)), (11, (xi s9_14)), (21, (xb true)), (12, (xi v1203)), (40, (xb v1207))]
theorem zHm (k : Nat) (p0 : zd) (p1 : zt0) (p2 : Int) (p3 : zr) (v1 : zt0) (s1_2 s9_14 : Int) (s9_27 : zt0) (v1203 : Int) (v1207 : Bool) (r : (Bool × (Nat → Bool))) (h : zMd k p0 p1 p2 p3 v1 s1_2 s9_14 s9_27 v1203 v1207 = some r) : ev TE 93 (cnd TE 93 40) ⟨(zbD p0 p1 p2 p3 v1 s1_2 s9_14 v1203 v1207), ⟨[], [[(zc 4 (zn p0)), (zc 5 (aB 61 p1)), (6, (.cells [(xi p2)])), (7, (.cells [(xi p3.Low), (xi p3.High)])), (zc 8 (aB 61 (fun _ => false))), (zc 9 (aB 61 s9_27))], []]⟩, [⟨(zTi p0 p1 p2 p3 v1), 0, rfP (blk TE 93 0), rfA (blk TE 93 0), rfB (blk TE 93 0), 93, .busy⟩]⟩ = some (.nor, zze p0 p1 p2 p3 v1 s1_2 s9_14 s9_27 v1203 v1207 r) := by
 unfold zMd at h
 refine zm h (fun h1301 g1 => ?_) (fun h1301 g1 => ?_)
 ·subst h1301
  refine zR g1 (fun h1302 g2 => ?_)
  exact zy (g := fun r => (Ex.nor, zze p0 p1 p2 p3 v1 s1_2 s9_14 s9_27 v1203 true r)) g2 (zqe [(93, 9, 1, .q (.ptr 0 9 (v1203.toNat))), (93, 9, 2, .st ((aB 61 (upd s9_27 v1203.toNat true)).map .d))] [] (ob (zrd (m := 61) 0 9 0 1 v1203.toNat h1302 (by omega)) (ob (zyk 61 s9_27 v1203.toNat true (by have := h1302; simp only [Bool.and_eq_true, decide_eq_true_eq] at this; omega)) ob0)) (by kernel_rfl))
 ·subst h1301
  exact zy (g := fun r => (Ex.nor, zze p0 p1 p2 p3 v1 s1_2 s9_14 s9_27 v1203 false r)) g1 (zqe [] [] ob0 (by kernel_rfl))
noncomputable def zdC (p0 : zd) (p1 : zt0) (p2 : Int) (p3 : zr) (v1 : zt0) (s1_2 s9_14 v1204 : Int) (r : (Bool × (Nat → Bool))) : TM := zTi p0 p1 p2 p3 v1 ++ [(15, (xi s1_2)), (10, (xi s1_2)), (11, (xi s9_14)), (21, (xb true)), (12, (xi v1204)), (40, (xb r.1))]
noncomputable def zAe (p0 : zd) (p1 : zt0) (p2 : Int) (p3 : zr) (v1 : zt0) (s1_2 s9_14 : Int) (s9_27 : zt0) (v1204 : Int) (v1208 : Bool) (r : (Bool × (Nat → Bool))) : St := ⟨(zdC p0 p1 p2 p3 v1 s1_2 s9_14 v1204 r), ⟨[], [[(zc 4 (zn p0)), (zc 5 (aB 61 p1)), (6, (.cells [(xi p2)])), (7, (.cells [(xi p3.Low), (xi p3.High)])), (zc 8 (aB 61 (fun _ => false))), (zc 9 (aB 61 r.2))], []]⟩, [⟨(zTi p0 p1 p2 p3 v1), 0, rfP (blk TE 93 0), rfA (blk TE 93 0), rfB (blk TE 93 0), 93, .busy⟩]⟩
noncomputable def zCC (p0 : zd) (p1 : zt0) (p2 : Int) (p3 : zr) (v1 : zt0) (s1_2 s9_14 v1204 : Int) (v1208 : Bool) : TM := zTi p0 p1 p2 p3 v1 ++ [(15, (xi s1_2)), (10, (xi s1_2)), (11, (xi s9_14)), (21, (xb true)), (12, (xi v1204)), (40, (xb v1208))]
theorem zKm (k : Nat) (p0 : zd) (p1 : zt0) (p2 : Int) (p3 : zr) (v1 : zt0) (s1_2 s9_14 : Int) (s9_27 : zt0) (v1204 : Int) (v1208 : Bool) (r : (Bool × (Nat → Bool))) (h : zEd k p0 p1 p2 p3 v1 s1_2 s9_14 s9_27 v1204 v1208 = some r) : ev TE 93 (cnd TE 93 40) ⟨(zCC p0 p1 p2 p3 v1 s1_2 s9_14 v1204 v1208), ⟨[], [[(zc 4 (zn p0)), (zc 5 (aB 61 p1)), (6, (.cells [(xi p2)])), (7, (.cells [(xi p3.Low), (xi p3.High)])), (zc 8 (aB 61 (fun _ => false))), (zc 9 (aB 61 s9_27))], []]⟩, [⟨(zTi p0 p1 p2 p3 v1), 0, rfP (blk TE 93 0), rfA (blk TE 93 0), rfB (blk TE 93 0), 93, .busy⟩]⟩ = some (.nor, zAe p0 p1 p2 p3 v1 s1_2 s9_14 s9_27 v1204 v1208 r) := by
 unfold zEd at h
 refine zm h (fun h1401 g1 => ?_) (fun h1401 g1 => ?_)
 ·subst h1401
  refine zR g1 (fun h1402 g2 => ?_)
  exact zy (g := fun r => (Ex.nor, zAe p0 p1 p2 p3 v1 s1_2 s9_14 s9_27 v1204 true r)) g2 (zqe [(93, 9, 1, .q (.ptr 0 9 (v1204.toNat))), (93, 9, 2, .st ((aB 61 (upd s9_27 v1204.toNat true)).map .d))] [] (ob (zrd (m := 61) 0 9 0 1 v1204.toNat h1402 (by omega)) (ob (zyk 61 s9_27 v1204.toNat true (by have := h1402; simp only [Bool.and_eq_true, decide_eq_true_eq] at this; omega)) ob0)) (by kernel_rfl))
 ·subst h1401
  exact zy (g := fun r => (Ex.nor, zAe p0 p1 p2 p3 v1 s1_2 s9_14 s9_27 v1204 false r)) g1 (zqe [] [] ob0 (by kernel_rfl))
noncomputable def z4n (p0 : zd) (p1 : zt0) (p2 : Int) (p3 : zr) (v1 : zt0) (s1_2 s9_14 : Int) (s9_27 : zt0) : St := ⟨(zTi p0 p1 p2 p3 v1 ++ [(15, (xi s1_2)), (10, (xi s1_2)), (11, (xi s9_14))]), ⟨[], [[(zc 4 (zn p0)), (zc 5 (aB 61 p1)), (6, (.cells [(xi p2)])), (7, (.cells [(xi p3.Low), (xi p3.High)])), (zc 8 (aB 61 (fun _ => false))), (zc 9 (aB 61 s9_27))], []]⟩, [⟨(zTi p0 p1 p2 p3 v1), 0, rfP (blk TE 93 0), rfA (blk TE 93 0), rfB (blk TE 93 0), 93, .busy⟩]⟩
noncomputable def zfg (p0 : zd) (p1 : zt0) (p2 : Int) (p3 : zr) (v1 : zt0) (s1_2 : Int) (r : zt15) : St := ⟨(zTi p0 p1 p2 p3 v1 ++ [(15, (xi s1_2)), (10, (xi s1_2)), (11, (xi r.1)), (21, (xb false))]), ⟨[], [[(zc 4 (zn p0)), (zc 5 (aB 61 p1)), (6, (.cells [(xi p2)])), (7, (.cells [(xi p3.Low), (xi p3.High)])), (zc 8 (aB 61 (fun _ => false))), (zc 9 (aB 61 r.2))], []]⟩, [⟨(zTi p0 p1 p2 p3 v1), 0, rfP (blk TE 93 0), rfA (blk TE 93 0), rfB (blk TE 93 0), 93, .busy⟩]⟩
noncomputable def zjo (p0 : zd) (p1 : zt0) (p2 : Int) (p3 : zr) (v1 : zt0) (s1_2 : Int) : (Int × (Nat → Bool)) → Ex × St := fun r => ((.exit 2), zfg p0 p1 p2 p3 v1 s1_2 r)
theorem zwn (k : Nat) (p0 : zd) (p1 : zt0) (p2 : Int) (p3 : zr) (v1 : zt0) (s1_2 s9_14 : Int) (s9_27 : zt0) (x : (Int × (Nat → Bool)) ⊕ (Int × (Nat → Bool))) (h : zBc k p0 p1 p2 p3 v1 s1_2 s9_14 s9_27 = some x) : zO TE 93 (blk TE 93 2) (fun s : (Int × (Nat → Bool)) => z4n p0 p1 p2 p3 v1 s1_2 s.1 s.2) (zjo p0 p1 p2 p3 v1 s1_2) (s9_14, s9_27) x := by
 unfold zBc at h
 refine zm h (fun h1201 g1 => ?_) (fun h1201 g1 => ?_)
 ·refine zm g1 (fun h1202 g2 => ?_) (fun h1202 g2 => ?_)
  ·refine zj g2 (fun v1203 h1204 g3 => ?_)
   refine zj g3 (fun v1205 h1206 g4 => ?_)
   refine zj g4 (fun v1207 h1208 g5 => ?_)
   refine zj g5 (fun v1209 h1210 g6 => ?_)
   exact zqn ((w64 (s9_14 + 1)), v1209.2) [] [(93, 5, 3, .q (xb true)), (93, 7, 1, .q (.d (.pin [(.fn 114 [] []), (.fn 115 [] [])]))), (93, 7, 6, .c (di v1203)), (93, 8, 6, .q (.d (.pin (zk v1205)))), (93, 8, 9, .c (db v1207))] [(93, 2000040, (.nor, zze p0 p1 p2 p3 v1 s1_2 s9_14 s9_27 v1203 v1207 v1209))] g6 (ob (o_b h1201) (ob (zox [(.fn 114 [] []), (.fn 115 [] [])] 2 1 (j := 0) (eq_of_beq h1202) (by decide)) (ob (zyp k p0 s1_2 s9_14 _ h1204) (ob (o_ia (e := zk) 3 h1206 rfl) (ob (zE k v1203 0 v1205.Room _ h1208) (ob (zHm k p0 p1 p2 p3 v1 s1_2 s9_14 s9_27 v1203 v1207 _ h1210) ob0)))))) (by kernel_rfl)
  ·refine zm g2 (fun h1203 g3 => ?_) (fun h1203 g3 => ?_)
   ·refine zj g3 (fun v1204 h1205 g4 => ?_)
    refine zj g4 (fun v1206 h1207 g5 => ?_)
    refine zj g5 (fun v1208 h1209 g6 => ?_)
    refine zj g6 (fun v1210 h1211 g7 => ?_)
    exact zqn ((w64 (s9_14 + 1)), v1210.2) [] [(93, 5, 3, .q (xb true)), (93, 7, 1, .q (.d (.pin [(.fn 115 [] [])]))), (93, 7, 6, .c (di v1204)), (93, 8, 6, .q (.d (.pin (zk v1206)))), (93, 8, 9, .c (db v1208))] [(93, 2000040, (.nor, zAe p0 p1 p2 p3 v1 s1_2 s9_14 s9_27 v1204 v1208 v1210))] g7 (ob (o_b h1201) (ob (zox [(.fn 114 [] []), (.fn 115 [] [])] 2 1 (j := 1) (eq_of_beq h1203) (by decide)) (ob (ztp k p0 s1_2 s9_14 _ h1205) (ob (o_ia (e := zk) 3 h1207 rfl) (ob (zE k v1204 0 v1206.Room _ h1209) (ob (zKm k p0 p1 p2 p3 v1 s1_2 s9_14 s9_27 v1204 v1208 _ h1211) ob0)))))) (by kernel_rfl)
   ·cases g3
 ·exact zqo [(93, 5, 3, .q (xb false))] [] g1 (ob (o_b h1201) ob0) (by kernel_rfl)
noncomputable def z6B (v1 : zt0) (s1_2 : Int) : TM := [(0, (.yld 0)), (1, (.d (.pin (aB 61 v1)))), (5, (.d (.agg (aB 61 v1)))), (6, (xi s1_2)), (7, (xb true)), (3, (xi s1_2)), (4, (xb (v1 s1_2.toNat))), (16, (xb false))]
noncomputable def zFe (p0 : zd) (p1 : zt0) (p2 : Int) (p3 : zr) (v1 : zt0) (s1_2 : Int) (s1_15 r : zt0) : St := ⟨(z6B v1 s1_2), ⟨[], [[(zc 4 (zn p0)), (zc 5 (aB 61 p1)), (6, (.cells [(xi p2)])), (7, (.cells [(xi p3.Low), (xi p3.High)])), (zc 8 (aB 61 (fun _ => false))), (zc 9 (aB 61 r))]]⟩, [⟨(zTi p0 p1 p2 p3 v1), 0, rfP (blk TE 93 0), rfA (blk TE 93 0), rfB (blk TE 93 0), 93, .rdy⟩]⟩
noncomputable def z3C (v1 : zt0) (s1_2 : Int) : TM := [(0, (.yld 0)), (1, (.d (.pin (aB 61 v1)))), (5, (.d (.agg (aB 61 v1)))), (6, (xi s1_2)), (7, (xb true)), (3, (xi s1_2)), (4, (xb (v1 s1_2.toNat)))]
theorem zDn (k : Nat) (p0 : zd) (p1 : zt0) (p2 : Int) (p3 : zr) (v1 : zt0) (s1_2 : Int) (s1_15 r : zt0) (h : zHf k p0 p1 p2 p3 v1 s1_2 s1_15 = some r) : ev TE 96 (rgn TE 96 3) ⟨(z3C v1 s1_2), ⟨[], [[(zc 4 (zn p0)), (zc 5 (aB 61 p1)), (6, (.cells [(xi p2)])), (7, (.cells [(xi p3.Low), (xi p3.High)])), (zc 8 (aB 61 (fun _ => false))), (zc 9 (aB 61 s1_15))]]⟩, [⟨(zTi p0 p1 p2 p3 v1), 0, rfP (blk TE 93 0), rfA (blk TE 93 0), rfB (blk TE 93 0), 93, .rdy⟩]⟩ = some (.nor, zFe p0 p1 p2 p3 v1 s1_2 s1_15 r) := by
 unfold zHf at h
 refine zm h (fun h901 g1 => ?_) (fun h901 g1 => ?_)
 ·refine zj g1 (fun v902 h903 g2 => ?_)
  exact zy (g := fun r => (Ex.nor, zFe p0 p1 p2 p3 v1 s1_2 s1_15 r)) g2 (zqe [(96, 3, 1, .q (xb true))] [(93, 2, (.nor, zfg p0 p1 p2 p3 v1 s1_2 v902))] (ob (o_b h901) (ob (zF (id := 2) (r' := (.nor, zfg p0 p1 p2 p3 v1 s1_2 v902)) (zbc (zwn k p0 p1 p2 p3 v1 s1_2) k _ _ h903) rfl) ob0)) (by kernel_rfl))
 ·exact zy (g := fun r => (Ex.nor, zFe p0 p1 p2 p3 v1 s1_2 s1_15 r)) g1 (zqe [(96, 3, 1, .q (xb false))] [] (ob (o_b h901) ob0) (by kernel_rfl))
noncomputable def zPC (v1 : zt0) (s1_2 : Int) : TM := [(0, (.yld 0)), (1, (.d (.pin (aB 61 v1)))), (5, (.d (.agg (aB 61 v1)))), (6, (xi s1_2))]
noncomputable def zco (p0 : zd) (p1 : zt0) (p2 : Int) (p3 : zr) (v1 : zt0) (s1_2 : Int) (s1_15 : zt0) : St := ⟨(zPC v1 s1_2), ⟨[], [[(zc 4 (zn p0)), (zc 5 (aB 61 p1)), (6, (.cells [(xi p2)])), (7, (.cells [(xi p3.Low), (xi p3.High)])), (zc 8 (aB 61 (fun _ => false))), (zc 9 (aB 61 s1_15))]]⟩, [⟨(zTi p0 p1 p2 p3 v1), 0, rfP (blk TE 93 0), rfA (blk TE 93 0), rfB (blk TE 93 0), 93, .rdy⟩]⟩
noncomputable def z6C (v1 : zt0) (r : zt15) : TM := [(0, (.yld 0)), (1, (.d (.pin (aB 61 v1)))), (5, (.d (.agg (aB 61 v1)))), (6, (xi r.1)), (7, (xb false))]
noncomputable def zng (p0 : zd) (p1 : zt0) (p2 : Int) (p3 : zr) (v1 : zt0) (r : zt15) : St := ⟨(z6C v1 r), ⟨[], [[(zc 4 (zn p0)), (zc 5 (aB 61 p1)), (6, (.cells [(xi p2)])), (7, (.cells [(xi p3.Low), (xi p3.High)])), (zc 8 (aB 61 (fun _ => false))), (zc 9 (aB 61 r.2))]]⟩, [⟨(zTi p0 p1 p2 p3 v1), 0, rfP (blk TE 93 0), rfA (blk TE 93 0), rfB (blk TE 93 0), 93, .rdy⟩]⟩
noncomputable def z8n (p0 : zd) (p1 : zt0) (p2 : Int) (p3 : zr) (v1 : zt0) : (Int × (Nat → Bool)) → Ex × St := fun r => ((.exit 0), zng p0 p1 p2 p3 v1 r)
theorem zvn (k : Nat) (p0 : zd) (p1 : zt0) (p2 : Int) (p3 : zr) (v1 : zt0) (s1_2 : Int) (s1_15 : zt0) (x : (Int × (Nat → Bool)) ⊕ (Int × (Nat → Bool))) (h : zde k p0 p1 p2 p3 v1 s1_2 s1_15 = some x) : zO TE 96 (blk TE 96 0) (fun s : (Int × (Nat → Bool)) => zco p0 p1 p2 p3 v1 s.1 s.2) (z8n p0 p1 p2 p3 v1) (s1_2, s1_15) x := by
 unfold zde at h
 refine zm h (fun h801 g1 => ?_) (fun h801 g1 => ?_)
 ·refine zR g1 (fun h802 g2 => ?_)
  refine zj g2 (fun v803 h804 g3 => ?_)
  exact zqn ((w64 (s1_2 + 1)), v803) [] [(96, 1, 0, .q (xb true)), (96, 2, 1, .q (xb (v1 s1_2.toNat)))] [(96, 1000003, (.nor, zFe p0 p1 p2 p3 v1 s1_2 s1_15 v803))] g3 (ob (o_b h801) (ob (zMr 61 v1 s1_2 h802) (ob (zDn k p0 p1 p2 p3 v1 s1_2 s1_15 _ h804) ob0))) (by kernel_rfl)
 ·exact zqo [(96, 1, 0, .q (xb false))] [] g1 (ob (o_b h801) ob0) (by kernel_rfl)
theorem zYj (k : Nat) (p0 : zd) (p1 : zt0) (p2 : Int) (p3 : zr) (r : zt0) (h : zod k p0 p1 p2 p3 = some r) : zL TE (ev TE) 93 [(.agg (zn p0)), (.agg (aB 61 p1)), (di p2), (.agg [(di p3.Low), (di p3.High)])] = some (z5k r) := by
 unfold zod at h
 refine zj h (fun v1 h2 g1 => ?_)
 refine zj g1 (fun v3 h4 g2 => ?_)
 exact zI (g := z5k) g2 (zqc [(93, 2, 1, .c (.fn 96 [] [(.pin (aB 61 v1))]))] [(96, 0, (.nor, zng p0 p1 p2 p3 v1 v3))] (ob (z9d k p1 _ h2) (ob (zF (id := 0) (r' := (.nor, zng p0 p1 p2 p3 v1 v3)) (zbc (zvn k p0 p1 p2 p3 v1) k _ _ h4) rfl) ob0)) (by kernel_rfl))
noncomputable def zHC (p0 : zd) (p1 : zt0) (p2 s1_11 : Int) (r : Bool) : TM := [(0, (.d (.agg (zn p0)))), (1, (.d (.agg (aB 61 p1)))), (2, (xi p2)), (zsp 3), (zsp 4), (zsp 6), (12, (.d (dl zi p0.ShelfBook.Counts.1 p0.ShelfBook.Counts.2))), (13, (xi (p0.ShelfBook.Counts.1.length : Int))), (14, (xi s1_11)), (15, (xb true)), (zsp 8), (7, (xi s1_11)), (37, (xb r))]
noncomputable def zmc (p0 : zd) (p1 : zt0) (p2 s1_11 : Int) (s1_19 : zt0) (v602 : zo) (r : Bool) : St := ⟨(zHC p0 p1 p2 s1_11 r), ⟨[(zc 3 (zn p0)), (zc 4 (aB 61 s1_19)), (zc 6 (aB 61 (fun _ => false))), (zc 8 (zi v602))], []⟩, []⟩
noncomputable def zFt (p0 : zd) (p1 : zt0) (p2 s1_11 : Int) : TM := [(0, (.d (.agg (zn p0)))), (1, (.d (.agg (aB 61 p1)))), (2, (xi p2)), (zsp 3), (zsp 4), (zsp 6), (12, (.d (dl zi p0.ShelfBook.Counts.1 p0.ShelfBook.Counts.2))), (13, (xi (p0.ShelfBook.Counts.1.length : Int))), (14, (xi s1_11)), (15, (xb true)), (zsp 8), (7, (xi s1_11))]
theorem zUh (k : Nat) (p0 : zd) (p1 : zt0) (p2 s1_11 : Int) (s1_19 : zt0) (v602 : zo) (r : Bool) (h : zHe k p0 p1 p2 s1_11 s1_19 v602 = some r) : ev TE 95 (rgn TE 95 4) ⟨(zFt p0 p1 p2 s1_11), ⟨[(zc 3 (zn p0)), (zc 4 (aB 61 s1_19)), (zc 6 (aB 61 (fun _ => false))), (zc 8 (zi v602))], []⟩, []⟩ = some (.nor, zmc p0 p1 p2 s1_11 s1_19 v602 r) := by
 unfold zHe at h
 refine zm h (fun h701 g1 => ?_) (fun h701 g1 => ?_)
 ·exact zy (g := fun r => (Ex.nor, zmc p0 p1 p2 s1_11 s1_19 v602 r)) g1 (zqe [(95, 4, 4, .q (xb true))] [] (ob (o_b h701) ob0) (by kernel_rfl))
 ·refine zm g1 (fun h702 g2 => ?_) (fun h702 g2 => ?_)
  ·exact zy (g := fun r => (Ex.nor, zmc p0 p1 p2 s1_11 s1_19 v602 r)) g2 (zqe [(95, 4, 4, .q (xb false)), (95, 4, 11, .q (xb true))] [] (ob (o_b h701) (ob (o_b h702) ob0)) (by kernel_rfl))
  ·refine zm g2 (fun h703 g3 => ?_) (fun h703 g3 => ?_)
   ·cases g3
   ·exact zy (g := fun r => (Ex.nor, zmc p0 p1 p2 s1_11 s1_19 v602 r)) g3 (zqe [(95, 4, 4, .q (xb false)), (95, 4, 11, .q (xb false)), (95, 4, 15, .q (xi (zW p0.left s1_11)))] [] (ob (o_b h701) (ob (o_b h702) (ob (z7e (x := p0.left) h703) ob0))) (by kernel_rfl))
noncomputable def z7d (p0 : zd) (p1 : zt0) (p2 s1_11 : Int) (v602 : zo) (s7_15 : Int) (s7_23 r : zt0) : St := ⟨(zFt p0 p1 p2 s1_11 ++ [(37, (xb false)), (38, (xi s7_15)), (39, (xb true)), (9, (xi s7_15))]), ⟨[(zc 3 (zn p0)), (zc 4 (aB 61 r)), (zc 6 (aB 61 (fun _ => false))), (zc 8 (zi v602))], []⟩, []⟩
theorem zhm (k : Nat) (p0 : zd) (p1 : zt0) (p2 s1_11 : Int) (v602 : zo) (s7_15 : Int) (s7_23 r : zt0) (h : zIe k p0 p1 p2 s1_11 v602 s7_15 s7_23 = some r) : ev TE 95 (rgn TE 95 8) ⟨(zFt p0 p1 p2 s1_11 ++ [(37, (xb false)), (38, (xi s7_15)), (39, (xb true)), (9, (xi s7_15))]), ⟨[(zc 3 (zn p0)), (zc 4 (aB 61 s7_23)), (zc 6 (aB 61 (fun _ => false))), (zc 8 (zi v602))], []⟩, []⟩ = some (.nor, z7d p0 p1 p2 s1_11 v602 s7_15 s7_23 r) := by
 unfold zIe at h
 refine zR h (fun h1001 g1 => ?_)
 refine zm g1 (fun h1002 g2 => ?_) (fun h1002 g2 => ?_)
 ·refine zj g2 (fun v1003 h1004 g3 => ?_)
  exact zy (g := fun r => (Ex.nor, z7d p0 p1 p2 s1_11 v602 s7_15 s7_23 r)) g3 (zqe [(95, 8, 2, .q (.ptr 0 4 (s7_15.toNat))), (95, 8, 3, .q (xb (s7_23 s7_15.toNat))), (95, 8, 4, .q (xb true)), (95, 8, 16, .c (db v1003)), (95, 8, 18, .q (.ptr 0 4 (s7_15.toNat))), (95, 8, 19, .st ((aB 61 (upd s7_23 s7_15.toNat v1003)).map .d))] [] (ob (zrd (m := 61) 0 4 0 1 s7_15.toNat h1001 (by omega)) (ob (zds 61 s7_23 s7_15.toNat (by have := h1001; simp only [Bool.and_eq_true, decide_eq_true_eq] at this; omega)) (ob (o_b h1002) (ob (zE k s7_15 (w64 (v602.Read - v602.Err)) (w64 (v602.Read + v602.Err)) _ h1004) (ob (zrd (m := 61) 0 4 0 1 s7_15.toNat h1001 (by omega)) (ob (zyk 61 s7_23 s7_15.toNat v1003 (by have := h1001; simp only [Bool.and_eq_true, decide_eq_true_eq] at this; omega)) ob0)))))) (by kernel_rfl))
 ·exact zy (g := fun r => (Ex.nor, z7d p0 p1 p2 s1_11 v602 s7_15 s7_23 r)) g2 (zqe [(95, 8, 2, .q (.ptr 0 4 (s7_15.toNat))), (95, 8, 3, .q (xb (s7_23 s7_15.toNat))), (95, 8, 4, .q (xb false)), (95, 8, 18, .q (.ptr 0 4 (s7_15.toNat))), (95, 8, 19, .st ((aB 61 (upd s7_23 s7_15.toNat false)).map .d))] [] (ob (zrd (m := 61) 0 4 0 1 s7_15.toNat h1001 (by omega)) (ob (zds 61 s7_23 s7_15.toNat (by have := h1001; simp only [Bool.and_eq_true, decide_eq_true_eq] at this; omega)) (ob (o_b h1002) (ob (zrd (m := 61) 0 4 0 1 s7_15.toNat h1001 (by omega)) (ob (zyk 61 s7_23 s7_15.toNat false (by have := h1001; simp only [Bool.and_eq_true, decide_eq_true_eq] at this; omega)) ob0))))) (by kernel_rfl))
noncomputable def zQm (p0 : zd) (p1 : zt0) (p2 s1_11 : Int) (v602 : zo) (s7_15 : Int) (s7_23 : zt0) : St := ⟨(zFt p0 p1 p2 s1_11 ++ [(37, (xb false)), (38, (xi s7_15))]), ⟨[(zc 3 (zn p0)), (zc 4 (aB 61 s7_23)), (zc 6 (aB 61 (fun _ => false))), (zc 8 (zi v602))], []⟩, []⟩
noncomputable def zlf (p0 : zd) (p1 : zt0) (p2 s1_11 : Int) (v602 : zo) (r : zt15) : St := ⟨(zFt p0 p1 p2 s1_11 ++ [(37, (xb false)), (38, (xi r.1)), (39, (xb false))]), ⟨[(zc 3 (zn p0)), (zc 4 (aB 61 r.2)), (zc 6 (aB 61 (fun _ => false))), (zc 8 (zi v602))], []⟩, []⟩
noncomputable def zIm (p0 : zd) (p1 : zt0) (p2 s1_11 : Int) (v602 : zo) : (Int × (Nat → Bool)) → Ex × St := fun r => ((.exit 2), zlf p0 p1 p2 s1_11 v602 r)
theorem zfm (k : Nat) (p0 : zd) (p1 : zt0) (p2 s1_11 : Int) (v602 : zo) (s7_15 : Int) (s7_23 : zt0) (x : (Int × (Nat → Bool)) ⊕ (Int × (Nat → Bool))) (h : zIc k p0 p1 p2 s1_11 v602 s7_15 s7_23 = some x) : zO TE 95 (blk TE 95 2) (fun s : (Int × (Nat → Bool)) => zQm p0 p1 p2 s1_11 v602 s.1 s.2) (zIm p0 p1 p2 s1_11 v602) (s7_15, s7_23) x := by
 unfold zIc at h
 refine zm h (fun h901 g1 => ?_) (fun h901 g1 => ?_)
 ·refine zj g1 (fun v902 h903 g2 => ?_)
  exact zqn ((w64 (s7_15 + 1)), v902) [] [(95, 6, 0, .q (xb true))] [(95, 1000008, (.nor, z7d p0 p1 p2 s1_11 v602 s7_15 s7_23 v902))] g2 (ob (o_b h901) (ob (zhm k p0 p1 p2 s1_11 v602 s7_15 s7_23 _ h903) ob0)) (by kernel_rfl)
 ·exact zqo [(95, 6, 0, .q (xb false))] [] g1 (ob (o_b h901) ob0) (by kernel_rfl)
noncomputable def z4C (p0 : zd) (p1 : zt0) (p2 s1_11 : Int) : TM := [(0, (.d (.agg (zn p0)))), (1, (.d (.agg (aB 61 p1)))), (2, (xi p2)), (zsp 3), (zsp 4), (zsp 6), (12, (.d (dl zi p0.ShelfBook.Counts.1 p0.ShelfBook.Counts.2))), (13, (xi (p0.ShelfBook.Counts.1.length : Int))), (14, (xi s1_11))]
noncomputable def zTm (p0 : zd) (p1 : zt0) (p2 s1_11 : Int) (s1_19 : zt0) : St := ⟨(z4C p0 p1 p2 s1_11), ⟨[(zc 3 (zn p0)), (zc 4 (aB 61 s1_19)), (zc 6 (aB 61 (fun _ => false)))], []⟩, []⟩
noncomputable def zZC (p0 : zd) (p1 : zt0) (p2 : Int) (r : zt15) : TM := [(0, (.d (.agg (zn p0)))), (1, (.d (.agg (aB 61 p1)))), (2, (xi p2)), (zsp 3), (zsp 4), (zsp 6), (12, (.d (dl zi p0.ShelfBook.Counts.1 p0.ShelfBook.Counts.2))), (13, (xi (p0.ShelfBook.Counts.1.length : Int))), (14, (xi r.1)), (15, (xb false))]
noncomputable def zof (p0 : zd) (p1 : zt0) (p2 : Int) (r : zt15) : St := ⟨(zZC p0 p1 p2 r), ⟨[(zc 3 (zn p0)), (zc 4 (aB 61 r.2)), (zc 6 (aB 61 (fun _ => false)))], []⟩, []⟩
noncomputable def zUm (p0 : zd) (p1 : zt0) (p2 : Int) : (Int × (Nat → Bool)) → Ex × St := fun r => ((.exit 0), zof p0 p1 p2 r)
theorem zvm (k : Nat) (p0 : zd) (p1 : zt0) (p2 s1_11 : Int) (s1_19 : zt0) (x : (Int × (Nat → Bool)) ⊕ (Int × (Nat → Bool))) (h : zAd k p0 p1 p2 s1_11 s1_19 = some x) : zO TE 95 (blk TE 95 0) (fun s : (Int × (Nat → Bool)) => zTm p0 p1 p2 s.1 s.2) (zUm p0 p1 p2) (s1_11, s1_19) x := by
 unfold zAd at h
 refine zm h (fun h601 g1 => ?_) (fun h601 g1 => ?_)
 ·refine zj g1 (fun v602 h603 g2 => ?_)
  refine zj g2 (fun v604 h605 g3 => ?_)
  refine zm g3 (fun h606 g4 => ?_) (fun h606 g4 => ?_)
  ·subst h606
   exact zqn ((w64 (s1_11 + 1)), s1_19) [] [(95, 2, 0, .q (xb true)), (95, 3, 1, .q (.d (.pin (zi v602))))] [(95, 1000004, (.nor, zmc p0 p1 p2 s1_11 s1_19 v602 true))] g4 (ob (o_b h601) (ob (o_ia (e := zi) 4 h603 rfl) (ob (zUh k p0 p1 p2 s1_11 s1_19 v602 _ h605) ob0))) (by kernel_rfl)
  ·subst h606
   refine zj g4 (fun v607 h608 g5 => ?_)
   exact zqn ((w64 (s1_11 + 1)), v607.2) [] [(95, 2, 0, .q (xb true)), (95, 3, 1, .q (.d (.pin (zi v602))))] [(95, 1000004, (.nor, zmc p0 p1 p2 s1_11 s1_19 v602 false)), (95, 2, (.nor, zlf p0 p1 p2 s1_11 v602 v607))] g5 (ob (o_b h601) (ob (o_ia (e := zi) 4 h603 rfl) (ob (zUh k p0 p1 p2 s1_11 s1_19 v602 _ h605) (ob (zF (id := 2) (r' := (.nor, zlf p0 p1 p2 s1_11 v602 v607)) (zbc (zfm k p0 p1 p2 s1_11 v602) k _ _ h608) rfl) ob0)))) (by kernel_rfl)
 ·exact zqo [(95, 2, 0, .q (xb false))] [] g1 (ob (o_b h601) ob0) (by kernel_rfl)
theorem z2i (k : Nat) (p0 : zd) (p1 : zt0) (p2 : Int) (r : zt0) (h : zyd k p0 p1 p2 = some r) : zL TE (ev TE) 95 [(.agg (zn p0)), (.agg (aB 61 p1)), (di p2)] = some (zsj r) := by
 unfold zyd at h
 refine zj h (fun v1 h2 g1 => ?_)
 exact zI (g := zsj) g1 (zqc [(95, 1, 3, .q (xi (p0.ShelfBook.Counts.1.length : Int)))] [(95, 0, (.nor, zof p0 p1 p2 v1))] (ob (zw zi p0.ShelfBook.Counts.1) (ob (zF (id := 0) (r' := (.nor, zof p0 p1 p2 v1)) (zbc (zvm k p0 p1 p2) k _ _ h2) rfl) ob0)) (by kernel_rfl))
noncomputable def zuC (v1 : zt0) (s1_2 : Int) : TM := [(0, (.yld 0)), (1, (.d (.pin (aB 61 v1)))), (5, (.d (.agg (aB 61 v1)))), (6, (xi s1_2)), (7, (xb true)), (3, (xi s1_2)), (4, (xb (v1 s1_2.toNat))), (16, (xb false))]
noncomputable def z7v (p0 p1 v1 : zt0) : TM := [(0, (.d (.agg (aB 61 p0)))), (1, (.d (.agg (aB 61 p1)))), (zsp 2), (zsp 3), (zsp 4), (7, (.d (.fn 96 [] [(.pin (aB 61 v1))])))]
noncomputable def zzh (p0 p1 v1 : zt0) (s1_2 : Int) (s1_3 r : zt0) : St := ⟨(zuC v1 s1_2), ⟨[], [[(zc 2 (aB 61 r)), (zc 3 (aB 61 p1)), (zc 4 (aB 61 (fun _ => false)))]]⟩, [⟨(z7v p0 p1 v1), 0, rfP (blk TE 94 0), rfA (blk TE 94 0), rfB (blk TE 94 0), 94, .rdy⟩]⟩
noncomputable def z9C (v1 : zt0) (s1_2 : Int) : TM := [(0, (.yld 0)), (1, (.d (.pin (aB 61 v1)))), (5, (.d (.agg (aB 61 v1)))), (6, (xi s1_2)), (7, (xb true)), (3, (xi s1_2)), (4, (xb (v1 s1_2.toNat)))]
theorem zlr (k : Nat) (p0 p1 v1 : zt0) (s1_2 : Int) (s1_3 r : zt0) (h : zzi k p0 p1 v1 s1_2 s1_3 = some r) : ev TE 96 (rgn TE 96 3) ⟨(z9C v1 s1_2), ⟨[], [[(zc 2 (aB 61 s1_3)), (zc 3 (aB 61 p1)), (zc 4 (aB 61 (fun _ => false)))]]⟩, [⟨(z7v p0 p1 v1), 0, rfP (blk TE 94 0), rfA (blk TE 94 0), rfB (blk TE 94 0), 94, .rdy⟩]⟩ = some (.nor, zzh p0 p1 v1 s1_2 s1_3 r) := by
 unfold zzi at h
 refine zm h (fun h401 g1 => ?_) (fun h401 g1 => ?_)
 ·refine zR g1 (fun h402 g2 => ?_)
  exact zy (g := fun r => (Ex.nor, zzh p0 p1 v1 s1_2 s1_3 r)) g2 (zqe [(96, 3, 1, .q (xb true)), (94, 3, 1, .q (.ptr 0 2 (s1_2.toNat))), (94, 3, 2, .st ((aB 61 (upd s1_3 s1_2.toNat true)).map .d))] [] (ob (o_b h401) (ob (zrd (m := 61) 0 2 0 1 s1_2.toNat h402 (by omega)) (ob (zyk 61 s1_3 s1_2.toNat true (by have := h402; simp only [Bool.and_eq_true, decide_eq_true_eq] at this; omega)) ob0))) (by kernel_rfl))
 ·exact zy (g := fun r => (Ex.nor, zzh p0 p1 v1 s1_2 s1_3 r)) g1 (zqe [(96, 3, 1, .q (xb false))] [] (ob (o_b h401) ob0) (by kernel_rfl))
noncomputable def zVC (v1 : zt0) (s1_2 : Int) : TM := [(0, (.yld 0)), (1, (.d (.pin (aB 61 v1)))), (5, (.d (.agg (aB 61 v1)))), (6, (xi s1_2))]
noncomputable def zXr (p0 p1 v1 : zt0) (s1_2 : Int) (s1_3 : zt0) : St := ⟨(zVC v1 s1_2), ⟨[], [[(zc 2 (aB 61 s1_3)), (zc 3 (aB 61 p1)), (zc 4 (aB 61 (fun _ => false)))]]⟩, [⟨(z7v p0 p1 v1), 0, rfP (blk TE 94 0), rfA (blk TE 94 0), rfB (blk TE 94 0), 94, .rdy⟩]⟩
noncomputable def z1C (v1 : zt0) (r : zt15) : TM := [(0, (.yld 0)), (1, (.d (.pin (aB 61 v1)))), (5, (.d (.agg (aB 61 v1)))), (6, (xi r.1)), (7, (xb false))]
noncomputable def zQi (p0 p1 v1 : zt0) (r : zt15) : St := ⟨(z1C v1 r), ⟨[], [[(zc 2 (aB 61 r.2)), (zc 3 (aB 61 p1)), (zc 4 (aB 61 (fun _ => false)))]]⟩, [⟨(z7v p0 p1 v1), 0, rfP (blk TE 94 0), rfA (blk TE 94 0), rfB (blk TE 94 0), 94, .rdy⟩]⟩
noncomputable def zAr (p0 p1 v1 : zt0) : (Int × (Nat → Bool)) → Ex × St := fun r => ((.exit 0), zQi p0 p1 v1 r)
theorem zcr (k : Nat) (p0 p1 v1 : zt0) (s1_2 : Int) (s1_3 : zt0) (x : (Int × (Nat → Bool)) ⊕ (Int × (Nat → Bool))) (h : zmh k p0 p1 v1 s1_2 s1_3 = some x) : zO TE 96 (blk TE 96 0) (fun s : (Int × (Nat → Bool)) => zXr p0 p1 v1 s.1 s.2) (zAr p0 p1 v1) (s1_2, s1_3) x := by
 unfold zmh at h
 refine zm h (fun h301 g1 => ?_) (fun h301 g1 => ?_)
 ·refine zR g1 (fun h302 g2 => ?_)
  refine zj g2 (fun v303 h304 g3 => ?_)
  exact zqn ((w64 (s1_2 + 1)), v303) [] [(96, 1, 0, .q (xb true)), (96, 2, 1, .q (xb (v1 s1_2.toNat)))] [(96, 1000003, (.nor, zzh p0 p1 v1 s1_2 s1_3 v303))] g3 (ob (o_b h301) (ob (zMr 61 v1 s1_2 h302) (ob (zlr k p0 p1 v1 s1_2 s1_3 _ h304) ob0))) (by kernel_rfl)
 ·exact zqo [(96, 1, 0, .q (xb false))] [] g1 (ob (o_b h301) ob0) (by kernel_rfl)
theorem zap (k : Nat) (p0 p1 r : zt0) (h : zei k p0 p1 = some r) : zL TE (ev TE) 94 [(.agg (aB 61 p0)), (.agg (aB 61 p1))] = some (zUp r) := by
 unfold zei at h
 refine zj h (fun v1 h2 g1 => ?_)
 refine zj g1 (fun v3 h4 g2 => ?_)
 exact zI (g := zUp) g2 (zqc [(94, 1, 1, .c (.fn 96 [] [(.pin (aB 61 v1))]))] [(96, 0, (.nor, zQi p0 p1 v1 v3))] (ob (z9d k p1 _ h2) (ob (zF (id := 0) (r' := (.nor, zQi p0 p1 v1 v3)) (zbc (zcr k p0 p1 v1) k _ _ h4) rfl) ob0)) (by kernel_rfl))
noncomputable def zKC (v3105 : zt8) (s31_10 s36_15 : Int) (r : Bool) : TM := [(0, (.yld 0)), (1, (.d (.pin [(di v3105.1), (dl zk v3105.2.1.1 v3105.2.1.2), (dl zl v3105.2.2.1.1 v3105.2.2.1.2), (dl zh v3105.2.2.2.1.1 v3105.2.2.2.1.2), (dl zi v3105.2.2.2.2.1.1 v3105.2.2.2.2.1.2), (di v3105.2.2.2.2.2.1), (di v3105.2.2.2.2.2.2.1)]))), (2, (.d (.pin [(di v3105.2.2.2.2.2.2.2.1)]))), (3, (.d (.pin [(di v3105.2.2.2.2.2.2.2.2)]))), (14, (xi (zJ 1 (v3105.2.2.2.1.1.length : Int)))), (15, (xi s31_10)), (16, (xb true)), (5, (xi s31_10)), (20, (.d (dl zh v3105.2.2.2.1.1 v3105.2.2.2.1.2))), (21, (xi (v3105.2.2.2.1.1.length : Int))), (22, (xi s36_15)), (23, (xb true)), (7, (.ptr 1 7 0)), (6, (xi s36_15)), (8, (xb ((zsb (zW v3105.2.2.2.2.2.2.2.1 s36_15) 1) == 1))), (9, (xb ((zsb (zW s31_10 s36_15) 1) == 1))), (41, (xb false)), (76, (xb r))]
noncomputable def zvl (p0 : zd) (s1_8 s21_11 : Int) (v3105 : zt8) : TM := [(0, (.d (.agg (zn p0)))), (zsp 1), (2, (.d .nilm)), (zsp 3), (18, (xi p0.ShelfBook.Days)), (19, (xi s1_8)), (20, (xb true)), (zsp 4), (26, (xi (zJ 1 (p0.ShelfBook.Deliveries.1.length : Int)))), (27, (xi s21_11)), (28, (xb true)), (zsp 5), (zsp 6), (38, (xb false)), (42, (.d (.fn 97 [] [(.pin [(di v3105.1), (dl zk v3105.2.1.1 v3105.2.1.2), (dl zl v3105.2.2.1.1 v3105.2.2.1.2), (dl zh v3105.2.2.2.1.1 v3105.2.2.2.1.2), (dl zi v3105.2.2.2.2.1.1 v3105.2.2.2.2.1.2), (di v3105.2.2.2.2.2.1), (di v3105.2.2.2.2.2.2.1)]), (.pin [(di v3105.2.2.2.2.2.2.2.1)]), (.pin [(di v3105.2.2.2.2.2.2.2.2)])])))]
noncomputable def zT (p0 : zd) (s1_8 s21_11 : Int) (s21_19 : zt2) (v3105 : zt8) (s31_10 : Int) (s31_18 : zt2) (s36_15 : Int) (v3802 : zu) (r : Bool) : St := ⟨(zKC v3105 s31_10 s36_15 r), ⟨[(zc 7 (zh v3802))], [[(zc 1 (zn p0)), (11, (.map (em (fun k => D.agg (zB k)) (fun v => D.agg ((aB 61) v)) s31_18))), (3, (.cells [(.map 0 11)])), (4, (.cells [(xi s1_8)])), (5, (.cells [(xi s21_11)])), (zc 6 (aB 61 ((zZ zA (⟨(w64 (s1_8 - 1)), s21_11⟩ : zq) s21_19).getD (fun _ => false))))]]⟩, [⟨(zvl p0 s1_8 s21_11 v3105), 0, rfP (blk TE 81 4), rfA (blk TE 81 4), rfB (blk TE 81 4), 81, .rdy⟩]⟩
noncomputable def z7C (v3105 : zt8) (s31_10 s36_15 : Int) : TM := [(0, (.yld 0)), (1, (.d (.pin [(di v3105.1), (dl zk v3105.2.1.1 v3105.2.1.2), (dl zl v3105.2.2.1.1 v3105.2.2.1.2), (dl zh v3105.2.2.2.1.1 v3105.2.2.2.1.2), (dl zi v3105.2.2.2.2.1.1 v3105.2.2.2.2.1.2), (di v3105.2.2.2.2.2.1), (di v3105.2.2.2.2.2.2.1)]))), (2, (.d (.pin [(di v3105.2.2.2.2.2.2.2.1)]))), (3, (.d (.pin [(di v3105.2.2.2.2.2.2.2.2)]))), (14, (xi (zJ 1 (v3105.2.2.2.1.1.length : Int)))), (15, (xi s31_10)), (16, (xb true)), (5, (xi s31_10)), (20, (.d (dl zh v3105.2.2.2.1.1 v3105.2.2.2.1.2))), (21, (xi (v3105.2.2.2.1.1.length : Int))), (22, (xi s36_15)), (23, (xb true)), (7, (.ptr 1 7 0)), (6, (xi s36_15)), (8, (xb ((zsb (zW v3105.2.2.2.2.2.2.2.1 s36_15) 1) == 1))), (9, (xb ((zsb (zW s31_10 s36_15) 1) == 1))), (41, (xb false))]
theorem zji (k : Nat) (p0 : zd) (s1_8 s21_11 : Int) (s21_19 : zt2) (v3105 : zt8) (s31_10 : Int) (s31_18 : zt2) (s36_15 : Int) (v3802 : zu) (r : Bool) (h : z4e k p0 s1_8 s21_11 s21_19 v3105 s31_10 s31_18 s36_15 v3802 = some r) : ev TE 97 (rgn TE 97 9) ⟨(z7C v3105 s31_10 s36_15), ⟨[(zc 7 (zh v3802))], [[(zc 1 (zn p0)), (11, (.map (em (fun k => D.agg (zB k)) (fun v => D.agg ((aB 61) v)) s31_18))), (3, (.cells [(.map 0 11)])), (4, (.cells [(xi s1_8)])), (5, (.cells [(xi s21_11)])), (zc 6 (aB 61 ((zZ zA (⟨(w64 (s1_8 - 1)), s21_11⟩ : zq) s21_19).getD (fun _ => false))))]]⟩, [⟨(zvl p0 s1_8 s21_11 v3105), 0, rfP (blk TE 81 4), rfA (blk TE 81 4), rfB (blk TE 81 4), 81, .rdy⟩]⟩ = some (.nor, zT p0 s1_8 s21_11 s21_19 v3105 s31_10 s31_18 s36_15 v3802 r) := by
 unfold z4e at h
 refine zm h (fun h3901 g1 => ?_) (fun h3901 g1 => ?_)
 ·refine zm g1 (fun h3902 g2 => ?_) (fun h3902 g2 => ?_)
  ·exact zy (g := fun r => (Ex.nor, zT p0 s1_8 s21_11 s21_19 v3105 s31_10 s31_18 s36_15 v3802 r)) g2 (zqe [(97, 9, 1, .q (xb true)), (97, 9, 5, .q (xb true))] [] (ob (o_b h3901) (ob (o_b h3902) ob0)) (by kernel_rfl))
  ·refine zm g2 (fun h3903 g3 => ?_) (fun h3903 g3 => ?_)
   ·refine zm g3 (fun h3904 g4 => ?_) (fun h3904 g4 => ?_)
    ·refine zj g4 (fun v3905 h3906 g5 => ?_)
     refine zm g5 (fun h3907 g6 => ?_) (fun h3907 g6 => ?_)
     ·exact zy (g := fun r => (Ex.nor, zT p0 s1_8 s21_11 s21_19 v3105 s31_10 s31_18 s36_15 v3802 r)) g6 (zqe [(97, 9, 1, .q (xb true)), (97, 9, 5, .q (xb false)), (97, 9, 7, .q (xb true)), (97, 9, 11, .q (xb true)), (97, 9, 19, .c (db v3905)), (97, 9, 23, .q (xb true))] [] (ob (o_b h3901) (ob (o_b h3902) (ob (o_b h3903) (ob (o_b h3904) (ob (zE k v3105.2.2.2.2.2.2.2.2 v3802.Days.Low v3802.Days.High _ h3906) (ob (o_b h3907) ob0)))))) (by kernel_rfl))
     ·exact zy (g := fun r => (Ex.nor, zT p0 s1_8 s21_11 s21_19 v3105 s31_10 s31_18 s36_15 v3802 r)) g6 (zqe [(97, 9, 1, .q (xb true)), (97, 9, 5, .q (xb false)), (97, 9, 7, .q (xb true)), (97, 9, 11, .q (xb true)), (97, 9, 19, .c (db v3905)), (97, 9, 23, .q (xb false)), (97, 9, 26, .q (xb false))] [] (ob (o_b h3901) (ob (o_b h3902) (ob (o_b h3903) (ob (o_b h3904) (ob (zE k v3105.2.2.2.2.2.2.2.2 v3802.Days.Low v3802.Days.High _ h3906) (ob (o_b h3907) (ob (o_b h3902) ob0))))))) (by kernel_rfl))
    ·exact zy (g := fun r => (Ex.nor, zT p0 s1_8 s21_11 s21_19 v3105 s31_10 s31_18 s36_15 v3802 r)) g4 (zqe [(97, 9, 1, .q (xb true)), (97, 9, 5, .q (xb false)), (97, 9, 7, .q (xb true)), (97, 9, 11, .q (xb false)), (97, 9, 26, .q (xb false))] [] (ob (o_b h3901) (ob (o_b h3902) (ob (o_b h3903) (ob (o_b h3904) (ob (o_b h3902) ob0))))) (by kernel_rfl))
   ·exact zy (g := fun r => (Ex.nor, zT p0 s1_8 s21_11 s21_19 v3105 s31_10 s31_18 s36_15 v3802 r)) g3 (zqe [(97, 9, 1, .q (xb true)), (97, 9, 5, .q (xb false)), (97, 9, 7, .q (xb false)), (97, 9, 26, .q (xb false))] [] (ob (o_b h3901) (ob (o_b h3902) (ob (o_b h3903) (ob (o_b h3902) ob0)))) (by kernel_rfl))
 ·refine zm g1 (fun h3902 g2 => ?_) (fun h3902 g2 => ?_)
  ·refine zm g2 (fun h3903 g3 => ?_) (fun h3903 g3 => ?_)
   ·refine zj g3 (fun v3904 h3905 g4 => ?_)
    refine zm g4 (fun h3906 g5 => ?_) (fun h3906 g5 => ?_)
    ·exact zy (g := fun r => (Ex.nor, zT p0 s1_8 s21_11 s21_19 v3105 s31_10 s31_18 s36_15 v3802 r)) g5 (zqe [(97, 9, 1, .q (xb false)), (97, 9, 7, .q (xb true)), (97, 9, 11, .q (xb true)), (97, 9, 19, .c (db v3904)), (97, 9, 23, .q (xb true))] [] (ob (o_b h3901) (ob (o_b h3902) (ob (o_b h3903) (ob (zE k v3105.2.2.2.2.2.2.2.2 v3802.Days.Low v3802.Days.High _ h3905) (ob (o_b h3906) ob0))))) (by kernel_rfl))
    ·refine zm g5 (fun h3907 g6 => ?_) (fun h3907 g6 => ?_)
     ·exact zy (g := fun r => (Ex.nor, zT p0 s1_8 s21_11 s21_19 v3105 s31_10 s31_18 s36_15 v3802 r)) g6 (zqe [(97, 9, 1, .q (xb false)), (97, 9, 7, .q (xb true)), (97, 9, 11, .q (xb true)), (97, 9, 19, .c (db v3904)), (97, 9, 23, .q (xb false)), (97, 9, 26, .q (xb true))] [] (ob (o_b h3901) (ob (o_b h3902) (ob (o_b h3903) (ob (zE k v3105.2.2.2.2.2.2.2.2 v3802.Days.Low v3802.Days.High _ h3905) (ob (o_b h3906) (ob (o_b h3907) ob0)))))) (by kernel_rfl))
     ·exact zy (g := fun r => (Ex.nor, zT p0 s1_8 s21_11 s21_19 v3105 s31_10 s31_18 s36_15 v3802 r)) g6 (zqe [(97, 9, 1, .q (xb false)), (97, 9, 7, .q (xb true)), (97, 9, 11, .q (xb true)), (97, 9, 19, .c (db v3904)), (97, 9, 23, .q (xb false)), (97, 9, 26, .q (xb false))] [] (ob (o_b h3901) (ob (o_b h3902) (ob (o_b h3903) (ob (zE k v3105.2.2.2.2.2.2.2.2 v3802.Days.Low v3802.Days.High _ h3905) (ob (o_b h3906) (ob (o_b h3907) ob0)))))) (by kernel_rfl))
   ·refine zm g3 (fun h3904 g4 => ?_) (fun h3904 g4 => ?_)
    ·exact zy (g := fun r => (Ex.nor, zT p0 s1_8 s21_11 s21_19 v3105 s31_10 s31_18 s36_15 v3802 r)) g4 (zqe [(97, 9, 1, .q (xb false)), (97, 9, 7, .q (xb true)), (97, 9, 11, .q (xb false)), (97, 9, 26, .q (xb true))] [] (ob (o_b h3901) (ob (o_b h3902) (ob (o_b h3903) (ob (o_b h3904) ob0)))) (by kernel_rfl))
    ·exact zy (g := fun r => (Ex.nor, zT p0 s1_8 s21_11 s21_19 v3105 s31_10 s31_18 s36_15 v3802 r)) g4 (zqe [(97, 9, 1, .q (xb false)), (97, 9, 7, .q (xb true)), (97, 9, 11, .q (xb false)), (97, 9, 26, .q (xb false))] [] (ob (o_b h3901) (ob (o_b h3902) (ob (o_b h3903) (ob (o_b h3904) ob0)))) (by kernel_rfl))
  ·refine zm g2 (fun h3903 g3 => ?_) (fun h3903 g3 => ?_)
   ·exact zy (g := fun r => (Ex.nor, zT p0 s1_8 s21_11 s21_19 v3105 s31_10 s31_18 s36_15 v3802 r)) g3 (zqe [(97, 9, 1, .q (xb false)), (97, 9, 7, .q (xb false)), (97, 9, 26, .q (xb true))] [] (ob (o_b h3901) (ob (o_b h3902) (ob (o_b h3903) ob0))) (by kernel_rfl))
   ·exact zy (g := fun r => (Ex.nor, zT p0 s1_8 s21_11 s21_19 v3105 s31_10 s31_18 s36_15 v3802 r)) g3 (zqe [(97, 9, 1, .q (xb false)), (97, 9, 7, .q (xb false)), (97, 9, 26, .q (xb false))] [] (ob (o_b h3901) (ob (o_b h3902) (ob (o_b h3903) ob0))) (by kernel_rfl))
noncomputable def zbC (v3105 : zt8) (s31_10 s36_15 : Int) : TM := [(0, (.yld 0)), (1, (.d (.pin [(di v3105.1), (dl zk v3105.2.1.1 v3105.2.1.2), (dl zl v3105.2.2.1.1 v3105.2.2.1.2), (dl zh v3105.2.2.2.1.1 v3105.2.2.2.1.2), (dl zi v3105.2.2.2.2.1.1 v3105.2.2.2.2.1.2), (di v3105.2.2.2.2.2.1), (di v3105.2.2.2.2.2.2.1)]))), (2, (.d (.pin [(di v3105.2.2.2.2.2.2.2.1)]))), (3, (.d (.pin [(di v3105.2.2.2.2.2.2.2.2)]))), (14, (xi (zJ 1 (v3105.2.2.2.1.1.length : Int)))), (15, (xi s31_10)), (16, (xb true)), (5, (xi s31_10)), (20, (.d (dl zh v3105.2.2.2.1.1 v3105.2.2.2.1.2))), (21, (xi (v3105.2.2.2.1.1.length : Int))), (22, (xi s36_15))]
noncomputable def zEn (p0 : zd) (s1_8 s21_11 : Int) (s21_19 : zt2) (v3105 : zt8) (s31_10 : Int) (s31_18 : zt2) (s36_15 : Int) : St := ⟨(zbC v3105 s31_10 s36_15), ⟨[], [[(zc 1 (zn p0)), (11, (.map (em (fun k => D.agg (zB k)) (fun v => D.agg ((aB 61) v)) s31_18))), (3, (.cells [(.map 0 11)])), (4, (.cells [(xi s1_8)])), (5, (.cells [(xi s21_11)])), (zc 6 (aB 61 ((zZ zA (⟨(w64 (s1_8 - 1)), s21_11⟩ : zq) s21_19).getD (fun _ => false))))]]⟩, [⟨(zvl p0 s1_8 s21_11 v3105), 0, rfP (blk TE 81 4), rfA (blk TE 81 4), rfB (blk TE 81 4), 81, .rdy⟩]⟩
noncomputable def z5B (v3105 : zt8) (s31_10 : Int) (r : (Int × Bool × Bool × Int × Int × Int × Int × Int)) : TM := [(0, (.yld 0)), (1, (.d (.pin [(di v3105.1), (dl zk v3105.2.1.1 v3105.2.1.2), (dl zl v3105.2.2.1.1 v3105.2.2.1.2), (dl zh v3105.2.2.2.1.1 v3105.2.2.2.1.2), (dl zi v3105.2.2.2.2.1.1 v3105.2.2.2.2.1.2), (di v3105.2.2.2.2.2.1), (di v3105.2.2.2.2.2.2.1)]))), (2, (.d (.pin [(di v3105.2.2.2.2.2.2.2.1)]))), (3, (.d (.pin [(di v3105.2.2.2.2.2.2.2.2)]))), (14, (xi (zJ 1 (v3105.2.2.2.1.1.length : Int)))), (15, (xi s31_10)), (16, (xb true)), (5, (xi s31_10)), (20, (.d (dl zh v3105.2.2.2.1.1 v3105.2.2.2.1.2))), (21, (xi (v3105.2.2.2.1.1.length : Int))), (22, (xi r.1)), (23, (xb true)), (7, (.ptr 1 7 0)), (6, (xi r.1)), (8, (xb r.2.1)), (9, (xb r.2.2.1)), (41, (xb true)), (42, (xb true))]
noncomputable def zPf (p0 : zd) (s1_8 s21_11 : Int) (s21_19 : zt2) (v3105 : zt8) (s31_10 : Int) (s31_18 : zt2) (r : (Int × Bool × Bool × Int × Int × Int × Int × Int)) : St := ⟨(z5B v3105 s31_10 r), ⟨[(7, (.cells [(xi r.2.2.2.1), (xi r.2.2.2.2.1), (xi r.2.2.2.2.2.1), (xi r.2.2.2.2.2.2.1), (xi r.2.2.2.2.2.2.2)]))], [[(zc 1 (zn p0)), (11, (.map (em (fun k => D.agg (zB k)) (fun v => D.agg ((aB 61) v)) s31_18))), (3, (.cells [(.map 0 11)])), (4, (.cells [(xi s1_8)])), (5, (.cells [(xi s21_11)])), (zc 6 (aB 61 ((zZ zA (⟨(w64 (s1_8 - 1)), s21_11⟩ : zq) s21_19).getD (fun _ => false))))]]⟩, [⟨(zvl p0 s1_8 s21_11 v3105), 0, rfP (blk TE 81 4), rfA (blk TE 81 4), rfB (blk TE 81 4), 81, .rdy⟩]⟩
noncomputable def zlC (v3105 : zt8) (s31_10 : Int) (r : (Int × Bool × Bool × Int × Int × Int × Int × Int)) : TM := [(0, (.yld 0)), (1, (.d (.pin [(di v3105.1), (dl zk v3105.2.1.1 v3105.2.1.2), (dl zl v3105.2.2.1.1 v3105.2.2.1.2), (dl zh v3105.2.2.2.1.1 v3105.2.2.2.1.2), (dl zi v3105.2.2.2.2.1.1 v3105.2.2.2.2.1.2), (di v3105.2.2.2.2.2.1), (di v3105.2.2.2.2.2.2.1)]))), (2, (.d (.pin [(di v3105.2.2.2.2.2.2.2.1)]))), (3, (.d (.pin [(di v3105.2.2.2.2.2.2.2.2)]))), (14, (xi (zJ 1 (v3105.2.2.2.1.1.length : Int)))), (15, (xi s31_10)), (16, (xb true)), (5, (xi s31_10)), (20, (.d (dl zh v3105.2.2.2.1.1 v3105.2.2.2.1.2))), (21, (xi (v3105.2.2.2.1.1.length : Int))), (22, (xi r.1)), (23, (xb true)), (7, (.ptr 1 7 0)), (6, (xi r.1)), (8, (xb r.2.1)), (9, (xb r.2.2.1)), (41, (xb false)), (76, (xb true))]
noncomputable def zJf (p0 : zd) (s1_8 s21_11 : Int) (s21_19 : zt2) (v3105 : zt8) (s31_10 : Int) (s31_18 : zt2) (r : (Int × Bool × Bool × Int × Int × Int × Int × Int)) : St := ⟨(zlC v3105 s31_10 r), ⟨[(7, (.cells [(xi r.2.2.2.1), (xi r.2.2.2.2.1), (xi r.2.2.2.2.2.1), (xi r.2.2.2.2.2.2.1), (xi r.2.2.2.2.2.2.2)]))], [[(zc 1 (zn p0)), (11, (.map (em (fun k => D.agg (zB k)) (fun v => D.agg ((aB 61) v)) s31_18))), (3, (.cells [(.map 0 11)])), (4, (.cells [(xi s1_8)])), (5, (.cells [(xi s21_11)])), (zc 6 (aB 61 ((zZ zA (⟨(w64 (s1_8 - 1)), s21_11⟩ : zq) s21_19).getD (fun _ => false))))]]⟩, [⟨(zvl p0 s1_8 s21_11 v3105), 0, rfP (blk TE 81 4), rfA (blk TE 81 4), rfB (blk TE 81 4), 81, .rdy⟩]⟩
noncomputable def ziC (v3105 : zt8) (s31_10 r : Int) : TM := [(0, (.yld 0)), (1, (.d (.pin [(di v3105.1), (dl zk v3105.2.1.1 v3105.2.1.2), (dl zl v3105.2.2.1.1 v3105.2.2.1.2), (dl zh v3105.2.2.2.1.1 v3105.2.2.2.1.2), (dl zi v3105.2.2.2.2.1.1 v3105.2.2.2.2.1.2), (di v3105.2.2.2.2.2.1), (di v3105.2.2.2.2.2.2.1)]))), (2, (.d (.pin [(di v3105.2.2.2.2.2.2.2.1)]))), (3, (.d (.pin [(di v3105.2.2.2.2.2.2.2.2)]))), (14, (xi (zJ 1 (v3105.2.2.2.1.1.length : Int)))), (15, (xi s31_10)), (16, (xb true)), (5, (xi s31_10)), (20, (.d (dl zh v3105.2.2.2.1.1 v3105.2.2.2.1.2))), (21, (xi (v3105.2.2.2.1.1.length : Int))), (22, (xi r)), (23, (xb false))]
noncomputable def zOf (p0 : zd) (s1_8 s21_11 : Int) (s21_19 : zt2) (v3105 : zt8) (s31_10 : Int) (s31_18 : zt2) (r : Int) : St := ⟨(ziC v3105 s31_10 r), ⟨[], [[(zc 1 (zn p0)), (11, (.map (em (fun k => D.agg (zB k)) (fun v => D.agg ((aB 61) v)) s31_18))), (3, (.cells [(.map 0 11)])), (4, (.cells [(xi s1_8)])), (5, (.cells [(xi s21_11)])), (zc 6 (aB 61 ((zZ zA (⟨(w64 (s1_8 - 1)), s21_11⟩ : zq) s21_19).getD (fun _ => false))))]]⟩, [⟨(zvl p0 s1_8 s21_11 v3105), 0, rfP (blk TE 81 4), rfA (blk TE 81 4), rfB (blk TE 81 4), 81, .rdy⟩]⟩
noncomputable def zmn (p0 : zd) (s1_8 s21_11 : Int) (s21_19 : zt2) (v3105 : zt8) (s31_10 : Int) (s31_18 : zt2) : ((Int × Bool × Bool × Int × Int × Int × Int × Int) ⊕ ((Int × Bool × Bool × Int × Int × Int × Int × Int) ⊕ Int)) → Ex × St := Sum.elim (fun r => ((.exit 1), zPf p0 s1_8 s21_11 s21_19 v3105 s31_10 s31_18 r)) (Sum.elim (fun r => ((.exit 1), zJf p0 s1_8 s21_11 s21_19 v3105 s31_10 s31_18 r)) (fun r => ((.exit 2), zOf p0 s1_8 s21_11 s21_19 v3105 s31_10 s31_18 r)))
theorem zKf (k : Nat) (p0 : zd) (s1_8 s21_11 : Int) (s21_19 : zt2) (v3105 : zt8) (s31_10 : Int) (s31_18 : zt2) (s36_15 : Int) (x : Int ⊕ ((Int × Bool × Bool × Int × Int × Int × Int × Int) ⊕ ((Int × Bool × Bool × Int × Int × Int × Int × Int) ⊕ Int))) (h : zYc k p0 s1_8 s21_11 s21_19 v3105 s31_10 s31_18 s36_15 = some x) : zO TE 97 (blk TE 97 2) (fun s : Int => zEn p0 s1_8 s21_11 s21_19 v3105 s31_10 s31_18 s) (zmn p0 s1_8 s21_11 s21_19 v3105 s31_10 s31_18) s36_15 x := by
 unfold zYc at h
 refine zm h (fun h3801 g1 => ?_) (fun h3801 g1 => ?_)
 ·refine zj g1 (fun v3802 h3803 g2 => ?_)
  refine zm g2 (fun h3804 g3 => ?_) (fun h3804 g3 => ?_)
  ·cases g3
  ·refine zm g3 (fun h3805 g4 => ?_) (fun h3805 g4 => ?_)
   ·refine zm g4 (fun h3806 g5 => ?_) (fun h3806 g5 => ?_)
    ·exact zqo [(97, 4, 0, .q (xb true)), (97, 5, 1, .q (.d (.pin (zh v3802)))), (97, 6, 2, .q (xi (zW v3105.2.2.2.2.2.2.2.1 s36_15))), (97, 6, 7, .q (xi (zW s31_10 s36_15))), (97, 7, 4, .q (xb true)), (97, 8, 0, .q (xb true))] [] g5 (ob (o_b h3801) (ob (o_ia (e := zh) 5 h3803 rfl) (ob (z7e (x := v3105.2.2.2.2.2.2.2.1) h3804) (ob (z7e (x := s31_10) h3804) (ob (o_b h3805) (ob (o_b h3806) ob0)))))) (by kernel_rfl)
    ·exact zqn (w64 (s36_15 + 1)) [] [(97, 4, 0, .q (xb true)), (97, 5, 1, .q (.d (.pin (zh v3802)))), (97, 6, 2, .q (xi (zW v3105.2.2.2.2.2.2.2.1 s36_15))), (97, 6, 7, .q (xi (zW s31_10 s36_15))), (97, 7, 4, .q (xb true)), (97, 8, 0, .q (xb false))] [] g5 (ob (o_b h3801) (ob (o_ia (e := zh) 5 h3803 rfl) (ob (z7e (x := v3105.2.2.2.2.2.2.2.1) h3804) (ob (z7e (x := s31_10) h3804) (ob (o_b h3805) (ob (o_b h3806) ob0)))))) (by kernel_rfl)
   ·refine zj g4 (fun v3806 h3807 g5 => ?_)
    refine zm g5 (fun h3808 g6 => ?_) (fun h3808 g6 => ?_)
    ·subst h3808
     exact zqo [(97, 4, 0, .q (xb true)), (97, 5, 1, .q (.d (.pin (zh v3802)))), (97, 6, 2, .q (xi (zW v3105.2.2.2.2.2.2.2.1 s36_15))), (97, 6, 7, .q (xi (zW s31_10 s36_15))), (97, 7, 4, .q (xb false))] [(97, 1000009, (.nor, zT p0 s1_8 s21_11 s21_19 v3105 s31_10 s31_18 s36_15 v3802 true))] g6 (ob (o_b h3801) (ob (o_ia (e := zh) 5 h3803 rfl) (ob (z7e (x := v3105.2.2.2.2.2.2.2.1) h3804) (ob (z7e (x := s31_10) h3804) (ob (o_b h3805) (ob (zji k p0 s1_8 s21_11 s21_19 v3105 s31_10 s31_18 s36_15 v3802 _ h3807) ob0)))))) (by kernel_rfl)
    ·subst h3808
     exact zqn (w64 (s36_15 + 1)) [] [(97, 4, 0, .q (xb true)), (97, 5, 1, .q (.d (.pin (zh v3802)))), (97, 6, 2, .q (xi (zW v3105.2.2.2.2.2.2.2.1 s36_15))), (97, 6, 7, .q (xi (zW s31_10 s36_15))), (97, 7, 4, .q (xb false))] [(97, 1000009, (.nor, zT p0 s1_8 s21_11 s21_19 v3105 s31_10 s31_18 s36_15 v3802 false))] g6 (ob (o_b h3801) (ob (o_ia (e := zh) 5 h3803 rfl) (ob (z7e (x := v3105.2.2.2.2.2.2.2.1) h3804) (ob (z7e (x := s31_10) h3804) (ob (o_b h3805) (ob (zji k p0 s1_8 s21_11 s21_19 v3105 s31_10 s31_18 s36_15 v3802 _ h3807) ob0)))))) (by kernel_rfl)
 ·exact zqo [(97, 4, 0, .q (xb false))] [] g1 (ob (o_b h3801) ob0) (by kernel_rfl)
noncomputable def z3B (p0 : zd) (s1_8 s21_11 : Int) (v3105 : zt8) (s31_10 : Int) (v3606 : (SL zD)) (s39_27 : Int) : TM := zvl p0 s1_8 s21_11 v3105 ++ [(43, (xi s31_10)), (7, (xi s31_10)), (8, (.ptr 2 8 0)), (50, (.d (dl zM v3606.1 v3606.2))), (51, (xi (v3606.1.length : Int))), (52, (xi s39_27))]
noncomputable def zrn (p0 : zd) (s1_8 s21_11 : Int) (s21_19 : zt2) (v3105 : zt8) (s31_10 : Int) (s31_18 : zt2) (v3606 : (SL zD)) (s39_27 : Int) (s39_28 : zt0) : St := ⟨(z3B p0 s1_8 s21_11 v3105 s31_10 v3606 s39_27), ⟨[(zc 8 (aB 61 s39_28))], [[(zc 1 (zn p0)), (11, (.map (em (fun k => D.agg (zB k)) (fun v => D.agg ((aB 61) v)) s31_18))), (3, (.cells [(.map 0 11)])), (4, (.cells [(xi s1_8)])), (5, (.cells [(xi s21_11)])), (zc 6 (aB 61 ((zZ zA (⟨(w64 (s1_8 - 1)), s21_11⟩ : zq) s21_19).getD (fun _ => false))))], []]⟩, [⟨(zvl p0 s1_8 s21_11 v3105), 0, rfP (blk TE 81 4), rfA (blk TE 81 4), rfB (blk TE 81 4), 81, .busy⟩]⟩
noncomputable def zjC (p0 : zd) (s1_8 s21_11 : Int) (v3105 : zt8) (s31_10 : Int) (v3606 : (SL zD)) (r : zt15) : TM := zvl p0 s1_8 s21_11 v3105 ++ [(43, (xi s31_10)), (7, (xi s31_10)), (8, (.ptr 2 8 0)), (50, (.d (dl zM v3606.1 v3606.2))), (51, (xi (v3606.1.length : Int))), (52, (xi r.1)), (53, (xb false))]
noncomputable def zLf (p0 : zd) (s1_8 s21_11 : Int) (s21_19 : zt2) (v3105 : zt8) (s31_10 : Int) (s31_18 : zt2) (v3606 : (SL zD)) (r : zt15) : St := ⟨(zjC p0 s1_8 s21_11 v3105 s31_10 v3606 r), ⟨[(zc 8 (aB 61 r.2))], [[(zc 1 (zn p0)), (11, (.map (em (fun k => D.agg (zB k)) (fun v => D.agg ((aB 61) v)) s31_18))), (3, (.cells [(.map 0 11)])), (4, (.cells [(xi s1_8)])), (5, (.cells [(xi s21_11)])), (zc 6 (aB 61 ((zZ zA (⟨(w64 (s1_8 - 1)), s21_11⟩ : zq) s21_19).getD (fun _ => false))))], []]⟩, [⟨(zvl p0 s1_8 s21_11 v3105), 0, rfP (blk TE 81 4), rfA (blk TE 81 4), rfB (blk TE 81 4), 81, .busy⟩]⟩
noncomputable def zFn (p0 : zd) (s1_8 s21_11 : Int) (s21_19 : zt2) (v3105 : zt8) (s31_10 : Int) (s31_18 : zt2) (v3606 : (SL zD)) : (Int × (Nat → Bool)) → Ex × St := fun r => ((.exit 6), zLf p0 s1_8 s21_11 s21_19 v3105 s31_10 s31_18 v3606 r)
theorem zRm (k : Nat) (p0 : zd) (s1_8 s21_11 : Int) (s21_19 : zt2) (v3105 : zt8) (s31_10 : Int) (s31_18 : zt2) (v3606 : (SL zD)) (s39_27 : Int) (s39_28 : zt0) (x : (Int × (Nat → Bool)) ⊕ (Int × (Nat → Bool))) (h : z1c k p0 s1_8 s21_11 s21_19 v3105 s31_10 s31_18 v3606 s39_27 s39_28 = some x) : zO TE 81 (blk TE 81 6) (fun s : (Int × (Nat → Bool)) => zrn p0 s1_8 s21_11 s21_19 v3105 s31_10 s31_18 v3606 s.1 s.2) (zFn p0 s1_8 s21_11 s21_19 v3105 s31_10 s31_18 v3606) (s39_27, s39_28) x := by
 unfold z1c at h
 refine zm h (fun h4001 g1 => ?_) (fun h4001 g1 => ?_)
 ·refine zj g1 (fun v4002 h4003 g2 => ?_)
  refine zj g2 (fun v4004 h4005 g3 => ?_)
  exact zqn ((w64 (s39_27 + 1)), v4004) [] [(81, 14, 0, .q (xb true)), (81, 15, 0, .q (.d (.pin (zM v4002)))), (81, 16, 6, .c (.agg (aB 61 v4004)))] [] g3 (ob (o_b h4001) (ob (o_ia (e := zM) 3 h4003 rfl) (ob (zYj k p0 s39_28 v4002.way v4002.by_ _ h4005) ob0))) (by kernel_rfl)
 ·exact zqo [(81, 14, 0, .q (xb false))] [] g1 (ob (o_b h4001) ob0) (by kernel_rfl)
noncomputable def zYC (v3105 : zt8) (s31_10 : Int) : TM := [(0, (.yld 0)), (1, (.d (.pin [(di v3105.1), (dl zk v3105.2.1.1 v3105.2.1.2), (dl zl v3105.2.2.1.1 v3105.2.2.1.2), (dl zh v3105.2.2.2.1.1 v3105.2.2.2.1.2), (dl zi v3105.2.2.2.2.1.1 v3105.2.2.2.2.1.2), (di v3105.2.2.2.2.2.1), (di v3105.2.2.2.2.2.2.1)]))), (2, (.d (.pin [(di v3105.2.2.2.2.2.2.2.1)]))), (3, (.d (.pin [(di v3105.2.2.2.2.2.2.2.2)]))), (14, (xi (zJ 1 (v3105.2.2.2.1.1.length : Int)))), (15, (xi s31_10))]
noncomputable def zMn (p0 : zd) (s1_8 s21_11 : Int) (s21_19 : zt2) (v3105 : zt8) (s31_10 : Int) (s31_18 : zt2) : St := ⟨(zYC v3105 s31_10), ⟨[], [[(zc 1 (zn p0)), (11, (.map (em (fun k => D.agg (zB k)) (fun v => D.agg ((aB 61) v)) s31_18))), (3, (.cells [(.map 0 11)])), (4, (.cells [(xi s1_8)])), (5, (.cells [(xi s21_11)])), (zc 6 (aB 61 ((zZ zA (⟨(w64 (s1_8 - 1)), s21_11⟩ : zq) s21_19).getD (fun _ => false))))]]⟩, [⟨(zvl p0 s1_8 s21_11 v3105), 0, rfP (blk TE 81 4), rfA (blk TE 81 4), rfB (blk TE 81 4), 81, .rdy⟩]⟩
noncomputable def znC (v3105 : zt8) (r : zt11) : TM := [(0, (.yld 0)), (1, (.d (.pin [(di v3105.1), (dl zk v3105.2.1.1 v3105.2.1.2), (dl zl v3105.2.2.1.1 v3105.2.2.1.2), (dl zh v3105.2.2.2.1.1 v3105.2.2.2.1.2), (dl zi v3105.2.2.2.2.1.1 v3105.2.2.2.2.1.2), (di v3105.2.2.2.2.2.1), (di v3105.2.2.2.2.2.2.1)]))), (2, (.d (.pin [(di v3105.2.2.2.2.2.2.2.1)]))), (3, (.d (.pin [(di v3105.2.2.2.2.2.2.2.2)]))), (14, (xi (zJ 1 (v3105.2.2.2.1.1.length : Int)))), (15, (xi r.1)), (16, (xb false))]
noncomputable def zIf (p0 : zd) (s1_8 s21_11 : Int) (s21_19 : zt2) (v3105 : zt8) (r : zt11) : St := ⟨(znC v3105 r), ⟨[], [[(zc 1 (zn p0)), (11, (.map (em (fun k => D.agg (zB k)) (fun v => D.agg ((aB 61) v)) r.2))), (3, (.cells [(.map 0 11)])), (4, (.cells [(xi s1_8)])), (5, (.cells [(xi s21_11)])), (zc 6 (aB 61 ((zZ zA (⟨(w64 (s1_8 - 1)), s21_11⟩ : zq) s21_19).getD (fun _ => false))))]]⟩, [⟨(zvl p0 s1_8 s21_11 v3105), 0, rfP (blk TE 81 4), rfA (blk TE 81 4), rfB (blk TE 81 4), 81, .rdy⟩]⟩
noncomputable def zyn (p0 : zd) (s1_8 s21_11 : Int) (s21_19 : zt2) (v3105 : zt8) : (Int × (List (zq × (Nat → Bool)))) → Ex × St := fun r => ((.exit 0), zIf p0 s1_8 s21_11 s21_19 v3105 r)
theorem zJm (k : Nat) (p0 : zd) (s1_8 s21_11 : Int) (s21_19 : zt2) (v3105 : zt8) (s31_10 : Int) (s31_18 : zt2) (x : (Int × (List (zq × (Nat → Bool)))) ⊕ (Int × (List (zq × (Nat → Bool))))) (h : z0c k p0 s1_8 s21_11 s21_19 v3105 s31_10 s31_18 = some x) : zO TE 97 (blk TE 97 0) (fun s : (Int × (List (zq × (Nat → Bool)))) => zMn p0 s1_8 s21_11 s21_19 v3105 s.1 s.2) (zyn p0 s1_8 s21_11 s21_19 v3105) (s31_10, s31_18) x := by
 unfold z0c at h
 refine zm h (fun h3601 g1 => ?_) (fun h3601 g1 => ?_)
 ·refine zj g1 (fun v3602 h3603 g2 => ?_)
  refine zid g2 (fun v3605 hh g3_0 => ?_) (fun w2_0 hh g3_0 => ?_)
  ·subst hh
   exact zqn ((w64 (s31_10 + 1)), s31_18) [] [(97, 1, 0, .q (xb true)), (97, 3, 3, .q (xi (v3105.2.2.2.1.1.length : Int)))] [(97, 2, ((.exit 1), zPf p0 s1_8 s21_11 s21_19 v3105 s31_10 s31_18 v3605))] g3_0 (ob (o_b h3601) (ob (zw zh v3105.2.2.2.1.1) (ob (zF (id := 2) (r' := ((.exit 1), zPf p0 s1_8 s21_11 s21_19 v3105 s31_10 s31_18 v3605)) (zRb (zKf k p0 s1_8 s21_11 s21_19 v3105 s31_10 s31_18) k _ _ h3603) rfl) ob0))) (by kernel_rfl)
  ·subst hh
   refine zid g3_0 (fun v3605 hh g3_1 => ?_) (fun v3605 hh g3_1 => ?_)
   ·subst hh
    exact zqn ((w64 (s31_10 + 1)), s31_18) [] [(97, 1, 0, .q (xb true)), (97, 3, 3, .q (xi (v3105.2.2.2.1.1.length : Int)))] [(97, 2, ((.exit 1), zJf p0 s1_8 s21_11 s21_19 v3105 s31_10 s31_18 v3605))] g3_1 (ob (o_b h3601) (ob (zw zh v3105.2.2.2.1.1) (ob (zF (id := 2) (r' := ((.exit 1), zJf p0 s1_8 s21_11 s21_19 v3105 s31_10 s31_18 v3605)) (zRb (zKf k p0 s1_8 s21_11 s21_19 v3105 s31_10 s31_18) k _ _ h3603) rfl) ob0))) (by kernel_rfl)
   ·subst hh
    refine zj g3_1 (fun v3606 h3607 g4 => ?_)
    refine zj g4 (fun v3608 h3609 g5 => ?_)
    refine zj g5 (fun v3610 h3611 g6 => ?_)
    refine zj g6 (fun v3612 h3613 g7 => ?_)
    exact zqn ((w64 (s31_10 + 1)), (mset zA (⟨s1_8, s31_10⟩ : zq) v3612 s31_18)) [] [(97, 1, 0, .q (xb true)), (97, 3, 3, .q (xi (v3105.2.2.2.1.1.length : Int))), (81, 13, 5, .c (dl zM v3606.1 v3606.2)), (81, 13, 6, .q (xi (v3606.1.length : Int))), (81, 18, 8, .q (.d (.agg (aB 61 ((zZ zA (⟨s1_8, s31_10⟩ : zq) s31_18).getD (fun _ => false)))))), (81, 18, 12, .c (.agg (aB 61 v3610))), (81, 18, 13, .c (.agg (aB 61 v3612))), (81, 18, 14, .mp (em (fun k => D.agg (zB k)) (fun v => D.agg ((aB 61) v)) (mset zA (⟨s1_8, s31_10⟩ : zq) v3612 s31_18)))] [(97, 2, (.nor, zOf p0 s1_8 s21_11 s21_19 v3105 s31_10 s31_18 v3605)), (81, 6, (.nor, zLf p0 s1_8 s21_11 s21_19 v3105 s31_10 s31_18 v3606 v3608))] g7 (ob (o_b h3601) (ob (zw zh v3105.2.2.2.1.1) (ob (zF (id := 2) (r' := (.nor, zOf p0 s1_8 s21_11 s21_19 v3105 s31_10 s31_18 v3605)) (zRb (zKf k p0 s1_8 s21_11 s21_19 v3105 s31_10 s31_18) k _ _ h3603) rfl) (ob (zZj k p0 s1_8 (z8j s31_10 s21_11) _ h3607) (ob (zw zM v3606.1) (ob (zF (id := 6) (r' := (.nor, zLf p0 s1_8 s21_11 s21_19 v3105 s31_10 s31_18 v3606 v3608)) (zbc (zRm k p0 s1_8 s21_11 s21_19 v3105 s31_10 s31_18 v3606) k _ _ h3609) rfl) (ob (zxj (ek := (fun k => D.agg (zB k))) (evl := (fun v => D.agg ((aB 61) v))) (q := zA) (fun _ _ => rfl) (⟨s1_8, s31_10⟩ : zq) s31_18 (fun _ => false)) (ob (z2i k p0 v3608.2 s1_8 _ h3611) (ob (zap k ((zZ zA (⟨s1_8, s31_10⟩ : zq) s31_18).getD (fun _ => false)) v3610 _ h3613) (ob (zls (ek := (fun k => D.agg (zB k))) (evl := (fun v => D.agg ((aB 61) v))) (q := zA) (fun _ _ => rfl) (⟨s1_8, s31_10⟩ : zq) v3612 s31_18) ob0)))))))))) (by kernel_rfl)
 ·exact zqo [(97, 1, 0, .q (xb false))] [] g1 (ob (o_b h3601) ob0) (by kernel_rfl)
noncomputable def zMC (p0 : zd) (s1_8 s21_11 : Int) : TM := [(0, (.d (.agg (zn p0)))), (zsp 1), (2, (.d .nilm)), (zsp 3), (18, (xi p0.ShelfBook.Days)), (19, (xi s1_8)), (20, (xb true)), (zsp 4), (26, (xi (zJ 1 (p0.ShelfBook.Deliveries.1.length : Int)))), (27, (xi s21_11))]
noncomputable def zIn (p0 : zd) (s1_8 s21_11 : Int) (s21_19 : zt2) : St := ⟨(zMC p0 s1_8 s21_11), ⟨[(zc 1 (zn p0)), (11, (.map (em (fun k => D.agg (zB k)) (fun v => D.agg ((aB 61) v)) s21_19))), (3, (.cells [(.map 0 11)])), (4, (.cells [(xi s1_8)]))], []⟩, []⟩
noncomputable def zcD (p0 : zd) (s1_8 : Int) (r : zt11) : TM := [(0, (.d (.agg (zn p0)))), (zsp 1), (2, (.d .nilm)), (zsp 3), (18, (xi p0.ShelfBook.Days)), (19, (xi s1_8)), (20, (xb true)), (zsp 4), (26, (xi (zJ 1 (p0.ShelfBook.Deliveries.1.length : Int)))), (27, (xi r.1)), (28, (xb false))]
noncomputable def zMf (p0 : zd) (s1_8 : Int) (r : zt11) : St := ⟨(zcD p0 s1_8 r), ⟨[(zc 1 (zn p0)), (11, (.map (em (fun k => D.agg (zB k)) (fun v => D.agg ((aB 61) v)) r.2))), (3, (.cells [(.map 0 11)])), (4, (.cells [(xi s1_8)]))], []⟩, []⟩
noncomputable def zPn (p0 : zd) (s1_8 : Int) : (Int × (List (zq × (Nat → Bool)))) → Ex × St := fun r => ((.exit 2), zMf p0 s1_8 r)
theorem zNm (k : Nat) (p0 : zd) (s1_8 s21_11 : Int) (s21_19 : zt2) (x : (Int × (List (zq × (Nat → Bool)))) ⊕ (Int × (List (zq × (Nat → Bool))))) (h : zZc k p0 s1_8 s21_11 s21_19 = some x) : zO TE 81 (blk TE 81 2) (fun s : (Int × (List (zq × (Nat → Bool)))) => zIn p0 s1_8 s.1 s.2) (zPn p0 s1_8) (s21_11, s21_19) x := by
 unfold zZc at h
 refine zm h (fun h3101 g1 => ?_) (fun h3101 g1 => ?_)
 ·refine zj g1 (fun v3102 h3103 g2 => ?_)
  refine zm g2 (fun h3104 g3 => ?_) (fun h3104 g3 => ?_)
  ·exact zqn ((w64 (s21_11 + 1)), s21_19) [] [(81, 6, 0, .q (xb true)), (81, 8, 5, .q (.d (.agg (aB 61 ((zZ zA (⟨(w64 (s1_8 - 1)), s21_11⟩ : zq) s21_19).getD (fun _ => false)))))), (81, 9, 1, .c (.agg (aB 61 v3102))), (81, 9, 2, .q (xb true))] [] g3 (ob (o_b h3101) (ob (zxj (ek := (fun k => D.agg (zB k))) (evl := (fun v => D.agg ((aB 61) v))) (q := zA) (fun _ _ => rfl) (⟨(w64 (s1_8 - 1)), s21_11⟩ : zq) s21_19 (fun _ => false)) (ob (zch k _ h3103) (ob (o_b h3104) ob0)))) (by kernel_rfl)
  ·refine zj g3 (fun v3105 h3106 g4 => ?_)
   refine zm g4 (fun h3107 g5 => ?_) (fun h3107 g5 => ?_)
   ·cases g5
   ·refine zj g5 (fun v3108 h3109 g6 => ?_)
    exact zqn ((w64 (s21_11 + 1)), v3108.2) [] [(81, 6, 0, .q (xb true)), (81, 8, 5, .q (.d (.agg (aB 61 ((zZ zA (⟨(w64 (s1_8 - 1)), s21_11⟩ : zq) s21_19).getD (fun _ => false)))))), (81, 9, 1, .c (.agg (aB 61 v3102))), (81, 9, 2, .q (xb false)), (81, 10, 3, .c (.fn 97 [] [(.pin [(di v3105.1), (dl zk v3105.2.1.1 v3105.2.1.2), (dl zl v3105.2.2.1.1 v3105.2.2.1.2), (dl zh v3105.2.2.2.1.1 v3105.2.2.2.1.2), (dl zi v3105.2.2.2.2.1.1 v3105.2.2.2.2.1.2), (di v3105.2.2.2.2.2.1), (di v3105.2.2.2.2.2.2.1)]), (.pin [(di v3105.2.2.2.2.2.2.2.1)]), (.pin [(di v3105.2.2.2.2.2.2.2.2)])])), (97, 0, 3, .q (xi (v3105.2.2.2.1.1.length : Int))), (97, 0, 4, .q (xi (zJ 1 (v3105.2.2.2.1.1.length : Int))))] [(97, 0, (.nor, zIf p0 s1_8 s21_11 s21_19 v3105 v3108))] g6 (ob (o_b h3101) (ob (zxj (ek := (fun k => D.agg (zB k))) (evl := (fun v => D.agg ((aB 61) v))) (q := zA) (fun _ _ => rfl) (⟨(w64 (s1_8 - 1)), s21_11⟩ : zq) s21_19 (fun _ => false)) (ob (zch k _ h3103) (ob (o_b h3104) (ob (zSk k p0 s1_8 s21_11 _ h3106) (ob (zw zh v3105.2.2.2.1.1) (ob (zSc (x := 1) h3107) (ob (zF (id := 0) (r' := (.nor, zIf p0 s1_8 s21_11 s21_19 v3105 v3108)) (zbc (zJm k p0 s1_8 s21_11 s21_19 v3105) k _ _ h3109) rfl) ob0)))))))) (by kernel_rfl)
 ·exact zqo [(81, 6, 0, .q (xb false))] [] g1 (ob (o_b h3101) ob0) (by kernel_rfl)
noncomputable def zQC (p0 : zd) (s1_8 : Int) : TM := [(0, (.d (.agg (zn p0)))), (zsp 1), (2, (.d .nilm)), (zsp 3), (18, (xi p0.ShelfBook.Days)), (19, (xi s1_8))]
noncomputable def zWn (p0 : zd) (s1_8 : Int) (s1_16 : zt2) : St := ⟨(zQC p0 s1_8), ⟨[(zc 1 (zn p0)), (11, (.map (em (fun k => D.agg (zB k)) (fun v => D.agg ((aB 61) v)) s1_16))), (3, (.cells [(.map 0 11)]))], []⟩, []⟩
noncomputable def z2B (p0 : zd) (r : zt11) : TM := [(0, (.d (.agg (zn p0)))), (zsp 1), (2, (.d .nilm)), (zsp 3), (18, (xi p0.ShelfBook.Days)), (19, (xi r.1)), (20, (xb false))]
noncomputable def zog (p0 : zd) (r : zt11) : St := ⟨(z2B p0 r), ⟨[(zc 1 (zn p0)), (11, (.map (em (fun k => D.agg (zB k)) (fun v => D.agg ((aB 61) v)) r.2))), (3, (.cells [(.map 0 11)]))], []⟩, []⟩
noncomputable def zmo (p0 : zd) : (Int × (List (zq × (Nat → Bool)))) → Ex × St := fun r => ((.exit 0), zog p0 r)
theorem zpn (k : Nat) (p0 : zd) (s1_8 : Int) (s1_16 : zt2) (x : (Int × (List (zq × (Nat → Bool)))) ⊕ (Int × (List (zq × (Nat → Bool))))) (h : zce k p0 s1_8 s1_16 = some x) : zO TE 81 (blk TE 81 0) (fun s : (Int × (List (zq × (Nat → Bool)))) => zWn p0 s.1 s.2) (zmo p0) (s1_8, s1_16) x := by
 unfold zce at h
 refine zm h (fun h2101 g1 => ?_) (fun h2101 g1 => ?_)
 ·refine zm g1 (fun h2102 g2 => ?_) (fun h2102 g2 => ?_)
  ·cases g2
  ·refine zj g2 (fun v2103 h2104 g3 => ?_)
   exact zqn ((w64 (s1_8 + 1)), v2103.2) [] [(81, 3, 0, .q (xb true)), (81, 5, 3, .q (xi (p0.ShelfBook.Deliveries.1.length : Int))), (81, 5, 4, .q (xi (zJ 1 (p0.ShelfBook.Deliveries.1.length : Int))))] [(81, 2, (.nor, zMf p0 s1_8 v2103))] g3 (ob (o_b h2101) (ob (zw zh p0.ShelfBook.Deliveries.1) (ob (zSc (x := 1) h2102) (ob (zF (id := 2) (r' := (.nor, zMf p0 s1_8 v2103)) (zbc (zNm k p0 s1_8) k _ _ h2104) rfl) ob0)))) (by kernel_rfl)
 ·exact zqo [(81, 3, 0, .q (xb false))] [] g1 (ob (o_b h2101) ob0) (by kernel_rfl)
theorem zxh (k : Nat) (p0 : zd) (r : zt2) (h : zme k p0 = some r) : zL TE (ev TE) 81 [(.agg (zn p0))] = some (zdl r) := by
 unfold zme at h
 refine zj h (fun v1 h2 g1 => ?_)
 refine zj g1 (fun v3 h4 g2 => ?_)
 exact zI (g := zdl) g2 (zqc [(81, 1, 3, .c (.agg (aB 61 v1)))] [(81, 0, (.nor, zog p0 v3))] (ob (zfp k p0 _ h2) (ob (zF (id := 0) (r' := (.nor, zog p0 v3)) (zbc (zpn k p0) k _ _ h4) rfl) ob0)) (by kernel_rfl))
noncomputable def zeC (p0 : zd) (v1 : zt2) (s1_10 : Int) : TM := [(0, (.d (.agg (zn p0)))), (zsp 1), (2, (xb false)), (3, (.d (.mp (em (fun k => D.agg (zB k)) (fun v => D.agg ((aB 61) v)) v1)))), (11, (xi (zJ 1 (p0.ShelfBook.Deliveries.1.length : Int)))), (12, (xi s1_10))]
noncomputable def zhp (p0 : zd) (v1 : zt2) (s1_10 : Int) : St := ⟨(zeC p0 v1 s1_10), ⟨[(zc 1 (zn p0))], []⟩, []⟩
noncomputable def zBC (p0 : zd) (v1 : zt2) (r : Int) : TM := [(0, (.d (.agg (zn p0)))), (zsp 1), (2, (xb true)), (3, (.d (.mp (em (fun k => D.agg (zB k)) (fun v => D.agg ((aB 61) v)) v1)))), (11, (xi (zJ 1 (p0.ShelfBook.Deliveries.1.length : Int)))), (12, (xi r)), (13, (xb true)), (4, (xi r)), (24, (xb true))]
noncomputable def zah (p0 : zd) (v1 : zt2) (r : Int) : St := ⟨(zBC p0 v1 r), ⟨[(zc 1 (zn p0))], []⟩, []⟩
noncomputable def zcC (p0 : zd) (v1 : zt2) (r : Int) : TM := [(0, (.d (.agg (zn p0)))), (zsp 1), (2, (xb false)), (3, (.d (.mp (em (fun k => D.agg (zB k)) (fun v => D.agg ((aB 61) v)) v1)))), (11, (xi (zJ 1 (p0.ShelfBook.Deliveries.1.length : Int)))), (12, (xi r)), (13, (xb false))]
noncomputable def zdh (p0 : zd) (v1 : zt2) (r : Int) : St := ⟨(zcC p0 v1 r), ⟨[(zc 1 (zn p0))], []⟩, []⟩
noncomputable def zgp (p0 : zd) (v1 : zt2) : (Int ⊕ Int) → Ex × St := Sum.elim (fun r => (.ret, zah p0 v1 r)) (fun r => ((.exit 0), zdh p0 v1 r))
theorem zpj (k : Nat) (p0 : zd) (v1 : zt2) (s1_10 : Int) (x : Int ⊕ (Int ⊕ Int)) (h : zWe k p0 v1 s1_10 = some x) : zO TE 67 (blk TE 67 0) (fun s : Int => zhp p0 v1 s) (zgp p0 v1) s1_10 x := by
 unfold zWe at h
 refine zm h (fun h201 g1 => ?_) (fun h201 g1 => ?_)
 ·refine zj g1 (fun v202 h203 g2 => ?_)
  refine zm g2 (fun h204 g3 => ?_) (fun h204 g3 => ?_)
  ·exact zqo [(67, 3, 0, .q (xb true)), (67, 5, 7, .q (.d (.agg (aB 61 ((zZ zA (⟨(w64 (p0.ShelfBook.Days - 1)), s1_10⟩ : zq) v1).getD (fun _ => false)))))), (67, 5, 8, .c (.agg (aB 61 v202))), (67, 5, 9, .q (xb true))] [] g3 (ob (o_b h201) (ob (zxj (ek := (fun k => D.agg (zB k))) (evl := (fun v => D.agg ((aB 61) v))) (q := zA) (fun _ _ => rfl) (⟨(w64 (p0.ShelfBook.Days - 1)), s1_10⟩ : zq) v1 (fun _ => false)) (ob (zch k _ h203) (ob (o_b h204) ob0)))) (by kernel_rfl)
  ·exact zqn (w64 (s1_10 + 1)) [] [(67, 3, 0, .q (xb true)), (67, 5, 7, .q (.d (.agg (aB 61 ((zZ zA (⟨(w64 (p0.ShelfBook.Days - 1)), s1_10⟩ : zq) v1).getD (fun _ => false)))))), (67, 5, 8, .c (.agg (aB 61 v202))), (67, 5, 9, .q (xb false))] [] g3 (ob (o_b h201) (ob (zxj (ek := (fun k => D.agg (zB k))) (evl := (fun v => D.agg ((aB 61) v))) (q := zA) (fun _ _ => rfl) (⟨(w64 (p0.ShelfBook.Days - 1)), s1_10⟩ : zq) v1 (fun _ => false)) (ob (zch k _ h203) (ob (o_b h204) ob0)))) (by kernel_rfl)
 ·exact zqo [(67, 3, 0, .q (xb false))] [] g1 (ob (o_b h201) ob0) (by kernel_rfl)
theorem z1e (k : Nat) (p0 : zd) (r : Bool) (h : zse k p0 = some r) : zL TE (ev TE) 67 [(.agg (zn p0))] = some (zRi r) := by
 unfold zse at h
 refine zj h (fun v1 h2 g1 => ?_)
 refine zm g1 (fun h3 g2 => ?_) (fun h3 g2 => ?_)
 ·cases g2
 ·refine zj g2 (fun v4 h5 g3 => ?_)
  refine zid g3 (fun v7 hh g4_0 => ?_) (fun v7 hh g4_0 => ?_)
  ·subst hh
   exact zI (g := zRi) g4_0 (zqc [(67, 1, 1, .c (.mp (em (fun k => D.agg (zB k)) (fun v => D.agg ((aB 61) v)) v1))), (67, 2, 3, .q (xi (p0.ShelfBook.Deliveries.1.length : Int))), (67, 2, 4, .q (xi (zJ 1 (p0.ShelfBook.Deliveries.1.length : Int))))] [(67, 0, (.ret, zah p0 v1 v7))] (ob (zxh k p0 _ h2) (ob (zw zh p0.ShelfBook.Deliveries.1) (ob (zSc (x := 1) h3) (ob (zF (id := 0) (r' := (.ret, zah p0 v1 v7)) (zRb (zpj k p0 v1) k _ _ h5) rfl) ob0)))) (by kernel_rfl))
  ·subst hh
   exact zI (g := zRi) g4_0 (zqc [(67, 1, 1, .c (.mp (em (fun k => D.agg (zB k)) (fun v => D.agg ((aB 61) v)) v1))), (67, 2, 3, .q (xi (p0.ShelfBook.Deliveries.1.length : Int))), (67, 2, 4, .q (xi (zJ 1 (p0.ShelfBook.Deliveries.1.length : Int))))] [(67, 0, (.nor, zdh p0 v1 v7))] (ob (zxh k p0 _ h2) (ob (zw zh p0.ShelfBook.Deliveries.1) (ob (zSc (x := 1) h3) (ob (zF (id := 0) (r' := (.nor, zdh p0 v1 v7)) (zRb (zpj k p0 v1) k _ _ h5) rfl) ob0)))) (by kernel_rfl))
noncomputable def zgD (p0 : za) (p1 s1_8 : Int) : TM := [(0, (.d (.agg (zb p0)))), (1, (xi p1)), (zsp 2), (4, (xb false)), (9, (xi (p0.Shelves.1.length : Int))), (10, (xi s1_8))]
noncomputable def zsq (p0 : za) (p1 s1_8 : Int) : St := ⟨(zgD p0 p1 s1_8), ⟨[(zc 2 (zb p0))], []⟩, []⟩
noncomputable def zAC (p0 : za) (p1 r : Int) : TM := [(0, (.d (.agg (zb p0)))), (1, (xi p1)), (zsp 2), (4, (xb false)), (9, (xi (p0.Shelves.1.length : Int))), (10, (xi r)), (11, (xb true)), (5, (xi r)), (6, (.d (.fn 67 [(.agg ((zb p0) ++ [(di r), (di p1)]))] []))), (20, (xb true))]
noncomputable def zLh (p0 : za) (p1 r : Int) : St := ⟨(zAC p0 p1 r), ⟨[(zc 2 (zb p0))], []⟩, []⟩
noncomputable def zWC (p0 : za) (p1 r : Int) : TM := [(0, (.d (.agg (zb p0)))), (1, (xi p1)), (zsp 2), (4, (xb false)), (9, (xi (p0.Shelves.1.length : Int))), (10, (xi r)), (11, (xb false))]
noncomputable def zSh (p0 : za) (p1 r : Int) : St := ⟨(zWC p0 p1 r), ⟨[(zc 2 (zb p0))], []⟩, []⟩
noncomputable def zfq (p0 : za) (p1 : Int) : (Int ⊕ Int) → Ex × St := Sum.elim (fun r => (.ret, zLh p0 p1 r)) (fun r => ((.exit 0), zSh p0 p1 r))
theorem z9k (k : Nat) (p0 : za) (p1 s1_8 : Int) (x : Int ⊕ (Int ⊕ Int)) (h : z4f k p0 p1 s1_8 = some x) : zO TE 76 (blk TE 76 0) (fun s : Int => zsq p0 p1 s) (zfq p0 p1) s1_8 x := by
 unfold z4f at h
 refine zm h (fun h201 g1 => ?_) (fun h201 g1 => ?_)
 ·refine zj g1 (fun v202 h203 g2 => ?_)
  refine zm g2 (fun h204 g3 => ?_) (fun h204 g3 => ?_)
  ·exact zqo [(76, 2, 0, .q (xb true)), (76, 5, 1, .c (db v202)), (76, 5, 2, .q (xb true))] [] g3 (ob (o_b h201) (ob (z1e k (⟨p0, s1_8, p1⟩ : zd) _ h203) (ob (o_b h204) ob0))) (by kernel_rfl)
  ·exact zqn (w64 (s1_8 + 1)) [] [(76, 2, 0, .q (xb true)), (76, 5, 1, .c (db v202)), (76, 5, 2, .q (xb false))] [] g3 (ob (o_b h201) (ob (z1e k (⟨p0, s1_8, p1⟩ : zd) _ h203) (ob (o_b h204) ob0))) (by kernel_rfl)
 ·exact zqo [(76, 2, 0, .q (xb false))] [] g1 (ob (o_b h201) ob0) (by kernel_rfl)
theorem zPb (k : Nat) (p0 : za) (p1 : Int) (r : Bool) (h : zEb k p0 p1 = some r) : zL TE (ev TE) 76 [(.agg (zb p0)), (di p1)] = some (zik r) := by
 unfold zEb at h
 refine zj h (fun v1 h2 g1 => ?_)
 refine zid g1 (fun v4 hh g2_0 => ?_) (fun v4 hh g2_0 => ?_)
 ·subst hh
  exact zI (g := zik) g2_0 (zqc [(76, 1, 2, .q (xi (p0.Shelves.1.length : Int)))] [(76, 0, (.ret, zLh p0 p1 v4))] (ob (zw zk p0.Shelves.1) (ob (zF (id := 0) (r' := (.ret, zLh p0 p1 v4)) (zRb (z9k k p0 p1) k _ _ h2) rfl) ob0)) (by kernel_rfl))
 ·subst hh
  exact zI (g := zik) g2_0 (zqc [(76, 1, 2, .q (xi (p0.Shelves.1.length : Int)))] [(76, 0, (.nor, zSh p0 p1 v4))] (ob (zw zk p0.Shelves.1) (ob (zF (id := 0) (r' := (.nor, zSh p0 p1 v4)) (zRb (z9k k p0 p1) k _ _ h2) rfl) ob0)) (by kernel_rfl))
theorem zAb (k : Nat) (p0 : za) (p1 : Bool) (r : Int) (h : zkd k p0 p1 = some r) : zL TE (ev TE) 51 [(.agg (zb p0)), (db p1)] = some (zph r) := by
 unfold zkd at h
 refine zj h (fun v1 h2 g1 => ?_)
 refine zm g1 (fun h3 g2 => ?_) (fun h3 g2 => ?_)
 ·exact zI (g := zph) g2 (zqc [(51, 1, 1, .c (di v1)), (51, 2, 1, .q (xb true))] [] (ob (zCb k p0 _ h2) (ob (o_b h3) ob0)) (by kernel_rfl))
 ·refine zm g2 (fun h4 g3 => ?_) (fun h4 g3 => ?_)
  ·exact zI (g := zph) g3 (zqc [(51, 1, 1, .c (di v1)), (51, 2, 1, .q (xb false)), (51, 4, 1, .q (xb true))] [] (ob (zCb k p0 _ h2) (ob (o_b h3) (ob (o_b h4) ob0))) (by kernel_rfl))
  ·refine zj g3 (fun v5 h6 g4 => ?_)
   refine zm g4 (fun h7 g5 => ?_) (fun h7 g5 => ?_)
   ·exact zI (g := zph) g5 (zqc [(51, 1, 1, .c (di v1)), (51, 2, 1, .q (xb false)), (51, 4, 1, .q (xb false)), (51, 6, 1, .c (db v5)), (51, 6, 2, .q (xb true))] [] (ob (zCb k p0 _ h2) (ob (o_b h3) (ob (o_b h4) (ob (zPb k p0 0 _ h6) (ob (o_b h7) ob0))))) (by kernel_rfl))
   ·exact zI (g := zph) g5 (zqc [(51, 1, 1, .c (di v1)), (51, 2, 1, .q (xb false)), (51, 4, 1, .q (xb false)), (51, 6, 1, .c (db v5)), (51, 6, 2, .q (xb false))] [] (ob (zCb k p0 _ h2) (ob (o_b h3) (ob (o_b h4) (ob (zPb k p0 0 _ h6) (ob (o_b h7) ob0))))) (by kernel_rfl))
noncomputable def z2C (p0 : zd) (s1_8 : Int) (v302 : zt) (s3_12 : Int) : TM := [(0, (.d (.agg (zn p0)))), (zsp 1), (2, (.d .nilm)), (zsp 3), (19, (xi (zJ 1 (p0.ShelfBook.Deliveries.1.length : Int)))), (20, (xi s1_8)), (21, (xb true)), (4, (xi s1_8)), (zsp 5), (31, (xi (w64 (v302.Room + 1)))), (32, (xi s3_12))]
noncomputable def z8o (p0 : zd) (s1_8 : Int) (s1_16 : zt2) (v302 : zt) (s3_12 : Int) (s3_21 : zt0) : St := ⟨(z2C p0 s1_8 v302 s3_12), ⟨[(zc 1 (zn p0)), (14, (.map (em (fun k => D.agg (zB k)) (fun v => D.agg ((aB 61) v)) s1_16))), (3, (.cells [(.map 0 14)])), (zc 5 (aB 61 s3_21))], []⟩, []⟩
noncomputable def zaC (p0 : zd) (s1_8 : Int) (v302 : zt) (r : zt15) : TM := [(0, (.d (.agg (zn p0)))), (zsp 1), (2, (.d .nilm)), (zsp 3), (19, (xi (zJ 1 (p0.ShelfBook.Deliveries.1.length : Int)))), (20, (xi s1_8)), (21, (xb true)), (4, (xi s1_8)), (zsp 5), (31, (xi (w64 (v302.Room + 1)))), (32, (xi r.1)), (33, (xb false))]
noncomputable def zPg (p0 : zd) (s1_8 : Int) (s1_16 : zt2) (v302 : zt) (r : zt15) : St := ⟨(zaC p0 s1_8 v302 r), ⟨[(zc 1 (zn p0)), (14, (.map (em (fun k => D.agg (zB k)) (fun v => D.agg ((aB 61) v)) s1_16))), (3, (.cells [(.map 0 14)])), (zc 5 (aB 61 r.2))], []⟩, []⟩
noncomputable def zKo (p0 : zd) (s1_8 : Int) (s1_16 : zt2) (v302 : zt) : (Int × (Nat → Bool)) → Ex × St := fun r => ((.exit 2), zPg p0 s1_8 s1_16 v302 r)
theorem zYn (k : Nat) (p0 : zd) (s1_8 : Int) (s1_16 : zt2) (v302 : zt) (s3_12 : Int) (s3_21 : zt0) (x : (Int × (Nat → Bool)) ⊕ (Int × (Nat → Bool))) (h : zvd k p0 s1_8 s1_16 v302 s3_12 s3_21 = some x) : zO TE 82 (blk TE 82 2) (fun s : (Int × (Nat → Bool)) => z8o p0 s1_8 s1_16 v302 s.1 s.2) (zKo p0 s1_8 s1_16 v302) (s3_12, s3_21) x := by
 unfold zvd at h
 refine zm h (fun h401 g1 => ?_) (fun h401 g1 => ?_)
 ·refine zR g1 (fun h402 g2 => ?_)
  exact zqn ((w64 (s3_12 + 1)), (upd s3_21 s3_12.toNat true)) [] [(82, 7, 0, .q (xb true)), (82, 9, 1, .q (.ptr 0 5 (s3_12.toNat))), (82, 9, 2, .st ((aB 61 (upd s3_21 s3_12.toNat true)).map .d))] [] g2 (ob (o_b h401) (ob (zrd (m := 61) 0 5 0 1 s3_12.toNat h402 (by omega)) (ob (zyk 61 s3_21 s3_12.toNat true (by have := h402; simp only [Bool.and_eq_true, decide_eq_true_eq] at this; omega)) ob0))) (by kernel_rfl)
 ·exact zqo [(82, 7, 0, .q (xb false))] [] g1 (ob (o_b h401) ob0) (by kernel_rfl)
noncomputable def zEC (p0 : zd) (s1_8 : Int) : TM := [(0, (.d (.agg (zn p0)))), (zsp 1), (2, (.d .nilm)), (zsp 3), (19, (xi (zJ 1 (p0.ShelfBook.Deliveries.1.length : Int)))), (20, (xi s1_8))]
noncomputable def zRo (p0 : zd) (s1_8 : Int) (s1_16 : zt2) : St := ⟨(zEC p0 s1_8), ⟨[(zc 1 (zn p0)), (14, (.map (em (fun k => D.agg (zB k)) (fun v => D.agg ((aB 61) v)) s1_16))), (3, (.cells [(.map 0 14)]))], []⟩, []⟩
noncomputable def zkC (p0 : zd) (r : zt11) : TM := [(0, (.d (.agg (zn p0)))), (zsp 1), (2, (.d .nilm)), (zsp 3), (19, (xi (zJ 1 (p0.ShelfBook.Deliveries.1.length : Int)))), (20, (xi r.1)), (21, (xb false))]
noncomputable def zTg (p0 : zd) (r : zt11) : St := ⟨(zkC p0 r), ⟨[(zc 1 (zn p0)), (14, (.map (em (fun k => D.agg (zB k)) (fun v => D.agg ((aB 61) v)) r.2))), (3, (.cells [(.map 0 14)]))], []⟩, []⟩
noncomputable def zYo (p0 : zd) : (Int × (List (zq × (Nat → Bool)))) → Ex × St := fun r => ((.exit 0), zTg p0 r)
theorem zvo (k : Nat) (p0 : zd) (s1_8 : Int) (s1_16 : zt2) (x : (Int × (List (zq × (Nat → Bool)))) ⊕ (Int × (List (zq × (Nat → Bool))))) (h : zBe k p0 s1_8 s1_16 = some x) : zO TE 82 (blk TE 82 0) (fun s : (Int × (List (zq × (Nat → Bool)))) => zRo p0 s.1 s.2) (zYo p0) (s1_8, s1_16) x := by
 unfold zBe at h
 refine zm h (fun h301 g1 => ?_) (fun h301 g1 => ?_)
 ·refine zj g1 (fun v302 h303 g2 => ?_)
  refine zj g2 (fun v304 h305 g3 => ?_)
  exact zqn ((w64 (s1_8 + 1)), (mset zA (⟨(w64 (p0.ShelfBook.Days - 1)), s1_8⟩ : zq) v304.2 s1_16)) [] [(82, 3, 0, .q (xb true)), (82, 6, 5, .q (.d (.pin (zk v302)))), (82, 11, 8, .mp (em (fun k => D.agg (zB k)) (fun v => D.agg ((aB 61) v)) (mset zA (⟨(w64 (p0.ShelfBook.Days - 1)), s1_8⟩ : zq) v304.2 s1_16)))] [(82, 2, (.nor, zPg p0 s1_8 s1_16 v302 v304))] g3 (ob (o_b h301) (ob (o_ia (e := zk) 3 h303 rfl) (ob (zF (id := 2) (r' := (.nor, zPg p0 s1_8 s1_16 v302 v304)) (zbc (zYn k p0 s1_8 s1_16 v302) k _ _ h305) rfl) (ob (zls (ek := (fun k => D.agg (zB k))) (evl := (fun v => D.agg ((aB 61) v))) (q := zA) (fun _ _ => rfl) (⟨(w64 (p0.ShelfBook.Days - 1)), s1_8⟩ : zq) v304.2 s1_16) ob0)))) (by kernel_rfl)
 ·exact zqo [(82, 3, 0, .q (xb false))] [] g1 (ob (o_b h301) ob0) (by kernel_rfl)
noncomputable def z9B (v3402 : zt8) (s34_10 s39_15 : Int) (r : Bool) : TM := [(0, (.yld 0)), (1, (.d (.pin [(di v3402.1), (dl zk v3402.2.1.1 v3402.2.1.2), (dl zl v3402.2.2.1.1 v3402.2.2.1.2), (dl zh v3402.2.2.2.1.1 v3402.2.2.2.1.2), (dl zi v3402.2.2.2.2.1.1 v3402.2.2.2.2.1.2), (di v3402.2.2.2.2.2.1), (di v3402.2.2.2.2.2.2.1)]))), (2, (.d (.pin [(di v3402.2.2.2.2.2.2.2.1)]))), (3, (.d (.pin [(di v3402.2.2.2.2.2.2.2.2)]))), (14, (xi (zJ 1 (v3402.2.2.2.1.1.length : Int)))), (15, (xi s34_10)), (16, (xb true)), (5, (xi s34_10)), (20, (.d (dl zh v3402.2.2.2.1.1 v3402.2.2.2.1.2))), (21, (xi (v3402.2.2.2.1.1.length : Int))), (22, (xi s39_15)), (23, (xb true)), (7, (.ptr 1 7 0)), (6, (xi s39_15)), (8, (xb ((zsb (zW v3402.2.2.2.2.2.2.2.1 s39_15) 1) == 1))), (9, (xb ((zsb (zW s34_10 s39_15) 1) == 1))), (41, (xb false)), (76, (xb r))]
noncomputable def zpl (p0 : zd) (v2 : zt11) (s24_12 : Int) (v3402 : zt8) : TM := [(0, (.d (.agg (zn p0)))), (zsp 1), (2, (.d .nilm)), (zsp 3), (19, (xi (zJ 1 (p0.ShelfBook.Deliveries.1.length : Int)))), (20, (xi v2.1)), (21, (xb false)), (zsp 7), (52, (xb true)), (59, (xi (zJ 1 (p0.ShelfBook.Deliveries.1.length : Int)))), (60, (xi s24_12)), (61, (xb true)), (zsp 8), (66, (.d (.fn 97 [] [(.pin [(di v3402.1), (dl zk v3402.2.1.1 v3402.2.1.2), (dl zl v3402.2.2.1.1 v3402.2.2.1.2), (dl zh v3402.2.2.2.1.1 v3402.2.2.2.1.2), (dl zi v3402.2.2.2.2.1.1 v3402.2.2.2.2.1.2), (di v3402.2.2.2.2.2.1), (di v3402.2.2.2.2.2.2.1)]), (.pin [(di v3402.2.2.2.2.2.2.2.1)]), (.pin [(di v3402.2.2.2.2.2.2.2.2)])])))]
noncomputable def zU (p0 : zd) (v2 : zt11) (s4_18 s24_12 : Int) (v3402 : zt8) (s34_10 : Int) (s34_18 : zt2) (s39_15 : Int) (v4102 : zu) (r : Bool) : St := ⟨(z9B v3402 s34_10 s39_15 r), ⟨[(zc 7 (zh v4102))], [[(zc 1 (zn p0)), (14, (.map (em (fun k => D.agg (zB k)) (fun v => D.agg ((aB 61) v)) s34_18))), (3, (.cells [(.map 0 14)])), (7, (.cells [(xi s4_18)])), (8, (.cells [(xi s24_12)]))]]⟩, [⟨(zpl p0 v2 s24_12 v3402), 0, rfP (blk TE 82 8), rfA (blk TE 82 8), rfB (blk TE 82 8), 82, .rdy⟩]⟩
noncomputable def zxC (v3402 : zt8) (s34_10 s39_15 : Int) : TM := [(0, (.yld 0)), (1, (.d (.pin [(di v3402.1), (dl zk v3402.2.1.1 v3402.2.1.2), (dl zl v3402.2.2.1.1 v3402.2.2.1.2), (dl zh v3402.2.2.2.1.1 v3402.2.2.2.1.2), (dl zi v3402.2.2.2.2.1.1 v3402.2.2.2.2.1.2), (di v3402.2.2.2.2.2.1), (di v3402.2.2.2.2.2.2.1)]))), (2, (.d (.pin [(di v3402.2.2.2.2.2.2.2.1)]))), (3, (.d (.pin [(di v3402.2.2.2.2.2.2.2.2)]))), (14, (xi (zJ 1 (v3402.2.2.2.1.1.length : Int)))), (15, (xi s34_10)), (16, (xb true)), (5, (xi s34_10)), (20, (.d (dl zh v3402.2.2.2.1.1 v3402.2.2.2.1.2))), (21, (xi (v3402.2.2.2.1.1.length : Int))), (22, (xi s39_15)), (23, (xb true)), (7, (.ptr 1 7 0)), (6, (xi s39_15)), (8, (xb ((zsb (zW v3402.2.2.2.2.2.2.2.1 s39_15) 1) == 1))), (9, (xb ((zsb (zW s34_10 s39_15) 1) == 1))), (41, (xb false))]
theorem zwi (k : Nat) (p0 : zd) (v2 : zt11) (s4_18 s24_12 : Int) (v3402 : zt8) (s34_10 : Int) (s34_18 : zt2) (s39_15 : Int) (v4102 : zu) (r : Bool) (h : zBf k p0 v2 s4_18 s24_12 v3402 s34_10 s34_18 s39_15 v4102 = some r) : ev TE 97 (rgn TE 97 9) ⟨(zxC v3402 s34_10 s39_15), ⟨[(zc 7 (zh v4102))], [[(zc 1 (zn p0)), (14, (.map (em (fun k => D.agg (zB k)) (fun v => D.agg ((aB 61) v)) s34_18))), (3, (.cells [(.map 0 14)])), (7, (.cells [(xi s4_18)])), (8, (.cells [(xi s24_12)]))]]⟩, [⟨(zpl p0 v2 s24_12 v3402), 0, rfP (blk TE 82 8), rfA (blk TE 82 8), rfB (blk TE 82 8), 82, .rdy⟩]⟩ = some (.nor, zU p0 v2 s4_18 s24_12 v3402 s34_10 s34_18 s39_15 v4102 r) := by
 unfold zBf at h
 refine zm h (fun h4201 g1 => ?_) (fun h4201 g1 => ?_)
 ·refine zm g1 (fun h4202 g2 => ?_) (fun h4202 g2 => ?_)
  ·exact zy (g := fun r => (Ex.nor, zU p0 v2 s4_18 s24_12 v3402 s34_10 s34_18 s39_15 v4102 r)) g2 (zqe [(97, 9, 1, .q (xb true)), (97, 9, 5, .q (xb true))] [] (ob (o_b h4201) (ob (o_b h4202) ob0)) (by kernel_rfl))
  ·refine zm g2 (fun h4203 g3 => ?_) (fun h4203 g3 => ?_)
   ·refine zm g3 (fun h4204 g4 => ?_) (fun h4204 g4 => ?_)
    ·refine zj g4 (fun v4205 h4206 g5 => ?_)
     refine zm g5 (fun h4207 g6 => ?_) (fun h4207 g6 => ?_)
     ·exact zy (g := fun r => (Ex.nor, zU p0 v2 s4_18 s24_12 v3402 s34_10 s34_18 s39_15 v4102 r)) g6 (zqe [(97, 9, 1, .q (xb true)), (97, 9, 5, .q (xb false)), (97, 9, 7, .q (xb true)), (97, 9, 11, .q (xb true)), (97, 9, 19, .c (db v4205)), (97, 9, 23, .q (xb true))] [] (ob (o_b h4201) (ob (o_b h4202) (ob (o_b h4203) (ob (o_b h4204) (ob (zE k v3402.2.2.2.2.2.2.2.2 v4102.Days.Low v4102.Days.High _ h4206) (ob (o_b h4207) ob0)))))) (by kernel_rfl))
     ·exact zy (g := fun r => (Ex.nor, zU p0 v2 s4_18 s24_12 v3402 s34_10 s34_18 s39_15 v4102 r)) g6 (zqe [(97, 9, 1, .q (xb true)), (97, 9, 5, .q (xb false)), (97, 9, 7, .q (xb true)), (97, 9, 11, .q (xb true)), (97, 9, 19, .c (db v4205)), (97, 9, 23, .q (xb false)), (97, 9, 26, .q (xb false))] [] (ob (o_b h4201) (ob (o_b h4202) (ob (o_b h4203) (ob (o_b h4204) (ob (zE k v3402.2.2.2.2.2.2.2.2 v4102.Days.Low v4102.Days.High _ h4206) (ob (o_b h4207) (ob (o_b h4202) ob0))))))) (by kernel_rfl))
    ·exact zy (g := fun r => (Ex.nor, zU p0 v2 s4_18 s24_12 v3402 s34_10 s34_18 s39_15 v4102 r)) g4 (zqe [(97, 9, 1, .q (xb true)), (97, 9, 5, .q (xb false)), (97, 9, 7, .q (xb true)), (97, 9, 11, .q (xb false)), (97, 9, 26, .q (xb false))] [] (ob (o_b h4201) (ob (o_b h4202) (ob (o_b h4203) (ob (o_b h4204) (ob (o_b h4202) ob0))))) (by kernel_rfl))
   ·exact zy (g := fun r => (Ex.nor, zU p0 v2 s4_18 s24_12 v3402 s34_10 s34_18 s39_15 v4102 r)) g3 (zqe [(97, 9, 1, .q (xb true)), (97, 9, 5, .q (xb false)), (97, 9, 7, .q (xb false)), (97, 9, 26, .q (xb false))] [] (ob (o_b h4201) (ob (o_b h4202) (ob (o_b h4203) (ob (o_b h4202) ob0)))) (by kernel_rfl))
 ·refine zm g1 (fun h4202 g2 => ?_) (fun h4202 g2 => ?_)
  ·refine zm g2 (fun h4203 g3 => ?_) (fun h4203 g3 => ?_)
   ·refine zj g3 (fun v4204 h4205 g4 => ?_)
    refine zm g4 (fun h4206 g5 => ?_) (fun h4206 g5 => ?_)
    ·exact zy (g := fun r => (Ex.nor, zU p0 v2 s4_18 s24_12 v3402 s34_10 s34_18 s39_15 v4102 r)) g5 (zqe [(97, 9, 1, .q (xb false)), (97, 9, 7, .q (xb true)), (97, 9, 11, .q (xb true)), (97, 9, 19, .c (db v4204)), (97, 9, 23, .q (xb true))] [] (ob (o_b h4201) (ob (o_b h4202) (ob (o_b h4203) (ob (zE k v3402.2.2.2.2.2.2.2.2 v4102.Days.Low v4102.Days.High _ h4205) (ob (o_b h4206) ob0))))) (by kernel_rfl))
    ·refine zm g5 (fun h4207 g6 => ?_) (fun h4207 g6 => ?_)
     ·exact zy (g := fun r => (Ex.nor, zU p0 v2 s4_18 s24_12 v3402 s34_10 s34_18 s39_15 v4102 r)) g6 (zqe [(97, 9, 1, .q (xb false)), (97, 9, 7, .q (xb true)), (97, 9, 11, .q (xb true)), (97, 9, 19, .c (db v4204)), (97, 9, 23, .q (xb false)), (97, 9, 26, .q (xb true))] [] (ob (o_b h4201) (ob (o_b h4202) (ob (o_b h4203) (ob (zE k v3402.2.2.2.2.2.2.2.2 v4102.Days.Low v4102.Days.High _ h4205) (ob (o_b h4206) (ob (o_b h4207) ob0)))))) (by kernel_rfl))
     ·exact zy (g := fun r => (Ex.nor, zU p0 v2 s4_18 s24_12 v3402 s34_10 s34_18 s39_15 v4102 r)) g6 (zqe [(97, 9, 1, .q (xb false)), (97, 9, 7, .q (xb true)), (97, 9, 11, .q (xb true)), (97, 9, 19, .c (db v4204)), (97, 9, 23, .q (xb false)), (97, 9, 26, .q (xb false))] [] (ob (o_b h4201) (ob (o_b h4202) (ob (o_b h4203) (ob (zE k v3402.2.2.2.2.2.2.2.2 v4102.Days.Low v4102.Days.High _ h4205) (ob (o_b h4206) (ob (o_b h4207) ob0)))))) (by kernel_rfl))
   ·refine zm g3 (fun h4204 g4 => ?_) (fun h4204 g4 => ?_)
    ·exact zy (g := fun r => (Ex.nor, zU p0 v2 s4_18 s24_12 v3402 s34_10 s34_18 s39_15 v4102 r)) g4 (zqe [(97, 9, 1, .q (xb false)), (97, 9, 7, .q (xb true)), (97, 9, 11, .q (xb false)), (97, 9, 26, .q (xb true))] [] (ob (o_b h4201) (ob (o_b h4202) (ob (o_b h4203) (ob (o_b h4204) ob0)))) (by kernel_rfl))
    ·exact zy (g := fun r => (Ex.nor, zU p0 v2 s4_18 s24_12 v3402 s34_10 s34_18 s39_15 v4102 r)) g4 (zqe [(97, 9, 1, .q (xb false)), (97, 9, 7, .q (xb true)), (97, 9, 11, .q (xb false)), (97, 9, 26, .q (xb false))] [] (ob (o_b h4201) (ob (o_b h4202) (ob (o_b h4203) (ob (o_b h4204) ob0)))) (by kernel_rfl))
  ·refine zm g2 (fun h4203 g3 => ?_) (fun h4203 g3 => ?_)
   ·exact zy (g := fun r => (Ex.nor, zU p0 v2 s4_18 s24_12 v3402 s34_10 s34_18 s39_15 v4102 r)) g3 (zqe [(97, 9, 1, .q (xb false)), (97, 9, 7, .q (xb false)), (97, 9, 26, .q (xb true))] [] (ob (o_b h4201) (ob (o_b h4202) (ob (o_b h4203) ob0))) (by kernel_rfl))
   ·exact zy (g := fun r => (Ex.nor, zU p0 v2 s4_18 s24_12 v3402 s34_10 s34_18 s39_15 v4102 r)) g3 (zqe [(97, 9, 1, .q (xb false)), (97, 9, 7, .q (xb false)), (97, 9, 26, .q (xb false))] [] (ob (o_b h4201) (ob (o_b h4202) (ob (o_b h4203) ob0))) (by kernel_rfl))
noncomputable def zfC (v3402 : zt8) (s34_10 s39_15 : Int) : TM := [(0, (.yld 0)), (1, (.d (.pin [(di v3402.1), (dl zk v3402.2.1.1 v3402.2.1.2), (dl zl v3402.2.2.1.1 v3402.2.2.1.2), (dl zh v3402.2.2.2.1.1 v3402.2.2.2.1.2), (dl zi v3402.2.2.2.2.1.1 v3402.2.2.2.2.1.2), (di v3402.2.2.2.2.2.1), (di v3402.2.2.2.2.2.2.1)]))), (2, (.d (.pin [(di v3402.2.2.2.2.2.2.2.1)]))), (3, (.d (.pin [(di v3402.2.2.2.2.2.2.2.2)]))), (14, (xi (zJ 1 (v3402.2.2.2.1.1.length : Int)))), (15, (xi s34_10)), (16, (xb true)), (5, (xi s34_10)), (20, (.d (dl zh v3402.2.2.2.1.1 v3402.2.2.2.1.2))), (21, (xi (v3402.2.2.2.1.1.length : Int))), (22, (xi s39_15))]
noncomputable def zho (p0 : zd) (v2 : zt11) (s4_18 s24_12 : Int) (v3402 : zt8) (s34_10 : Int) (s34_18 : zt2) (s39_15 : Int) : St := ⟨(zfC v3402 s34_10 s39_15), ⟨[], [[(zc 1 (zn p0)), (14, (.map (em (fun k => D.agg (zB k)) (fun v => D.agg ((aB 61) v)) s34_18))), (3, (.cells [(.map 0 14)])), (7, (.cells [(xi s4_18)])), (8, (.cells [(xi s24_12)]))]]⟩, [⟨(zpl p0 v2 s24_12 v3402), 0, rfP (blk TE 82 8), rfA (blk TE 82 8), rfB (blk TE 82 8), 82, .rdy⟩]⟩
noncomputable def zGC (v3402 : zt8) (s34_10 : Int) (r : (Int × Bool × Bool × Int × Int × Int × Int × Int)) : TM := [(0, (.yld 0)), (1, (.d (.pin [(di v3402.1), (dl zk v3402.2.1.1 v3402.2.1.2), (dl zl v3402.2.2.1.1 v3402.2.2.1.2), (dl zh v3402.2.2.2.1.1 v3402.2.2.2.1.2), (dl zi v3402.2.2.2.2.1.1 v3402.2.2.2.2.1.2), (di v3402.2.2.2.2.2.1), (di v3402.2.2.2.2.2.2.1)]))), (2, (.d (.pin [(di v3402.2.2.2.2.2.2.2.1)]))), (3, (.d (.pin [(di v3402.2.2.2.2.2.2.2.2)]))), (14, (xi (zJ 1 (v3402.2.2.2.1.1.length : Int)))), (15, (xi s34_10)), (16, (xb true)), (5, (xi s34_10)), (20, (.d (dl zh v3402.2.2.2.1.1 v3402.2.2.2.1.2))), (21, (xi (v3402.2.2.2.1.1.length : Int))), (22, (xi r.1)), (23, (xb true)), (7, (.ptr 1 7 0)), (6, (xi r.1)), (8, (xb r.2.1)), (9, (xb r.2.2.1)), (41, (xb true)), (42, (xb true))]
noncomputable def zbg (p0 : zd) (v2 : zt11) (s4_18 s24_12 : Int) (v3402 : zt8) (s34_10 : Int) (s34_18 : zt2) (r : (Int × Bool × Bool × Int × Int × Int × Int × Int)) : St := ⟨(zGC v3402 s34_10 r), ⟨[(7, (.cells [(xi r.2.2.2.1), (xi r.2.2.2.2.1), (xi r.2.2.2.2.2.1), (xi r.2.2.2.2.2.2.1), (xi r.2.2.2.2.2.2.2)]))], [[(zc 1 (zn p0)), (14, (.map (em (fun k => D.agg (zB k)) (fun v => D.agg ((aB 61) v)) s34_18))), (3, (.cells [(.map 0 14)])), (7, (.cells [(xi s4_18)])), (8, (.cells [(xi s24_12)]))]]⟩, [⟨(zpl p0 v2 s24_12 v3402), 0, rfP (blk TE 82 8), rfA (blk TE 82 8), rfB (blk TE 82 8), 82, .rdy⟩]⟩
noncomputable def z4B (v3402 : zt8) (s34_10 : Int) (r : (Int × Bool × Bool × Int × Int × Int × Int × Int)) : TM := [(0, (.yld 0)), (1, (.d (.pin [(di v3402.1), (dl zk v3402.2.1.1 v3402.2.1.2), (dl zl v3402.2.2.1.1 v3402.2.2.1.2), (dl zh v3402.2.2.2.1.1 v3402.2.2.2.1.2), (dl zi v3402.2.2.2.2.1.1 v3402.2.2.2.2.1.2), (di v3402.2.2.2.2.2.1), (di v3402.2.2.2.2.2.2.1)]))), (2, (.d (.pin [(di v3402.2.2.2.2.2.2.2.1)]))), (3, (.d (.pin [(di v3402.2.2.2.2.2.2.2.2)]))), (14, (xi (zJ 1 (v3402.2.2.2.1.1.length : Int)))), (15, (xi s34_10)), (16, (xb true)), (5, (xi s34_10)), (20, (.d (dl zh v3402.2.2.2.1.1 v3402.2.2.2.1.2))), (21, (xi (v3402.2.2.2.1.1.length : Int))), (22, (xi r.1)), (23, (xb true)), (7, (.ptr 1 7 0)), (6, (xi r.1)), (8, (xb r.2.1)), (9, (xb r.2.2.1)), (41, (xb false)), (76, (xb true))]
noncomputable def zeg (p0 : zd) (v2 : zt11) (s4_18 s24_12 : Int) (v3402 : zt8) (s34_10 : Int) (s34_18 : zt2) (r : (Int × Bool × Bool × Int × Int × Int × Int × Int)) : St := ⟨(z4B v3402 s34_10 r), ⟨[(7, (.cells [(xi r.2.2.2.1), (xi r.2.2.2.2.1), (xi r.2.2.2.2.2.1), (xi r.2.2.2.2.2.2.1), (xi r.2.2.2.2.2.2.2)]))], [[(zc 1 (zn p0)), (14, (.map (em (fun k => D.agg (zB k)) (fun v => D.agg ((aB 61) v)) s34_18))), (3, (.cells [(.map 0 14)])), (7, (.cells [(xi s4_18)])), (8, (.cells [(xi s24_12)]))]]⟩, [⟨(zpl p0 v2 s24_12 v3402), 0, rfP (blk TE 82 8), rfA (blk TE 82 8), rfB (blk TE 82 8), 82, .rdy⟩]⟩
noncomputable def ztC (v3402 : zt8) (s34_10 r : Int) : TM := [(0, (.yld 0)), (1, (.d (.pin [(di v3402.1), (dl zk v3402.2.1.1 v3402.2.1.2), (dl zl v3402.2.2.1.1 v3402.2.2.1.2), (dl zh v3402.2.2.2.1.1 v3402.2.2.2.1.2), (dl zi v3402.2.2.2.2.1.1 v3402.2.2.2.2.1.2), (di v3402.2.2.2.2.2.1), (di v3402.2.2.2.2.2.2.1)]))), (2, (.d (.pin [(di v3402.2.2.2.2.2.2.2.1)]))), (3, (.d (.pin [(di v3402.2.2.2.2.2.2.2.2)]))), (14, (xi (zJ 1 (v3402.2.2.2.1.1.length : Int)))), (15, (xi s34_10)), (16, (xb true)), (5, (xi s34_10)), (20, (.d (dl zh v3402.2.2.2.1.1 v3402.2.2.2.1.2))), (21, (xi (v3402.2.2.2.1.1.length : Int))), (22, (xi r)), (23, (xb false))]
noncomputable def zhg (p0 : zd) (v2 : zt11) (s4_18 s24_12 : Int) (v3402 : zt8) (s34_10 : Int) (s34_18 : zt2) (r : Int) : St := ⟨(ztC v3402 s34_10 r), ⟨[], [[(zc 1 (zn p0)), (14, (.map (em (fun k => D.agg (zB k)) (fun v => D.agg ((aB 61) v)) s34_18))), (3, (.cells [(.map 0 14)])), (7, (.cells [(xi s4_18)])), (8, (.cells [(xi s24_12)]))]]⟩, [⟨(zpl p0 v2 s24_12 v3402), 0, rfP (blk TE 82 8), rfA (blk TE 82 8), rfB (blk TE 82 8), 82, .rdy⟩]⟩
noncomputable def z7n (p0 : zd) (v2 : zt11) (s4_18 s24_12 : Int) (v3402 : zt8) (s34_10 : Int) (s34_18 : zt2) : ((Int × Bool × Bool × Int × Int × Int × Int × Int) ⊕ ((Int × Bool × Bool × Int × Int × Int × Int × Int) ⊕ Int)) → Ex × St := Sum.elim (fun r => ((.exit 1), zbg p0 v2 s4_18 s24_12 v3402 s34_10 s34_18 r)) (Sum.elim (fun r => ((.exit 1), zeg p0 v2 s4_18 s24_12 v3402 s34_10 s34_18 r)) (fun r => ((.exit 2), zhg p0 v2 s4_18 s24_12 v3402 s34_10 s34_18 r)))
theorem zjg (k : Nat) (p0 : zd) (v2 : zt11) (s4_18 s24_12 : Int) (v3402 : zt8) (s34_10 : Int) (s34_18 : zt2) (s39_15 : Int) (x : Int ⊕ ((Int × Bool × Bool × Int × Int × Int × Int × Int) ⊕ ((Int × Bool × Bool × Int × Int × Int × Int × Int) ⊕ Int))) (h : zcd k p0 v2 s4_18 s24_12 v3402 s34_10 s34_18 s39_15 = some x) : zO TE 97 (blk TE 97 2) (fun s : Int => zho p0 v2 s4_18 s24_12 v3402 s34_10 s34_18 s) (z7n p0 v2 s4_18 s24_12 v3402 s34_10 s34_18) s39_15 x := by
 unfold zcd at h
 refine zm h (fun h4101 g1 => ?_) (fun h4101 g1 => ?_)
 ·refine zj g1 (fun v4102 h4103 g2 => ?_)
  refine zm g2 (fun h4104 g3 => ?_) (fun h4104 g3 => ?_)
  ·cases g3
  ·refine zm g3 (fun h4105 g4 => ?_) (fun h4105 g4 => ?_)
   ·refine zm g4 (fun h4106 g5 => ?_) (fun h4106 g5 => ?_)
    ·exact zqo [(97, 4, 0, .q (xb true)), (97, 5, 1, .q (.d (.pin (zh v4102)))), (97, 6, 2, .q (xi (zW v3402.2.2.2.2.2.2.2.1 s39_15))), (97, 6, 7, .q (xi (zW s34_10 s39_15))), (97, 7, 4, .q (xb true)), (97, 8, 0, .q (xb true))] [] g5 (ob (o_b h4101) (ob (o_ia (e := zh) 5 h4103 rfl) (ob (z7e (x := v3402.2.2.2.2.2.2.2.1) h4104) (ob (z7e (x := s34_10) h4104) (ob (o_b h4105) (ob (o_b h4106) ob0)))))) (by kernel_rfl)
    ·exact zqn (w64 (s39_15 + 1)) [] [(97, 4, 0, .q (xb true)), (97, 5, 1, .q (.d (.pin (zh v4102)))), (97, 6, 2, .q (xi (zW v3402.2.2.2.2.2.2.2.1 s39_15))), (97, 6, 7, .q (xi (zW s34_10 s39_15))), (97, 7, 4, .q (xb true)), (97, 8, 0, .q (xb false))] [] g5 (ob (o_b h4101) (ob (o_ia (e := zh) 5 h4103 rfl) (ob (z7e (x := v3402.2.2.2.2.2.2.2.1) h4104) (ob (z7e (x := s34_10) h4104) (ob (o_b h4105) (ob (o_b h4106) ob0)))))) (by kernel_rfl)
   ·refine zj g4 (fun v4106 h4107 g5 => ?_)
    refine zm g5 (fun h4108 g6 => ?_) (fun h4108 g6 => ?_)
    ·subst h4108
     exact zqo [(97, 4, 0, .q (xb true)), (97, 5, 1, .q (.d (.pin (zh v4102)))), (97, 6, 2, .q (xi (zW v3402.2.2.2.2.2.2.2.1 s39_15))), (97, 6, 7, .q (xi (zW s34_10 s39_15))), (97, 7, 4, .q (xb false))] [(97, 1000009, (.nor, zU p0 v2 s4_18 s24_12 v3402 s34_10 s34_18 s39_15 v4102 true))] g6 (ob (o_b h4101) (ob (o_ia (e := zh) 5 h4103 rfl) (ob (z7e (x := v3402.2.2.2.2.2.2.2.1) h4104) (ob (z7e (x := s34_10) h4104) (ob (o_b h4105) (ob (zwi k p0 v2 s4_18 s24_12 v3402 s34_10 s34_18 s39_15 v4102 _ h4107) ob0)))))) (by kernel_rfl)
    ·subst h4108
     exact zqn (w64 (s39_15 + 1)) [] [(97, 4, 0, .q (xb true)), (97, 5, 1, .q (.d (.pin (zh v4102)))), (97, 6, 2, .q (xi (zW v3402.2.2.2.2.2.2.2.1 s39_15))), (97, 6, 7, .q (xi (zW s34_10 s39_15))), (97, 7, 4, .q (xb false))] [(97, 1000009, (.nor, zU p0 v2 s4_18 s24_12 v3402 s34_10 s34_18 s39_15 v4102 false))] g6 (ob (o_b h4101) (ob (o_ia (e := zh) 5 h4103 rfl) (ob (z7e (x := v3402.2.2.2.2.2.2.2.1) h4104) (ob (z7e (x := s34_10) h4104) (ob (o_b h4105) (ob (zwi k p0 v2 s4_18 s24_12 v3402 s34_10 s34_18 s39_15 v4102 _ h4107) ob0)))))) (by kernel_rfl)
 ·exact zqo [(97, 4, 0, .q (xb false))] [] g1 (ob (o_b h4101) ob0) (by kernel_rfl)
noncomputable def z7B (p0 : zd) (v2 : zt11) (s24_12 : Int) (v3402 : zt8) (s34_10 : Int) (v3908 : (SL zD)) (s42_27 : Int) : TM := zpl p0 v2 s24_12 v3402 ++ [(67, (xi s34_10)), (9, (xi s34_10)), (10, (.ptr 2 10 0)), (11, (.d (dl zM v3908.1 v3908.2))), (83, (xi (v3908.1.length : Int))), (84, (xi s42_27))]
noncomputable def zao (p0 : zd) (v2 : zt11) (s4_18 s24_12 : Int) (v3402 : zt8) (s34_10 : Int) (s34_18 : zt2) (v3908 : (SL zD)) (s42_27 : Int) (s42_28 : zt0) : St := ⟨(z7B p0 v2 s24_12 v3402 s34_10 v3908 s42_27), ⟨[(zc 10 (aB 61 s42_28))], [[(zc 1 (zn p0)), (14, (.map (em (fun k => D.agg (zB k)) (fun v => D.agg ((aB 61) v)) s34_18))), (3, (.cells [(.map 0 14)])), (7, (.cells [(xi s4_18)])), (8, (.cells [(xi s24_12)]))], []]⟩, [⟨(zpl p0 v2 s24_12 v3402), 0, rfP (blk TE 82 8), rfA (blk TE 82 8), rfB (blk TE 82 8), 82, .busy⟩]⟩
noncomputable def zsC (p0 : zd) (v2 : zt11) (s24_12 : Int) (v3402 : zt8) (s34_10 : Int) (v3908 : (SL zD)) (r : zt15) : TM := zpl p0 v2 s24_12 v3402 ++ [(67, (xi s34_10)), (9, (xi s34_10)), (10, (.ptr 2 10 0)), (11, (.d (dl zM v3908.1 v3908.2))), (83, (xi (v3908.1.length : Int))), (84, (xi r.1)), (85, (xb false))]
noncomputable def zcg (p0 : zd) (v2 : zt11) (s4_18 s24_12 : Int) (v3402 : zt8) (s34_10 : Int) (s34_18 : zt2) (v3908 : (SL zD)) (r : zt15) : St := ⟨(zsC p0 v2 s24_12 v3402 s34_10 v3908 r), ⟨[(zc 10 (aB 61 r.2))], [[(zc 1 (zn p0)), (14, (.map (em (fun k => D.agg (zB k)) (fun v => D.agg ((aB 61) v)) s34_18))), (3, (.cells [(.map 0 14)])), (7, (.cells [(xi s4_18)])), (8, (.cells [(xi s24_12)]))], []]⟩, [⟨(zpl p0 v2 s24_12 v3402), 0, rfP (blk TE 82 8), rfA (blk TE 82 8), rfB (blk TE 82 8), 82, .busy⟩]⟩
noncomputable def zoo (p0 : zd) (v2 : zt11) (s4_18 s24_12 : Int) (v3402 : zt8) (s34_10 : Int) (s34_18 : zt2) (v3908 : (SL zD)) : (Int × (Nat → Bool)) → Ex × St := fun r => ((.exit 10), zcg p0 v2 s4_18 s24_12 v3402 s34_10 s34_18 v3908 r)
theorem zRn (k : Nat) (p0 : zd) (v2 : zt11) (s4_18 s24_12 : Int) (v3402 : zt8) (s34_10 : Int) (s34_18 : zt2) (v3908 : (SL zD)) (s42_27 : Int) (s42_28 : zt0) (x : (Int × (Nat → Bool)) ⊕ (Int × (Nat → Bool))) (h : zed k p0 v2 s4_18 s24_12 v3402 s34_10 s34_18 v3908 s42_27 s42_28 = some x) : zO TE 82 (blk TE 82 10) (fun s : (Int × (Nat → Bool)) => zao p0 v2 s4_18 s24_12 v3402 s34_10 s34_18 v3908 s.1 s.2) (zoo p0 v2 s4_18 s24_12 v3402 s34_10 s34_18 v3908) (s42_27, s42_28) x := by
 unfold zed at h
 refine zm h (fun h4301 g1 => ?_) (fun h4301 g1 => ?_)
 ·refine zj g1 (fun v4302 h4303 g2 => ?_)
  refine zj g2 (fun v4304 h4305 g3 => ?_)
  exact zqn ((w64 (s42_27 + 1)), v4304) [] [(82, 24, 0, .q (xb true)), (82, 26, 2, .q (xi (v3908.1.length : Int))), (82, 26, 6, .q (.d (.pin (zM v4302)))), (82, 27, 7, .c (.agg (aB 61 v4304)))] [] g3 (ob (o_b h4301) (ob (zw zM v3908.1) (ob (o_ia (e := zM) 3 h4303 rfl) (ob (zYj k p0 s42_28 (w64 (1 - v4302.way)) v4302.by_ _ h4305) ob0)))) (by kernel_rfl)
 ·exact zqo [(82, 24, 0, .q (xb false))] [] g1 (ob (o_b h4301) ob0) (by kernel_rfl)
noncomputable def z8C (v3402 : zt8) (s34_10 : Int) : TM := [(0, (.yld 0)), (1, (.d (.pin [(di v3402.1), (dl zk v3402.2.1.1 v3402.2.1.2), (dl zl v3402.2.2.1.1 v3402.2.2.1.2), (dl zh v3402.2.2.2.1.1 v3402.2.2.2.1.2), (dl zi v3402.2.2.2.2.1.1 v3402.2.2.2.2.1.2), (di v3402.2.2.2.2.2.1), (di v3402.2.2.2.2.2.2.1)]))), (2, (.d (.pin [(di v3402.2.2.2.2.2.2.2.1)]))), (3, (.d (.pin [(di v3402.2.2.2.2.2.2.2.2)]))), (14, (xi (zJ 1 (v3402.2.2.2.1.1.length : Int)))), (15, (xi s34_10))]
noncomputable def z3n (p0 : zd) (v2 : zt11) (s4_18 s24_12 : Int) (v3402 : zt8) (s34_10 : Int) (s34_18 : zt2) : St := ⟨(z8C v3402 s34_10), ⟨[], [[(zc 1 (zn p0)), (14, (.map (em (fun k => D.agg (zB k)) (fun v => D.agg ((aB 61) v)) s34_18))), (3, (.cells [(.map 0 14)])), (7, (.cells [(xi s4_18)])), (8, (.cells [(xi s24_12)]))]]⟩, [⟨(zpl p0 v2 s24_12 v3402), 0, rfP (blk TE 82 8), rfA (blk TE 82 8), rfB (blk TE 82 8), 82, .rdy⟩]⟩
noncomputable def zNC (v3402 : zt8) (r : zt11) : TM := [(0, (.yld 0)), (1, (.d (.pin [(di v3402.1), (dl zk v3402.2.1.1 v3402.2.1.2), (dl zl v3402.2.2.1.1 v3402.2.2.1.2), (dl zh v3402.2.2.2.1.1 v3402.2.2.2.1.2), (dl zi v3402.2.2.2.2.1.1 v3402.2.2.2.2.1.2), (di v3402.2.2.2.2.2.1), (di v3402.2.2.2.2.2.2.1)]))), (2, (.d (.pin [(di v3402.2.2.2.2.2.2.2.1)]))), (3, (.d (.pin [(di v3402.2.2.2.2.2.2.2.2)]))), (14, (xi (zJ 1 (v3402.2.2.2.1.1.length : Int)))), (15, (xi r.1)), (16, (xb false))]
noncomputable def zlg (p0 : zd) (v2 : zt11) (s4_18 s24_12 : Int) (v3402 : zt8) (r : zt11) : St := ⟨(zNC v3402 r), ⟨[], [[(zc 1 (zn p0)), (14, (.map (em (fun k => D.agg (zB k)) (fun v => D.agg ((aB 61) v)) r.2))), (3, (.cells [(.map 0 14)])), (7, (.cells [(xi s4_18)])), (8, (.cells [(xi s24_12)]))]]⟩, [⟨(zpl p0 v2 s24_12 v3402), 0, rfP (blk TE 82 8), rfA (blk TE 82 8), rfB (blk TE 82 8), 82, .rdy⟩]⟩
noncomputable def z9n (p0 : zd) (v2 : zt11) (s4_18 s24_12 : Int) (v3402 : zt8) : (Int × (List (zq × (Nat → Bool)))) → Ex × St := fun r => ((.exit 0), zlg p0 v2 s4_18 s24_12 v3402 r)
theorem zon (k : Nat) (p0 : zd) (v2 : zt11) (s4_18 s24_12 : Int) (v3402 : zt8) (s34_10 : Int) (s34_18 : zt2) (x : (Int × (List (zq × (Nat → Bool)))) ⊕ (Int × (List (zq × (Nat → Bool))))) (h : zad k p0 v2 s4_18 s24_12 v3402 s34_10 s34_18 = some x) : zO TE 97 (blk TE 97 0) (fun s : (Int × (List (zq × (Nat → Bool)))) => z3n p0 v2 s4_18 s24_12 v3402 s.1 s.2) (z9n p0 v2 s4_18 s24_12 v3402) (s34_10, s34_18) x := by
 unfold zad at h
 refine zm h (fun h3901 g1 => ?_) (fun h3901 g1 => ?_)
 ·refine zj g1 (fun v3902 h3903 g2 => ?_)
  refine zid g2 (fun v3905 hh g3_0 => ?_) (fun w2_0 hh g3_0 => ?_)
  ·subst hh
   exact zqn ((w64 (s34_10 + 1)), s34_18) [] [(97, 1, 0, .q (xb true)), (97, 3, 3, .q (xi (v3402.2.2.2.1.1.length : Int)))] [(97, 2, ((.exit 1), zbg p0 v2 s4_18 s24_12 v3402 s34_10 s34_18 v3905))] g3_0 (ob (o_b h3901) (ob (zw zh v3402.2.2.2.1.1) (ob (zF (id := 2) (r' := ((.exit 1), zbg p0 v2 s4_18 s24_12 v3402 s34_10 s34_18 v3905)) (zRb (zjg k p0 v2 s4_18 s24_12 v3402 s34_10 s34_18) k _ _ h3903) rfl) ob0))) (by kernel_rfl)
  ·subst hh
   refine zid g3_0 (fun v3905 hh g3_1 => ?_) (fun v3905 hh g3_1 => ?_)
   ·subst hh
    exact zqn ((w64 (s34_10 + 1)), s34_18) [] [(97, 1, 0, .q (xb true)), (97, 3, 3, .q (xi (v3402.2.2.2.1.1.length : Int)))] [(97, 2, ((.exit 1), zeg p0 v2 s4_18 s24_12 v3402 s34_10 s34_18 v3905))] g3_1 (ob (o_b h3901) (ob (zw zh v3402.2.2.2.1.1) (ob (zF (id := 2) (r' := ((.exit 1), zeg p0 v2 s4_18 s24_12 v3402 s34_10 s34_18 v3905)) (zRb (zjg k p0 v2 s4_18 s24_12 v3402 s34_10 s34_18) k _ _ h3903) rfl) ob0))) (by kernel_rfl)
   ·subst hh
    refine zj g3_1 (fun v3906 h3907 g4 => ?_)
    refine zj g4 (fun v3908 h3909 g5 => ?_)
    refine zj g5 (fun v3910 h3911 g6 => ?_)
    refine zj g6 (fun v3912 h3913 g7 => ?_)
    exact zqn ((w64 (s34_10 + 1)), (mset zA (⟨(w64 (s4_18 - 1)), s24_12⟩ : zq) v3912 s34_18)) [] [(97, 1, 0, .q (xb true)), (97, 3, 3, .q (xi (v3402.2.2.2.1.1.length : Int))), (82, 21, 5, .q (.d (.agg (aB 61 ((zZ zA (⟨s4_18, s34_10⟩ : zq) s34_18).getD (fun _ => false)))))), (82, 21, 7, .c (.agg (aB 61 v3906))), (82, 22, 5, .c (dl zM v3908.1 v3908.2)), (82, 23, 1, .q (xi (v3908.1.length : Int))), (82, 29, 10, .q (.d (.agg (aB 61 ((zZ zA (⟨(w64 (s4_18 - 1)), s24_12⟩ : zq) s34_18).getD (fun _ => false)))))), (82, 29, 12, .c (.agg (aB 61 v3912))), (82, 29, 13, .mp (em (fun k => D.agg (zB k)) (fun v => D.agg ((aB 61) v)) (mset zA (⟨(w64 (s4_18 - 1)), s24_12⟩ : zq) v3912 s34_18)))] [(97, 2, (.nor, zhg p0 v2 s4_18 s24_12 v3402 s34_10 s34_18 v3905)), (82, 10, (.nor, zcg p0 v2 s4_18 s24_12 v3402 s34_10 s34_18 v3908 v3910))] g7 (ob (o_b h3901) (ob (zw zh v3402.2.2.2.1.1) (ob (zF (id := 2) (r' := (.nor, zhg p0 v2 s4_18 s24_12 v3402 s34_10 s34_18 v3905)) (zRb (zjg k p0 v2 s4_18 s24_12 v3402 s34_10 s34_18) k _ _ h3903) rfl) (ob (zxj (ek := (fun k => D.agg (zB k))) (evl := (fun v => D.agg ((aB 61) v))) (q := zA) (fun _ _ => rfl) (⟨s4_18, s34_10⟩ : zq) s34_18 (fun _ => false)) (ob (z2i k p0 ((zZ zA (⟨s4_18, s34_10⟩ : zq) s34_18).getD (fun _ => false)) s4_18 _ h3907) (ob (zZj k p0 s4_18 (z8j s34_10 s24_12) _ h3909) (ob (zw zM v3908.1) (ob (zF (id := 10) (r' := (.nor, zcg p0 v2 s4_18 s24_12 v3402 s34_10 s34_18 v3908 v3910)) (zbc (zRn k p0 v2 s4_18 s24_12 v3402 s34_10 s34_18 v3908) k _ _ h3911) rfl) (ob (zxj (ek := (fun k => D.agg (zB k))) (evl := (fun v => D.agg ((aB 61) v))) (q := zA) (fun _ _ => rfl) (⟨(w64 (s4_18 - 1)), s24_12⟩ : zq) s34_18 (fun _ => false)) (ob (zap k ((zZ zA (⟨(w64 (s4_18 - 1)), s24_12⟩ : zq) s34_18).getD (fun _ => false)) v3910.2 _ h3913) (ob (zls (ek := (fun k => D.agg (zB k))) (evl := (fun v => D.agg ((aB 61) v))) (q := zA) (fun _ _ => rfl) (⟨(w64 (s4_18 - 1)), s24_12⟩ : zq) v3912 s34_18) ob0))))))))))) (by kernel_rfl)
 ·exact zqo [(97, 1, 0, .q (xb false))] [] g1 (ob (o_b h3901) ob0) (by kernel_rfl)
noncomputable def zvC (p0 : zd) (v2 : zt11) (s24_12 : Int) : TM := [(0, (.d (.agg (zn p0)))), (zsp 1), (2, (.d .nilm)), (zsp 3), (19, (xi (zJ 1 (p0.ShelfBook.Deliveries.1.length : Int)))), (20, (xi v2.1)), (21, (xb false)), (zsp 7), (52, (xb true)), (59, (xi (zJ 1 (p0.ShelfBook.Deliveries.1.length : Int)))), (60, (xi s24_12))]
noncomputable def zro (p0 : zd) (v2 : zt11) (s4_18 s24_12 : Int) (s24_20 : zt2) : St := ⟨(zvC p0 v2 s24_12), ⟨[(zc 1 (zn p0)), (14, (.map (em (fun k => D.agg (zB k)) (fun v => D.agg ((aB 61) v)) s24_20))), (3, (.cells [(.map 0 14)])), (7, (.cells [(xi s4_18)]))], []⟩, []⟩
noncomputable def zTC (p0 : zd) (v2 r : zt11) : TM := [(0, (.d (.agg (zn p0)))), (zsp 1), (2, (.d .nilm)), (zsp 3), (19, (xi (zJ 1 (p0.ShelfBook.Deliveries.1.length : Int)))), (20, (xi v2.1)), (21, (xb false)), (zsp 7), (52, (xb true)), (59, (xi (zJ 1 (p0.ShelfBook.Deliveries.1.length : Int)))), (60, (xi r.1)), (61, (xb false))]
noncomputable def zdg (p0 : zd) (v2 : zt11) (s4_18 : Int) (r : zt11) : St := ⟨(zTC p0 v2 r), ⟨[(zc 1 (zn p0)), (14, (.map (em (fun k => D.agg (zB k)) (fun v => D.agg ((aB 61) v)) r.2))), (3, (.cells [(.map 0 14)])), (7, (.cells [(xi s4_18)]))], []⟩, []⟩
noncomputable def z6n (p0 : zd) (v2 : zt11) (s4_18 : Int) : (Int × (List (zq × (Nat → Bool)))) → Ex × St := fun r => ((.exit 6), zdg p0 v2 s4_18 r)
theorem zQn (k : Nat) (p0 : zd) (v2 : zt11) (s4_18 s24_12 : Int) (s24_20 : zt2) (x : (Int × (List (zq × (Nat → Bool)))) ⊕ (Int × (List (zq × (Nat → Bool))))) (h : zbd k p0 v2 s4_18 s24_12 s24_20 = some x) : zO TE 82 (blk TE 82 6) (fun s : (Int × (List (zq × (Nat → Bool)))) => zro p0 v2 s4_18 s.1 s.2) (z6n p0 v2 s4_18) (s24_12, s24_20) x := by
 unfold zbd at h
 refine zm h (fun h3401 g1 => ?_) (fun h3401 g1 => ?_)
 ·refine zj g1 (fun v3402 h3403 g2 => ?_)
  refine zm g2 (fun h3404 g3 => ?_) (fun h3404 g3 => ?_)
  ·cases g3
  ·refine zj g3 (fun v3405 h3406 g4 => ?_)
   exact zqn ((w64 (s24_12 + 1)), v3405.2) [] [(82, 17, 0, .q (xb true)), (82, 19, 3, .c (.fn 97 [] [(.pin [(di v3402.1), (dl zk v3402.2.1.1 v3402.2.1.2), (dl zl v3402.2.2.1.1 v3402.2.2.1.2), (dl zh v3402.2.2.2.1.1 v3402.2.2.2.1.2), (dl zi v3402.2.2.2.2.1.1 v3402.2.2.2.2.1.2), (di v3402.2.2.2.2.2.1), (di v3402.2.2.2.2.2.2.1)]), (.pin [(di v3402.2.2.2.2.2.2.2.1)]), (.pin [(di v3402.2.2.2.2.2.2.2.2)])])), (97, 0, 3, .q (xi (v3402.2.2.2.1.1.length : Int))), (97, 0, 4, .q (xi (zJ 1 (v3402.2.2.2.1.1.length : Int))))] [(97, 0, (.nor, zlg p0 v2 s4_18 s24_12 v3402 v3405))] g4 (ob (o_b h3401) (ob (zSk k p0 s4_18 s24_12 _ h3403) (ob (zw zh v3402.2.2.2.1.1) (ob (zSc (x := 1) h3404) (ob (zF (id := 0) (r' := (.nor, zlg p0 v2 s4_18 s24_12 v3402 v3405)) (zbc (zon k p0 v2 s4_18 s24_12 v3402) k _ _ h3406) rfl) ob0))))) (by kernel_rfl)
 ·exact zqo [(82, 17, 0, .q (xb false))] [] g1 (ob (o_b h3401) ob0) (by kernel_rfl)
noncomputable def zBz (p0 : zd) (v2 : zt11) : TM := [(0, (.d (.agg (zn p0)))), (zsp 1), (2, (.d .nilm)), (zsp 3), (19, (xi (zJ 1 (p0.ShelfBook.Deliveries.1.length : Int)))), (20, (xi v2.1)), (21, (xb false)), (zsp 7)]
noncomputable def zFo (p0 : zd) (v2 : zt11) (s4_17 : zt2) (s4_18 : Int) : St := ⟨(zBz p0 v2), ⟨[(zc 1 (zn p0)), (14, (.map (em (fun k => D.agg (zB k)) (fun v => D.agg ((aB 61) v)) s4_17))), (3, (.cells [(.map 0 14)])), (7, (.cells [(xi s4_18)]))], []⟩, []⟩
noncomputable def zKg (p0 : zd) (v2 : zt11) (r : ((List (zq × (Nat → Bool))) × Int)) : St := ⟨(zBz p0 v2 ++ [(52, (xb false))]), ⟨[(zc 1 (zn p0)), (14, (.map (em (fun k => D.agg (zB k)) (fun v => D.agg ((aB 61) v)) r.1))), (3, (.cells [(.map 0 14)])), (7, (.cells [(xi r.2)]))], []⟩, []⟩
noncomputable def zQo (p0 : zd) (v2 : zt11) : ((List (zq × (Nat → Bool))) × Int) → Ex × St := fun r => ((.exit 4), zKg p0 v2 r)
theorem zfo (k : Nat) (p0 : zd) (v2 : zt11) (s4_17 : zt2) (s4_18 : Int) (x : ((List (zq × (Nat → Bool))) × Int) ⊕ ((List (zq × (Nat → Bool))) × Int)) (h : zEe k p0 v2 s4_17 s4_18 = some x) : zO TE 82 (blk TE 82 4) (fun s : ((List (zq × (Nat → Bool))) × Int) => zFo p0 v2 s.1 s.2) (zQo p0 v2) (s4_17, s4_18) x := by
 unfold zEe at h
 refine zm h (fun h2401 g1 => ?_) (fun h2401 g1 => ?_)
 ·refine zm g1 (fun h2402 g2 => ?_) (fun h2402 g2 => ?_)
  ·cases g2
  ·refine zj g2 (fun v2403 h2404 g3 => ?_)
   exact zqn (v2403.2, (w64 (s4_18 - 1))) [] [(82, 14, 1, .q (xb true)), (82, 16, 3, .q (xi (p0.ShelfBook.Deliveries.1.length : Int))), (82, 16, 4, .q (xi (zJ 1 (p0.ShelfBook.Deliveries.1.length : Int))))] [(82, 6, (.nor, zdg p0 v2 s4_18 v2403))] g3 (ob (o_b h2401) (ob (zw zh p0.ShelfBook.Deliveries.1) (ob (zSc (x := 1) h2402) (ob (zF (id := 6) (r' := (.nor, zdg p0 v2 s4_18 v2403)) (zbc (zQn k p0 v2 s4_18) k _ _ h2404) rfl) ob0)))) (by kernel_rfl)
 ·exact zqo [(82, 14, 1, .q (xb false))] [] g1 (ob (o_b h2401) ob0) (by kernel_rfl)
theorem zJp (k : Nat) (p0 : zd) (r : zt2) (h : z8f k p0 = some r) : zL TE (ev TE) 82 [(.agg (zn p0))] = some (zJl r) := by
 unfold z8f at h
 refine zm h (fun h1 g1 => ?_) (fun h1 g1 => ?_)
 ·cases g1
 ·refine zj g1 (fun v2 h3 g2 => ?_)
  refine zj g2 (fun v4 h5 g3 => ?_)
  exact zI (g := zJl) g3 (zqc [(82, 2, 3, .q (xi (p0.ShelfBook.Deliveries.1.length : Int))), (82, 2, 4, .q (xi (zJ 1 (p0.ShelfBook.Deliveries.1.length : Int))))] [(82, 0, (.nor, zTg p0 v2)), (82, 4, (.nor, zKg p0 v2 v4))] (ob (zw zh p0.ShelfBook.Deliveries.1) (ob (zSc (x := 1) h1) (ob (zF (id := 0) (r' := (.nor, zTg p0 v2)) (zbc (zvo k p0) k _ _ h3) rfl) (ob (zF (id := 4) (r' := (.nor, zKg p0 v2 v4)) (zbc (zfo k p0 v2) k _ _ h5) rfl) ob0)))) (by kernel_rfl))
noncomputable def zfD (p0 : zd) (v1 v3 : zt2) (s1_10 s13_13 : Int) (v1902 : zt0) (s19_2 : Int) : TM := [(0, (.d (.agg (zn p0)))), (zsp 1), (zsp 2), (zsp 3), (4, (.d (.mp (em (fun k => D.agg (zB k)) (fun v => D.agg ((aB 61) v)) v1)))), (5, (.d (.mp (em (fun k => D.agg (zB k)) (fun v => D.agg ((aB 61) v)) v3)))), (17, (xi p0.ShelfBook.Days)), (18, (xi s1_10)), (19, (xb true)), (zsp 6), (25, (xi (zJ 1 (p0.ShelfBook.Deliveries.1.length : Int)))), (26, (xi s13_13)), (27, (xb true)), (7, (xi s13_13)), (zsp 8), (zsp 9), (38, (.d (.fn 96 [] [(.pin (aB 61 v1902))]))), (39, (xi s19_2)), (10, (xi s19_2))]
noncomputable def zyt (p0 : zd) (v1 v3 : zt2) (s1_10 s13_13 : Int) (v1902 : zt0) : TM := [(0, (.d (.agg (zn p0)))), (zsp 1), (zsp 2), (zsp 3), (4, (.d (.mp (em (fun k => D.agg (zB k)) (fun v => D.agg ((aB 61) v)) v1)))), (5, (.d (.mp (em (fun k => D.agg (zB k)) (fun v => D.agg ((aB 61) v)) v3)))), (17, (xi p0.ShelfBook.Days)), (18, (xi s1_10)), (19, (xb true)), (zsp 6), (25, (xi (zJ 1 (p0.ShelfBook.Deliveries.1.length : Int)))), (26, (xi s13_13)), (27, (xb true)), (7, (xi s13_13)), (zsp 8), (zsp 9), (38, (.d (.fn 96 [] [(.pin (aB 61 v1902))])))]
noncomputable def z3d (p0 : zd) (v1 v3 : zt2) (s1_10 s13_13 : Int) (v1902 : zt0) (s19_2 : Int) (s19_11 r : zt0) : St := ⟨(zfD p0 v1 v3 s1_10 s13_13 v1902 s19_2), ⟨[], [[(zc 1 (zn p0)), (zc 2 (aB 732 (fun _ => false))), (zc 3 (aB 732 r)), (6, (.cells [(xi s1_10)])), (8, (.cells [(xi s1_10), (xi s13_13)])), (zc 9 (aB 61 ((zZ zA (⟨s1_10, s13_13⟩ : zq) v3).getD (fun _ => false))))], []]⟩, [⟨(zyt p0 v1 v3 s1_10 s13_13 v1902), 0, rfP (blk TE 53 4), rfA (blk TE 53 4), rfB (blk TE 53 4), 53, .busy⟩]⟩
noncomputable def z9A (p0 : zd) (k : Nat) (v1 v3 : zt2) (s1_10 s13_13 : Int) (v1902 : zt0) (s19_2 : Int) : TM := [(0, (.d (.agg (zn p0)))), (zsp 1), (zsp 2), (zsp 3), (4, (.d (.mp (em (fun k => D.agg (zB k)) (fun v => D.agg ((aB 61) v)) v1)))), (5, (.d (.mp (em (fun k => D.agg (zB k)) (fun v => D.agg ((aB 61) v)) v3)))), (17, (xi p0.ShelfBook.Days)), (18, (xi s1_10)), (19, (xb true)), (zsp 6), (25, (xi (zJ 1 (p0.ShelfBook.Deliveries.1.length : Int)))), (26, (xi s13_13)), (27, (xb true)), (7, (xi s13_13)), (zsp 8), (zsp 9), (38, (.d (.fn 96 [] [(.pin (aB 61 v1902))]))), (39, (xi s19_2)), (10, (xi s19_2))]
noncomputable def zxy (p0 : zd) (k : Nat) (v1 v3 : zt2) (s1_10 s13_13 : Int) (v1902 : zt0) : TM := [(0, (.d (.agg (zn p0)))), (zsp 1), (zsp 2), (zsp 3), (4, (.d (.mp (em (fun k => D.agg (zB k)) (fun v => D.agg ((aB 61) v)) v1)))), (5, (.d (.mp (em (fun k => D.agg (zB k)) (fun v => D.agg ((aB 61) v)) v3)))), (17, (xi p0.ShelfBook.Days)), (18, (xi s1_10)), (19, (xb true)), (zsp 6), (25, (xi (zJ 1 (p0.ShelfBook.Deliveries.1.length : Int)))), (26, (xi s13_13)), (27, (xb true)), (7, (xi s13_13)), (zsp 8), (zsp 9), (38, (.d (.fn 96 [] [(.pin (aB 61 v1902))])))]
theorem zrm (k : Nat) (p0 : zd) (v1 v3 : zt2) (s1_10 s13_13 : Int) (v1902 : zt0) (s19_2 : Int) (s19_11 r : zt0) (h : zLe k p0 v1 v3 s1_10 s13_13 v1902 s19_2 s19_11 = some r) : ev TE 53 (rgn TE 53 13) ⟨(z9A p0 k v1 v3 s1_10 s13_13 v1902 s19_2), ⟨[], [[(zc 1 (zn p0)), (zc 2 (aB 732 (fun _ => false))), (zc 3 (aB 732 s19_11)), (6, (.cells [(xi s1_10)])), (8, (.cells [(xi s1_10), (xi s13_13)])), (zc 9 (aB 61 ((zZ zA (⟨s1_10, s13_13⟩ : zq) v3).getD (fun _ => false))))], []]⟩, [⟨(zxy p0 k v1 v3 s1_10 s13_13 v1902), 0, rfP (blk TE 53 4), rfA (blk TE 53 4), rfB (blk TE 53 4), 53, .busy⟩]⟩ = some (.nor, z3d p0 v1 v3 s1_10 s13_13 v1902 s19_2 s19_11 r) := by
 unfold zLe at h
 refine zR h (fun h2401 g1 => ?_)
 refine zR g1 (fun h2402 g2 => ?_)
 refine zm g2 (fun h2403 g3 => ?_) (fun h2403 g3 => ?_)
 ·exact zy (g := fun r => (Ex.nor, z3d p0 v1 v3 s1_10 s13_13 v1902 s19_2 s19_11 r)) g3 (zqe [(53, 13, 4, .q (.ptr 0 3 ((s1_10.toNat * 61)))), (53, 13, 5, .q (.ptr 0 3 (((s1_10.toNat * 61) + s19_2.toNat)))), (53, 13, 6, .q (xb (s19_11 ((s1_10.toNat * 61) + s19_2.toNat)))), (53, 13, 7, .q (xb true)), (53, 13, 12, .q (.ptr 0 3 ((s1_10.toNat * 61)))), (53, 13, 13, .q (.ptr 0 3 (((s1_10.toNat * 61) + s19_2.toNat)))), (53, 13, 14, .st ((aB 732 (upd s19_11 ((s1_10.toNat * 61) + s19_2.toNat) true)).map .d))] [] (ob (zrd (m := 12) 0 3 0 61 (s1_10.toNat * 61) h2401 (by omega)) (ob (zrd (m := 61) 0 3 (s1_10.toNat * 61) 1 ((s1_10.toNat * 61) + s19_2.toNat) h2402 (by omega)) (ob (zds 732 s19_11 ((s1_10.toNat * 61) + s19_2.toNat) (by have h1 := h2402; have h2 := h2401; simp only [Bool.and_eq_true, decide_eq_true_eq] at h1 h2; omega)) (ob (o_b h2403) (ob (zrd (m := 12) 0 3 0 61 (s1_10.toNat * 61) h2401 (by omega)) (ob (zrd (m := 61) 0 3 (s1_10.toNat * 61) 1 ((s1_10.toNat * 61) + s19_2.toNat) h2402 (by omega)) (ob (zyk 732 s19_11 ((s1_10.toNat * 61) + s19_2.toNat) true (by have h1 := h2402; have h2 := h2401; simp only [Bool.and_eq_true, decide_eq_true_eq] at h1 h2; omega)) ob0))))))) (by kernel_rfl))
 ·exact zy (g := fun r => (Ex.nor, z3d p0 v1 v3 s1_10 s13_13 v1902 s19_2 s19_11 r)) g3 (zqe [(53, 13, 4, .q (.ptr 0 3 ((s1_10.toNat * 61)))), (53, 13, 5, .q (.ptr 0 3 (((s1_10.toNat * 61) + s19_2.toNat)))), (53, 13, 6, .q (xb (s19_11 ((s1_10.toNat * 61) + s19_2.toNat)))), (53, 13, 7, .q (xb false)), (53, 13, 9, .q (.ptr 0 9 (s19_2.toNat))), (53, 13, 10, .q (xb (((zZ zA (⟨s1_10, s13_13⟩ : zq) v3).getD (fun _ => false)) s19_2.toNat))), (53, 13, 12, .q (.ptr 0 3 ((s1_10.toNat * 61)))), (53, 13, 13, .q (.ptr 0 3 (((s1_10.toNat * 61) + s19_2.toNat)))), (53, 13, 14, .st ((aB 732 (upd s19_11 ((s1_10.toNat * 61) + s19_2.toNat) (((zZ zA (⟨s1_10, s13_13⟩ : zq) v3).getD (fun _ => false)) s19_2.toNat))).map .d))] [] (ob (zrd (m := 12) 0 3 0 61 (s1_10.toNat * 61) h2401 (by omega)) (ob (zrd (m := 61) 0 3 (s1_10.toNat * 61) 1 ((s1_10.toNat * 61) + s19_2.toNat) h2402 (by omega)) (ob (zds 732 s19_11 ((s1_10.toNat * 61) + s19_2.toNat) (by have h1 := h2402; have h2 := h2401; simp only [Bool.and_eq_true, decide_eq_true_eq] at h1 h2; omega)) (ob (o_b h2403) (ob (zrd (m := 61) 0 9 0 1 s19_2.toNat h2402 (by omega)) (ob (zds 61 ((zZ zA (⟨s1_10, s13_13⟩ : zq) v3).getD (fun _ => false)) s19_2.toNat (by have := h2402; simp only [Bool.and_eq_true, decide_eq_true_eq] at this; omega)) (ob (zrd (m := 12) 0 3 0 61 (s1_10.toNat * 61) h2401 (by omega)) (ob (zrd (m := 61) 0 3 (s1_10.toNat * 61) 1 ((s1_10.toNat * 61) + s19_2.toNat) h2402 (by omega)) (ob (zyk 732 s19_11 ((s1_10.toNat * 61) + s19_2.toNat) (((zZ zA (⟨s1_10, s13_13⟩ : zq) v3).getD (fun _ => false)) s19_2.toNat) (by have h1 := h2402; have h2 := h2401; simp only [Bool.and_eq_true, decide_eq_true_eq] at h1 h2; omega)) ob0))))))))) (by kernel_rfl))
noncomputable def zdA (v1902 : zt0) (s19_2 : Int) : TM := [(0, (.yld 0)), (1, (.d (.pin (aB 61 v1902)))), (5, (.d (.agg (aB 61 v1902)))), (6, (xi s19_2)), (7, (xb true)), (3, (xi s19_2)), (4, (xb (v1902 s19_2.toNat))), (16, (xb false))]
noncomputable def z4d (p0 : zd) (v1 v3 : zt2) (s1_10 s13_13 : Int) (v1902 : zt0) (s19_2 : Int) (s19_11 r : zt0) : St := ⟨(zdA v1902 s19_2), ⟨[], [[(zc 1 (zn p0)), (zc 2 (aB 732 (fun _ => false))), (zc 3 (aB 732 r)), (6, (.cells [(xi s1_10)])), (8, (.cells [(xi s1_10), (xi s13_13)])), (zc 9 (aB 61 ((zZ zA (⟨s1_10, s13_13⟩ : zq) v3).getD (fun _ => false))))]]⟩, [⟨(zyt p0 v1 v3 s1_10 s13_13 v1902), 0, rfP (blk TE 53 4), rfA (blk TE 53 4), rfB (blk TE 53 4), 53, .rdy⟩]⟩
noncomputable def zjA (v1902 : zt0) (s19_2 : Int) : TM := [(0, (.yld 0)), (1, (.d (.pin (aB 61 v1902)))), (5, (.d (.agg (aB 61 v1902)))), (6, (xi s19_2)), (7, (xb true)), (3, (xi s19_2)), (4, (xb (v1902 s19_2.toNat)))]
theorem zzm (k : Nat) (p0 : zd) (v1 v3 : zt2) (s1_10 s13_13 : Int) (v1902 : zt0) (s19_2 : Int) (s19_11 r : zt0) (h : zKe k p0 v1 v3 s1_10 s13_13 v1902 s19_2 s19_11 = some r) : ev TE 96 (rgn TE 96 3) ⟨(zjA v1902 s19_2), ⟨[], [[(zc 1 (zn p0)), (zc 2 (aB 732 (fun _ => false))), (zc 3 (aB 732 s19_11)), (6, (.cells [(xi s1_10)])), (8, (.cells [(xi s1_10), (xi s13_13)])), (zc 9 (aB 61 ((zZ zA (⟨s1_10, s13_13⟩ : zq) v3).getD (fun _ => false))))]]⟩, [⟨(zxy p0 k v1 v3 s1_10 s13_13 v1902), 0, rfP (blk TE 53 4), rfA (blk TE 53 4), rfB (blk TE 53 4), 53, .rdy⟩]⟩ = some (.nor, z4d p0 v1 v3 s1_10 s13_13 v1902 s19_2 s19_11 r) := by
 unfold zKe at h
 refine zm h (fun h2301 g1 => ?_) (fun h2301 g1 => ?_)
 ·refine zj g1 (fun v2302 h2303 g2 => ?_)
  exact zy (g := fun r => (Ex.nor, z4d p0 v1 v3 s1_10 s13_13 v1902 s19_2 s19_11 r)) g2 (zqe [(96, 3, 1, .q (xb true))] [(53, 1000013, (.nor, z3d p0 v1 v3 s1_10 s13_13 v1902 s19_2 s19_11 v2302))] (ob (o_b h2301) (ob (zrm k p0 v1 v3 s1_10 s13_13 v1902 s19_2 s19_11 _ h2303) ob0)) (by kernel_rfl))
 ·exact zy (g := fun r => (Ex.nor, z4d p0 v1 v3 s1_10 s13_13 v1902 s19_2 s19_11 r)) g1 (zqe [(96, 3, 1, .q (xb false))] [] (ob (o_b h2301) ob0) (by kernel_rfl))
noncomputable def zGA (v1902 : zt0) (s19_2 : Int) : TM := [(0, (.yld 0)), (1, (.d (.pin (aB 61 v1902)))), (5, (.d (.agg (aB 61 v1902)))), (6, (xi s19_2))]
noncomputable def zOm (p0 : zd) (v1 v3 : zt2) (s1_10 s13_13 : Int) (v1902 : zt0) (s19_2 : Int) (s19_11 : zt0) : St := ⟨(zGA v1902 s19_2), ⟨[], [[(zc 1 (zn p0)), (zc 2 (aB 732 (fun _ => false))), (zc 3 (aB 732 s19_11)), (6, (.cells [(xi s1_10)])), (8, (.cells [(xi s1_10), (xi s13_13)])), (zc 9 (aB 61 ((zZ zA (⟨s1_10, s13_13⟩ : zq) v3).getD (fun _ => false))))]]⟩, [⟨(zyt p0 v1 v3 s1_10 s13_13 v1902), 0, rfP (blk TE 53 4), rfA (blk TE 53 4), rfB (blk TE 53 4), 53, .rdy⟩]⟩
noncomputable def zbA (v1902 : zt0) (r : zt15) : TM := [(0, (.yld 0)), (1, (.d (.pin (aB 61 v1902)))), (5, (.d (.agg (aB 61 v1902)))), (6, (xi r.1)), (7, (xb false))]
noncomputable def zmf (p0 : zd) (v1 v3 : zt2) (s1_10 s13_13 : Int) (v1902 : zt0) (r : zt15) : St := ⟨(zbA v1902 r), ⟨[], [[(zc 1 (zn p0)), (zc 2 (aB 732 (fun _ => false))), (zc 3 (aB 732 r.2)), (6, (.cells [(xi s1_10)])), (8, (.cells [(xi s1_10), (xi s13_13)])), (zc 9 (aB 61 ((zZ zA (⟨s1_10, s13_13⟩ : zq) v3).getD (fun _ => false))))]]⟩, [⟨(zyt p0 v1 v3 s1_10 s13_13 v1902), 0, rfP (blk TE 53 4), rfA (blk TE 53 4), rfB (blk TE 53 4), 53, .rdy⟩]⟩
noncomputable def zMm (p0 : zd) (v1 v3 : zt2) (s1_10 s13_13 : Int) (v1902 : zt0) : (Int × (Nat → Bool)) → Ex × St := fun r => ((.exit 0), zmf p0 v1 v3 s1_10 s13_13 v1902 r)
theorem zAm (k : Nat) (p0 : zd) (v1 v3 : zt2) (s1_10 s13_13 : Int) (v1902 : zt0) (s19_2 : Int) (s19_11 : zt0) (x : (Int × (Nat → Bool)) ⊕ (Int × (Nat → Bool))) (h : zKc k p0 v1 v3 s1_10 s13_13 v1902 s19_2 s19_11 = some x) : zO TE 96 (blk TE 96 0) (fun s : (Int × (Nat → Bool)) => zOm p0 v1 v3 s1_10 s13_13 v1902 s.1 s.2) (zMm p0 v1 v3 s1_10 s13_13 v1902) (s19_2, s19_11) x := by
 unfold zKc at h
 refine zm h (fun h2201 g1 => ?_) (fun h2201 g1 => ?_)
 ·refine zR g1 (fun h2202 g2 => ?_)
  refine zj g2 (fun v2203 h2204 g3 => ?_)
  exact zqn ((w64 (s19_2 + 1)), v2203) [] [(96, 1, 0, .q (xb true)), (96, 2, 1, .q (xb (v1902 s19_2.toNat)))] [(96, 1000003, (.nor, z4d p0 v1 v3 s1_10 s13_13 v1902 s19_2 s19_11 v2203))] g3 (ob (o_b h2201) (ob (zMr 61 v1902 s19_2 h2202) (ob (zzm k p0 v1 v3 s1_10 s13_13 v1902 s19_2 s19_11 _ h2204) ob0))) (by kernel_rfl)
 ·exact zqo [(96, 1, 0, .q (xb false))] [] g1 (ob (o_b h2201) ob0) (by kernel_rfl)
noncomputable def zsB (p0 : zd) (v1 v3 : zt2) (s1_10 s13_13 : Int) : TM := [(0, (.d (.agg (zn p0)))), (zsp 1), (zsp 2), (zsp 3), (4, (.d (.mp (em (fun k => D.agg (zB k)) (fun v => D.agg ((aB 61) v)) v1)))), (5, (.d (.mp (em (fun k => D.agg (zB k)) (fun v => D.agg ((aB 61) v)) v3)))), (17, (xi p0.ShelfBook.Days)), (18, (xi s1_10)), (19, (xb true)), (zsp 6), (25, (xi (zJ 1 (p0.ShelfBook.Deliveries.1.length : Int)))), (26, (xi s13_13))]
noncomputable def zWm (p0 : zd) (v1 v3 : zt2) (s1_10 s13_13 : Int) (s13_22 : zt0) : St := ⟨(zsB p0 v1 v3 s1_10 s13_13), ⟨[(zc 1 (zn p0)), (zc 2 (aB 732 (fun _ => false))), (zc 3 (aB 732 s13_22)), (6, (.cells [(xi s1_10)]))], []⟩, []⟩
noncomputable def z0B (p0 : zd) (v1 v3 : zt2) (s1_10 : Int) (r : zt15) : TM := [(0, (.d (.agg (zn p0)))), (zsp 1), (zsp 2), (zsp 3), (4, (.d (.mp (em (fun k => D.agg (zB k)) (fun v => D.agg ((aB 61) v)) v1)))), (5, (.d (.mp (em (fun k => D.agg (zB k)) (fun v => D.agg ((aB 61) v)) v3)))), (17, (xi p0.ShelfBook.Days)), (18, (xi s1_10)), (19, (xb true)), (zsp 6), (25, (xi (zJ 1 (p0.ShelfBook.Deliveries.1.length : Int)))), (26, (xi r.1)), (27, (xb false))]
noncomputable def zxf (p0 : zd) (v1 v3 : zt2) (s1_10 : Int) (r : zt15) : St := ⟨(z0B p0 v1 v3 s1_10 r), ⟨[(zc 1 (zn p0)), (zc 2 (aB 732 (fun _ => false))), (zc 3 (aB 732 r.2)), (6, (.cells [(xi s1_10)]))], []⟩, []⟩
noncomputable def zSm (p0 : zd) (v1 v3 : zt2) (s1_10 : Int) : (Int × (Nat → Bool)) → Ex × St := fun r => ((.exit 2), zxf p0 v1 v3 s1_10 r)
theorem zum (k : Nat) (p0 : zd) (v1 v3 : zt2) (s1_10 s13_13 : Int) (s13_22 : zt0) (x : (Int × (Nat → Bool)) ⊕ (Int × (Nat → Bool))) (h : zJc k p0 v1 v3 s1_10 s13_13 s13_22 = some x) : zO TE 53 (blk TE 53 2) (fun s : (Int × (Nat → Bool)) => zWm p0 v1 v3 s1_10 s.1 s.2) (zSm p0 v1 v3 s1_10) (s13_13, s13_22) x := by
 unfold zJc at h
 refine zm h (fun h1901 g1 => ?_) (fun h1901 g1 => ?_)
 ·refine zj g1 (fun v1902 h1903 g2 => ?_)
  refine zj g2 (fun v1904 h1905 g3 => ?_)
  exact zqn ((w64 (s13_13 + 1)), v1904.2) [] [(53, 7, 0, .q (xb true)), (53, 10, 2, .q (.d (.agg (aB 61 ((zZ zA (⟨s1_10, s13_13⟩ : zq) v3).getD (fun _ => false)))))), (53, 11, 2, .q (.d (.agg (aB 61 ((zZ zA (⟨s1_10, s13_13⟩ : zq) v1).getD (fun _ => false)))))), (53, 11, 3, .c (.fn 96 [] [(.pin (aB 61 v1902))]))] [(96, 0, (.nor, zmf p0 v1 v3 s1_10 s13_13 v1902 v1904))] g3 (ob (o_b h1901) (ob (zxj (ek := (fun k => D.agg (zB k))) (evl := (fun v => D.agg ((aB 61) v))) (q := zA) (fun _ _ => rfl) (⟨s1_10, s13_13⟩ : zq) v3 (fun _ => false)) (ob (zxj (ek := (fun k => D.agg (zB k))) (evl := (fun v => D.agg ((aB 61) v))) (q := zA) (fun _ _ => rfl) (⟨s1_10, s13_13⟩ : zq) v1 (fun _ => false)) (ob (z9d k ((zZ zA (⟨s1_10, s13_13⟩ : zq) v1).getD (fun _ => false)) _ h1903) (ob (zF (id := 0) (r' := (.nor, zmf p0 v1 v3 s1_10 s13_13 v1902 v1904)) (zbc (zAm k p0 v1 v3 s1_10 s13_13 v1902) k _ _ h1905) rfl) ob0))))) (by kernel_rfl)
 ·exact zqo [(53, 7, 0, .q (xb false))] [] g1 (ob (o_b h1901) ob0) (by kernel_rfl)
noncomputable def zHA (p0 : zd) (v1 v3 : zt2) (s1_10 : Int) : TM := [(0, (.d (.agg (zn p0)))), (zsp 1), (zsp 2), (zsp 3), (4, (.d (.mp (em (fun k => D.agg (zB k)) (fun v => D.agg ((aB 61) v)) v1)))), (5, (.d (.mp (em (fun k => D.agg (zB k)) (fun v => D.agg ((aB 61) v)) v3)))), (17, (xi p0.ShelfBook.Days)), (18, (xi s1_10))]
noncomputable def zOn (p0 : zd) (v1 v3 : zt2) (s1_10 : Int) (s1_19 : zt0) : St := ⟨(zHA p0 v1 v3 s1_10), ⟨[(zc 1 (zn p0)), (zc 2 (aB 732 (fun _ => false))), (zc 3 (aB 732 s1_19))], []⟩, []⟩
noncomputable def zlB (p0 : zd) (v1 v3 : zt2) (r : zt15) : TM := [(0, (.d (.agg (zn p0)))), (zsp 1), (zsp 2), (zsp 3), (4, (.d (.mp (em (fun k => D.agg (zB k)) (fun v => D.agg ((aB 61) v)) v1)))), (5, (.d (.mp (em (fun k => D.agg (zB k)) (fun v => D.agg ((aB 61) v)) v3)))), (17, (xi p0.ShelfBook.Days)), (18, (xi r.1)), (19, (xb false))]
noncomputable def zQf (p0 : zd) (v1 v3 : zt2) (r : zt15) : St := ⟨(zlB p0 v1 v3 r), ⟨[(zc 1 (zn p0)), (zc 2 (aB 732 (fun _ => false))), (zc 3 (aB 732 r.2))], []⟩, []⟩
noncomputable def zsn (p0 : zd) (v1 v3 : zt2) : (Int × (Nat → Bool)) → Ex × St := fun r => ((.exit 0), zQf p0 v1 v3 r)
theorem zPm (k : Nat) (p0 : zd) (v1 v3 : zt2) (s1_10 : Int) (s1_19 : zt0) (x : (Int × (Nat → Bool)) ⊕ (Int × (Nat → Bool))) (h : zPd k p0 v1 v3 s1_10 s1_19 = some x) : zO TE 53 (blk TE 53 0) (fun s : (Int × (Nat → Bool)) => zOn p0 v1 v3 s.1 s.2) (zsn p0 v1 v3) (s1_10, s1_19) x := by
 unfold zPd at h
 refine zm h (fun h1301 g1 => ?_) (fun h1301 g1 => ?_)
 ·refine zm g1 (fun h1302 g2 => ?_) (fun h1302 g2 => ?_)
  ·cases g2
  ·refine zj g2 (fun v1303 h1304 g3 => ?_)
   exact zqn ((w64 (s1_10 + 1)), v1303.2) [] [(53, 4, 0, .q (xb true)), (53, 6, 3, .q (xi (p0.ShelfBook.Deliveries.1.length : Int))), (53, 6, 4, .q (xi (zJ 1 (p0.ShelfBook.Deliveries.1.length : Int))))] [(53, 2, (.nor, zxf p0 v1 v3 s1_10 v1303))] g3 (ob (o_b h1301) (ob (zw zh p0.ShelfBook.Deliveries.1) (ob (zSc (x := 1) h1302) (ob (zF (id := 2) (r' := (.nor, zxf p0 v1 v3 s1_10 v1303)) (zbc (zum k p0 v1 v3 s1_10) k _ _ h1304) rfl) ob0)))) (by kernel_rfl)
 ·exact zqo [(53, 4, 0, .q (xb false))] [] g1 (ob (o_b h1301) ob0) (by kernel_rfl)
theorem zxb (k : Nat) (p0 : zd) (r : zt0) (h : zvb k p0 = some r) : zL TE (ev TE) 53 [(.agg (zn p0))] = some (z0j r) := by
 unfold zvb at h
 refine zj h (fun v1 h2 g1 => ?_)
 refine zj g1 (fun v3 h4 g2 => ?_)
 refine zj g2 (fun v5 h6 g3 => ?_)
 exact zI (g := z0j) g3 (zqc [(53, 2, 1, .c (.mp (em (fun k => D.agg (zB k)) (fun v => D.agg ((aB 61) v)) v1))), (53, 2, 3, .c (.mp (em (fun k => D.agg (zB k)) (fun v => D.agg ((aB 61) v)) v3)))] [(53, 0, (.nor, zQf p0 v1 v3 v5))] (ob (zxh k p0 _ h2) (ob (zJp k p0 _ h4) (ob (zF (id := 0) (r' := (.nor, zQf p0 v1 v3 v5)) (zbc (zPm k p0 v1 v3) k _ _ h6) rfl) ob0))) (by kernel_rfl))
theorem ztn (k : Nat) (p0 : zr) (r : Int) (h : zzf k p0 = some r) : zL TE (ev TE) 84 [(.agg [(di p0.Low), (di p0.High)])] = some (z4i r) := by
 unfold zzf at h
 exact zI (g := z4i) h (zqc [] [] ob0 (by kernel_rfl))
noncomputable def zIA (s1_0 : Int) (p1 : (SL Int)) (s1_5 : Int) : TM := [(0, (xi s1_0)), (1, (.d (dl eI p1.1 p1.2))), (4, (xi 0)), (7, (.d (dl eI p1.1 p1.2))), (8, (xi (p1.1.length : Int))), (9, (xi s1_5))]
noncomputable def zLm (p1 : (SL Int)) (s1_0 s1_5 : Int) : St := ⟨(zIA s1_0 p1 s1_5), ⟨[], []⟩, []⟩
noncomputable def z3A (r : (Int × Int)) (p1 : (SL Int)) : TM := [(0, (xi r.1)), (1, (.d (dl eI p1.1 p1.2))), (4, (xi 0)), (7, (.d (dl eI p1.1 p1.2))), (8, (xi (p1.1.length : Int))), (9, (xi r.2)), (10, (xb false))]
noncomputable def ztf (p1 : (SL Int)) (r : (Int × Int)) : St := ⟨(z3A r p1), ⟨[], []⟩, []⟩
noncomputable def zYm (p1 : (SL Int)) : (Int × Int) → Ex × St := fun r => ((.exit 0), ztf p1 r)
theorem zim (k : Nat) (p1 : (SL Int)) (s1_0 s1_5 : Int) (x : (Int × Int) ⊕ (Int × Int)) (h : zac k p1 s1_0 s1_5 = some x) : zO TE 65 (blk TE 65 0) (fun s : (Int × Int) => zLm p1 s.1 s.2) (zYm p1) (s1_0, s1_5) x := by
 unfold zac at h
 refine zm h (fun h201 g1 => ?_) (fun h201 g1 => ?_)
 ·refine zj g1 (fun v202 h203 g2 => ?_)
  exact zqn ((if v202 > s1_0 then v202 else s1_0), (w64 (s1_5 + 1))) [] [(65, 2, 0, .q (xb true)), (65, 3, 0, .q (.d (.pin [(di v202)])))] [] g2 (ob (o_b h201) (ob (o_ia (e := eI) 1 h203 rfl) ob0)) (by kernel_rfl)
 ·exact zqo [(65, 2, 0, .q (xb false))] [] g1 (ob (o_b h201) ob0) (by kernel_rfl)
theorem zSg (k : Nat) (p0 : Int) (p1 : (SL Int)) (r : Int) (h : zUc k p0 p1 = some r) : zL TE (ev TE) 65 [(di p0), (dl eI p1.1 p1.2)] = some (zej r) := by
 unfold zUc at h
 refine zj h (fun v1 h2 g1 => ?_)
 exact zI (g := zej) g1 (zqc [(65, 1, 1, .q (xi (p1.1.length : Int)))] [(65, 0, (.nor, ztf p1 v1))] (ob (zw eI p1.1) (ob (zF (id := 0) (r' := (.nor, ztf p1 v1)) (zbc (zim k p1) k _ _ h2) rfl) ob0)) (by kernel_rfl))
theorem zHn (k : Nat) (p0 : zr) (r : Int) (h : zGf k p0 = some r) : zL TE (ev TE) 85 [(.agg [(di p0.Low), (di p0.High)])] = some (zWi r) := by
 unfold zGf at h
 exact zI (g := zWi) h (zqc [] [] ob0 (by kernel_rfl))
noncomputable def z1A (v1 : zt0) (s1_2 : Int) : TM := [(0, (.yld 0)), (1, (.d (.pin (aB 61 v1)))), (5, (.d (.agg (aB 61 v1)))), (6, (xi s1_2)), (7, (xb true)), (3, (xi s1_2)), (4, (xb (v1 s1_2.toNat))), (16, (xb false))]
noncomputable def zCt (p0 v1 : zt0) : TM := [(0, (.d (.agg (aB 61 p0)))), (zsp 1), (zsp 2), (zsp 3), (zsp 4), (zsp 5), (11, (.d (.fn 96 [] [(.pin (aB 61 v1))])))]
noncomputable def zwe (p0 v1 : zt0) (s1_2 s1_6 s1_7 : Int) (r : (Int × Int)) : St := ⟨(z1A v1 s1_2), ⟨[], [[(zc 1 (aB 61 p0)), (2, (.cells [(xi 0), (xi 0)])), (3, (.cells [(xi r.1), (xi r.2)])), (4, (.cells [(.d (.fn 84 [] []))])), (5, (.cells [(.d (.fn 85 [] []))]))]]⟩, [⟨(zCt p0 v1), 0, rfP (blk TE 54 0), rfA (blk TE 54 0), rfB (blk TE 54 0), 54, .rdy⟩]⟩
noncomputable def z0A (v1 : zt0) (s1_2 : Int) : TM := [(0, (.yld 0)), (1, (.d (.pin (aB 61 v1)))), (5, (.d (.agg (aB 61 v1)))), (6, (xi s1_2)), (7, (xb true)), (3, (xi s1_2)), (4, (xb (v1 s1_2.toNat)))]
theorem zVm (k : Nat) (p0 v1 : zt0) (s1_2 s1_6 s1_7 : Int) (r : (Int × Int)) (h : zef k p0 v1 s1_2 s1_6 s1_7 = some r) : ev TE 96 (rgn TE 96 3) ⟨(z0A v1 s1_2), ⟨[], [[(zc 1 (aB 61 p0)), (2, (.cells [(xi 0), (xi 0)])), (3, (.cells [(xi s1_6), (xi s1_7)])), (4, (.cells [(.d (.fn 84 [] []))])), (5, (.cells [(.d (.fn 85 [] []))]))]]⟩, [⟨(zCt p0 v1), 0, rfP (blk TE 54 0), rfA (blk TE 54 0), rfB (blk TE 54 0), 54, .rdy⟩]⟩ = some (.nor, zwe p0 v1 s1_2 s1_6 s1_7 r) := by
 unfold zef at h
 refine zm h (fun h401 g1 => ?_) (fun h401 g1 => ?_)
 ·refine zj g1 (fun v402 h403 g2 => ?_)
  refine zj g2 (fun v404 h405 g3 => ?_)
  refine zj g3 (fun v406 h407 g4 => ?_)
  refine zj g4 (fun v408 h409 g5 => ?_)
  exact zy (g := fun r => (Ex.nor, zwe p0 v1 s1_2 s1_6 s1_7 r)) g5 (zqe [(96, 3, 1, .q (xb true)), (54, 5, 3, .c (di v402)), (54, 5, 8, .c (di v404)), (54, 5, 13, .c (di v406)), (54, 5, 16, .c (di v408))] [] (ob (o_b h401) (ob (ztn k (⟨s1_6, s1_7⟩ : zr) _ h403) (ob (zSg k (w64 (0 - v402)) ([(w64 (0 - s1_2))], .ex) _ h405) (ob (zHn k (⟨s1_6, s1_7⟩ : zr) _ h407) (ob (zSg k v406 ([s1_2], .ex) _ h409) ob0))))) (by kernel_rfl))
 ·exact zy (g := fun r => (Ex.nor, zwe p0 v1 s1_2 s1_6 s1_7 r)) g1 (zqe [(96, 3, 1, .q (xb false))] [] (ob (o_b h401) ob0) (by kernel_rfl))
noncomputable def zFB (v1 : zt0) (s1_2 : Int) : TM := [(0, (.yld 0)), (1, (.d (.pin (aB 61 v1)))), (5, (.d (.agg (aB 61 v1)))), (6, (xi s1_2))]
noncomputable def znn (p0 v1 : zt0) (s1_2 s1_6 s1_7 : Int) : St := ⟨(zFB v1 s1_2), ⟨[], [[(zc 1 (aB 61 p0)), (2, (.cells [(xi 0), (xi 0)])), (3, (.cells [(xi s1_6), (xi s1_7)])), (4, (.cells [(.d (.fn 84 [] []))])), (5, (.cells [(.d (.fn 85 [] []))]))]]⟩, [⟨(zCt p0 v1), 0, rfP (blk TE 54 0), rfA (blk TE 54 0), rfB (blk TE 54 0), 54, .rdy⟩]⟩
noncomputable def zaB (v1 : zt0) (r : (Int × Int × Int)) : TM := [(0, (.yld 0)), (1, (.d (.pin (aB 61 v1)))), (5, (.d (.agg (aB 61 v1)))), (6, (xi r.1)), (7, (xb false))]
noncomputable def zNf (p0 v1 : zt0) (r : (Int × Int × Int)) : St := ⟨(zaB v1 r), ⟨[], [[(zc 1 (aB 61 p0)), (2, (.cells [(xi 0), (xi 0)])), (3, (.cells [(xi r.2.1), (xi r.2.2)])), (4, (.cells [(.d (.fn 84 [] []))])), (5, (.cells [(.d (.fn 85 [] []))]))]]⟩, [⟨(zCt p0 v1), 0, rfP (blk TE 54 0), rfA (blk TE 54 0), rfB (blk TE 54 0), 54, .rdy⟩]⟩
noncomputable def zCn (p0 v1 : zt0) : (Int × Int × Int) → Ex × St := fun r => ((.exit 0), zNf p0 v1 r)
theorem zXm (k : Nat) (p0 v1 : zt0) (s1_2 s1_6 s1_7 : Int) (x : (Int × Int × Int) ⊕ (Int × Int × Int)) (h : zGd k p0 v1 s1_2 s1_6 s1_7 = some x) : zO TE 96 (blk TE 96 0) (fun s : (Int × Int × Int) => znn p0 v1 s.1 s.2.1 s.2.2) (zCn p0 v1) (s1_2, s1_6, s1_7) x := by
 unfold zGd at h
 refine zm h (fun h301 g1 => ?_) (fun h301 g1 => ?_)
 ·refine zR g1 (fun h302 g2 => ?_)
  refine zj g2 (fun v303 h304 g3 => ?_)
  exact zqn ((w64 (s1_2 + 1)), v303.1, v303.2) [] [(96, 1, 0, .q (xb true)), (96, 2, 1, .q (xb (v1 s1_2.toNat)))] [(96, 1000003, (.nor, zwe p0 v1 s1_2 s1_6 s1_7 v303))] g3 (ob (o_b h301) (ob (zMr 61 v1 s1_2 h302) (ob (zVm k p0 v1 s1_2 s1_6 s1_7 _ h304) ob0))) (by kernel_rfl)
 ·exact zqo [(96, 1, 0, .q (xb false))] [] g1 (ob (o_b h301) ob0) (by kernel_rfl)
theorem zUd (k : Nat) (p0 : zt0) (r : zr) (h : z3b k p0 = some r) : zL TE (ev TE) 54 [(.agg (aB 61 p0))] = some (zXj r) := by
 unfold z3b at h
 refine zj h (fun v1 h2 g1 => ?_)
 refine zj g1 (fun v3 h4 g2 => ?_)
 exact zI (g := zXj) g2 (zqc [(54, 3, 1, .c (.fn 96 [] [(.pin (aB 61 v1))]))] [(96, 0, (.nor, zNf p0 v1 v3))] (ob (z9d k p0 _ h2) (ob (zF (id := 0) (r' := (.nor, zNf p0 v1 v3)) (zxz (zXm k p0 v1) k _ _ h4) rfl) ob0)) (by kernel_rfl))
theorem ztc (k : Nat) (p0 : za) (p1 p2 : Int) (r : zt14) (h : zNh k p0 p1 p2 = some r) : zL TE (ev TE) 16 [(.agg (zb p0)), (di p1), (di p2)] = some (zun r) := by
 unfold zNh at h
 refine zj h (fun v1 h2 g1 => ?_)
 refine zj g1 (fun v3 h4 g2 => ?_)
 refine zm g2 (fun h5 g3 => ?_) (fun h5 g3 => ?_)
 ·exact zI (g := zun) g3 (zqc [(16, 1, 4, .c (db v1)), (16, 1, 5, .c (di v3)), (16, 2, 1, .q (xb true))] [] (ob (zOd k p0 p1 p2 _ h2) (ob (zAb k p0 v1 _ h4) (ob (o_b h5) ob0))) (by kernel_rfl))
 ·refine zj g3 (fun v6 h7 g4 => ?_)
  refine zR g4 (fun h8 g5 => ?_)
  refine zj g5 (fun v9 h10 g6 => ?_)
  exact zI (g := zun) g6 (zqc [(16, 1, 4, .c (db v1)), (16, 1, 5, .c (di v3)), (16, 2, 1, .q (xb false)), (16, 4, 3, .c (.agg (aB 732 v6))), (16, 4, 5, .q (.d (.agg (aB 61 (fun k => v6 (p2.toNat * 61 + k)))))), (16, 4, 6, .c (.agg [(di v9.Low), (di v9.High)]))] [] (ob (zOd k p0 p1 p2 _ h2) (ob (zAb k p0 v1 _ h4) (ob (o_b h5) (ob (zxb k (⟨p0, p1, 0⟩ : zd) _ h7) (ob (zHr 12 61 v6 p2 h8) (ob (zUd k (fun k => v6 (p2.toNat * 61 + k)) _ h10) ob0)))))) (by kernel_rfl))
theorem zwb (k : Nat) (p0 : za) (p1 p2 p3 : Int) (r : zt1) (h : z8g k p0 p1 p2 p3 = some r) : zL TE (ev TE) 20 [(.agg (zb p0)), (di p1), (di p2), (di p3)] = some (zvk r) := by
 unfold z8g at h
 refine zj h (fun v1 h2 g1 => ?_)
 refine zj g1 (fun v3 h4 g2 => ?_)
 refine zm g2 (fun h5 g3 => ?_) (fun h5 g3 => ?_)
 ·exact zI (g := zvk) g3 (zqc [(20, 1, 4, .c (db v1)), (20, 1, 5, .c (di v3)), (20, 2, 1, .q (xb true))] [] (ob (zOd k p0 p1 p2 _ h2) (ob (zAb k p0 v1 _ h4) (ob (o_b h5) ob0))) (by kernel_rfl))
 ·refine zj g3 (fun v6 h7 g4 => ?_)
  refine zm g4 (fun h8 g5 => ?_) (fun h8 g5 => ?_)
  ·refine zj g5 (fun v9 h10 g6 => ?_)
   refine zR g6 (fun h11 g7 => ?_)
   refine zR g7 (fun h12 g8 => ?_)
   exact zI (g := zvk) g8 (zqc [(20, 1, 4, .c (db v1)), (20, 1, 5, .c (di v3)), (20, 2, 1, .q (xb false)), (20, 4, 1, .c (db v6)), (20, 4, 2, .q (xb true)), (20, 4, 6, .c (.agg (aB 732 v9))), (20, 4, 8, .q (.d (.agg (aB 61 (fun k => v9 (p2.toNat * 61 + k)))))), (20, 4, 10, .q (xb ((fun k => v9 (p2.toNat * 61 + k)) p3.toNat)))] [] (ob (zOd k p0 p1 p2 _ h2) (ob (zAb k p0 v1 _ h4) (ob (o_b h5) (ob (zE k p3 0 60 _ h7) (ob (o_b h8) (ob (zxb k (⟨p0, p1, 0⟩ : zd) _ h10) (ob (zHr 12 61 v9 p2 h11) (ob (zMr 61 (fun k => v9 (p2.toNat * 61 + k)) p3 h12) ob0)))))))) (by kernel_rfl))
  ·exact zI (g := zvk) g5 (zqc [(20, 1, 4, .c (db v1)), (20, 1, 5, .c (di v3)), (20, 2, 1, .q (xb false)), (20, 4, 1, .c (db v6)), (20, 4, 2, .q (xb false))] [] (ob (zOd k p0 p1 p2 _ h2) (ob (zAb k p0 v1 _ h4) (ob (o_b h5) (ob (zE k p3 0 60 _ h7) (ob (o_b h8) ob0))))) (by kernel_rfl))
noncomputable def z8A (p0 : za) (p1 p2 v3 s1_11 s1_12 : Int) : TM := [(0, (.d (.agg (zb p0)))), (1, (xi p1)), (2, (xi p2)), (zsp 3), (6, (xi 0)), (7, (xi 0)), (8, (xi v3)), (19, (xb false)), (9, (xi s1_11)), (zsp 10), (11, (xi s1_12))]
noncomputable def zsr (p0 : za) (p1 p2 v3 : Int) (v6 : zt0) (s1_11 s1_12 : Int) : St := ⟨(z8A p0 p1 p2 v3 s1_11 s1_12), ⟨[(zc 3 (zb p0)), (zc 10 (aB 732 v6))], []⟩, []⟩
noncomputable def z0z (p0 : za) (p1 p2 v3 : Int) (r : (Int × Int)) : TM := [(0, (.d (.agg (zb p0)))), (1, (xi p1)), (2, (xi p2)), (zsp 3), (6, (xi 0)), (7, (xi 0)), (8, (xi v3)), (19, (xb false)), (9, (xi r.1)), (zsp 10), (11, (xi r.2)), (29, (xb false))]
noncomputable def zPi (p0 : za) (p1 p2 v3 : Int) (v6 : zt0) (r : (Int × Int)) : St := ⟨(z0z p0 p1 p2 v3 r), ⟨[(zc 3 (zb p0)), (zc 10 (aB 732 v6))], []⟩, []⟩
noncomputable def zyr (p0 : za) (p1 p2 v3 : Int) (v6 : zt0) : (Int × Int) → Ex × St := fun r => ((.exit 0), zPi p0 p1 p2 v3 v6 r)
theorem zor (k : Nat) (p0 : za) (p1 p2 v3 : Int) (v6 : zt0) (s1_11 s1_12 : Int) (x : (Int × Int) ⊕ (Int × Int)) (h : zjl k p0 p1 p2 v3 v6 s1_11 s1_12 = some x) : zO TE 22 (blk TE 22 0) (fun s : (Int × Int) => zsr p0 p1 p2 v3 v6 s.1 s.2) (zyr p0 p1 p2 v3 v6) (s1_11, s1_12) x := by
 unfold zjl at h
 refine zm h (fun h201 g1 => ?_) (fun h201 g1 => ?_)
 ·refine zR g1 (fun h202 g2 => ?_)
  refine zj g2 (fun v203 h204 g3 => ?_)
  refine zj g3 (fun v205 h206 g4 => ?_)
  exact zqn ((w64 (0 - v205)), (w64 (s1_12 + 1))) [] [(22, 7, 3, .q (xb true)), (22, 9, 3, .q (.ptr 0 10 ((s1_12.toNat * 61)))), (22, 9, 4, .q (.d (.agg (aB 61 (fun k => v6 ((s1_12.toNat * 61) + k)))))), (22, 9, 5, .c (.agg [(di v203.Low), (di v203.High)])), (22, 9, 9, .c (di v205))] [] g4 (ob (o_b h201) (ob (zrd (m := 12) 0 10 0 61 (s1_12.toNat * 61) h202 (by omega)) (ob (zFz 732 61 v6 (s1_12.toNat * 61) (by have := h202; simp only [Bool.and_eq_true, decide_eq_true_eq] at this; omega)) (ob (zUd k (fun k => v6 ((s1_12.toNat * 61) + k)) _ h204) (ob (zSg k (w64 (0 - s1_11)) ([(w64 (0 - v203.Low))], .ex) _ h206) ob0))))) (by kernel_rfl)
 ·exact zqo [(22, 7, 3, .q (xb false))] [] g1 (ob (o_b h201) ob0) (by kernel_rfl)
theorem zXc (k : Nat) (p0 : za) (p1 p2 : Int) (r : (Int × Int)) (h : z2o k p0 p1 p2 = some r) : zL TE (ev TE) 22 [(.agg (zb p0)), (di p1), (di p2)] = some (zqm r) := by
 unfold z2o at h
 refine zj h (fun v1 h2 g1 => ?_)
 refine zj g1 (fun v3 h4 g2 => ?_)
 refine zm g2 (fun h5 g3 => ?_) (fun h5 g3 => ?_)
 ·exact zI (g := zqm) g3 (zqc [(22, 1, 4, .c (db v1)), (22, 1, 5, .c (di v3)), (22, 2, 1, .q (xb true))] [] (ob (zOd k p0 p1 p2 _ h2) (ob (zAb k p0 v1 _ h4) (ob (o_b h5) ob0))) (by kernel_rfl))
 ·refine zj g3 (fun v6 h7 g4 => ?_)
  refine zj g4 (fun v8 h9 g5 => ?_)
  exact zI (g := zqm) g5 (zqc [(22, 1, 4, .c (db v1)), (22, 1, 5, .c (di v3)), (22, 2, 1, .q (xb false)), (22, 5, 3, .c (.agg (aB 732 v6)))] [(22, 0, (.nor, zPi p0 p1 p2 v3 v6 v8))] (ob (zOd k p0 p1 p2 _ h2) (ob (zAb k p0 v1 _ h4) (ob (o_b h5) (ob (zxb k (⟨p0, p1, 0⟩ : zd) _ h7) (ob (zF (id := 0) (r' := (.nor, zPi p0 p1 p2 v3 v6 v8)) (zbc (zor k p0 p1 p2 v3 v6) k _ _ h9) rfl) ob0))))) (by kernel_rfl))
noncomputable def zrA (p0 : za) (p1 v3 : Int) (s1_16 : zt5) (s1_10 : Int) : TM := [(0, (.d (.agg (zb p0)))), (1, (xi p1)), (zsp 2), (4, (.d (.sl [] .nil))), (5, (xi 0)), (6, (xi v3)), (20, (xb false)), (7, (.row 0 7 s1_16.length)), (zsp 8), (9, (xi s1_10))]
noncomputable def zDs (p0 : za) (p1 v3 : Int) (v6 : zu) (s1_10 : Int) (s1_16 : zt5) : St := ⟨(zrA p0 p1 v3 s1_16 s1_10), ⟨[(zc 2 (zb p0)), (7, (rowO true 1 eI s1_16 true)), (zc 8 (zh v6))], []⟩, []⟩
noncomputable def znB (p0 : za) (p1 v3 : Int) (r : (Int × (List Int))) : TM := [(0, (.d (.agg (zb p0)))), (1, (xi p1)), (zsp 2), (4, (.d (.sl [] .nil))), (5, (xi 0)), (6, (xi v3)), (20, (xb false)), (7, (.row 0 7 r.2.length)), (zsp 8), (9, (xi r.1)), (34, (xb false))]
noncomputable def zfj (p0 : za) (p1 v3 : Int) (v6 : zu) (r : (Int × (List Int))) : St := ⟨(znB p0 p1 v3 r), ⟨[(zc 2 (zb p0)), (7, (rowO true 1 eI r.2 true)), (zc 8 (zh v6))], []⟩, []⟩
noncomputable def zCs (p0 : za) (p1 v3 : Int) (v6 : zu) : (Int × (List Int)) → Ex × St := fun r => ((.exit 0), zfj p0 p1 v3 v6 r)
theorem z4r (k : Nat) (p0 : za) (p1 v3 : Int) (v6 : zu) (s1_10 : Int) (s1_16 : zt5) (x : (Int × (List Int)) ⊕ (Int × (List Int))) (h : z2h k p0 p1 v3 v6 s1_10 s1_16 = some x) : zO TE 25 (blk TE 25 0) (fun s : (Int × (List Int)) => zDs p0 p1 v3 v6 s.1 s.2) (zCs p0 p1 v3 v6) (s1_10, s1_16) x := by
 unfold z2h at h
 refine zm h (fun h301 g1 => ?_) (fun h301 g1 => ?_)
 ·refine zm g1 (fun h302 g2 => ?_) (fun h302 g2 => ?_)
  ·cases g2
  ·refine zR g2 (fun h303 g3 => ?_)
   refine zj g3 (fun v304 h305 g4 => ?_)
   refine zj g4 (fun v306 h307 g5 => ?_)
   refine zm g5 (fun h308 g6 => ?_) (fun h308 g6 => ?_)
   ·subst h308
    refine zR g6 (fun h309 g7 => ?_)
    exact zqn ((w64 (s1_10 + 1)), (s1_16 ++ [s1_10])) [7] [(25, 7, 4, .q (xb true)), (66, 1, 1, .q (xb false)), (66, 3, 2, .ns (p0.Deliveries.1.map zh) p0.Deliveries.1.length), (25, 11, 6, .q (.rp 0 40 p0.Deliveries.1.length p1.toNat 0)), (25, 11, 7, .q (.rp 0 40 p0.Deliveries.1.length p1.toNat 1)), (25, 11, 8, .rs (rowO false 5 zh (p0.Deliveries.1.set p1.toNat (⟨v304.Shelf, (⟨s1_10, s1_10⟩ : zr), v304.By⟩ : zu)) true)), (25, 11, 999, .nm [] [(10, 3, (p0.Deliveries.1.set p1.toNat (⟨v304.Shelf, (⟨s1_10, s1_10⟩ : zr), v304.By⟩ : zu)).length)]), (25, 12, 4, .cr [((dl zh (p0.Deliveries.1.set p1.toNat (⟨v304.Shelf, (⟨s1_10, s1_10⟩ : zr), v304.By⟩ : zu)) (rcap false (p0.Deliveries.1.set p1.toNat (⟨v304.Shelf, (⟨s1_10, s1_10⟩ : zr), v304.By⟩ : zu)))), (rowO false 5 zh (p0.Deliveries.1.set p1.toNat (⟨v304.Shelf, (⟨s1_10, s1_10⟩ : zr), v304.By⟩ : zu)) false))] (db true)), (25, 13, 3, .ap (s1_16 ++ [s1_10]).length (rowO true 1 eI (s1_16 ++ [s1_10]) true))] [] g7 (ob (o_b h301) (ob (o_b h302) (ob (zEt p0.Deliveries.1 zh) (ob (o_ns (P := TE.P) (φ := fun _ _ => none) (T := 24) (q := (5, [(di 0), (di 0), (di 0), (di 0), (di 0)])) (c := p0.Deliveries.2) (e := zh) p0.Deliveries.1 (by kernel_rfl) (fun _ => rfl) h303) (ob (rfl : (([] : List (List D)).isEmpty || !(p0.Deliveries.1.map zh).isEmpty) = true) (ob (o_rh false 5 zh p0.Deliveries.1) (ob (zqa 24 40 0 40 p1 false 5 zh p0.Deliveries.1 true (by kernel_rfl) (by kernel_rfl) h305) (ob (zqf 75 (1, 2, true) 0 40 0 1 p1 false 5 zh p0.Deliveries.1 true (by kernel_rfl) (by decide) h305) (ob (o_rs (b := false) (z := 5) (e := zh) (l := p0.Deliveries.1) (o := 1) (n := 2) (ds := [(di s1_10), (di s1_10)]) (i := p1) (y' := (⟨v304.Shelf, (⟨s1_10, s1_10⟩ : zr), v304.By⟩ : zu)) h305 (Nat.le_of_ble_eq_true rfl) rfl) (ob (show p0.Deliveries.1.length = (p0.Deliveries.1.set p1.toNat (⟨v304.Shelf, (⟨s1_10, s1_10⟩ : zr), v304.By⟩ : zu)).length by simp) (ob (o_cr false 5 zh (p0.Deliveries.1.set p1.toNat (⟨v304.Shelf, (⟨s1_10, s1_10⟩ : zr), v304.By⟩ : zu)) true 0 40) (ob (z1e k (⟨(⟨p0.Days, p0.Shelves, p0.Moves, ((p0.Deliveries.1.set p1.toNat (⟨v304.Shelf, (⟨s1_10, s1_10⟩ : zr), v304.By⟩ : zu)), (rcap false (p0.Deliveries.1.set p1.toNat (⟨v304.Shelf, (⟨s1_10, s1_10⟩ : zr), v304.By⟩ : zu)))), p0.Counts⟩ : za), v6.Shelf, 0⟩ : zd) _ h307) (ob (o_ap (b := true) (z := 1) (e := eI) (l := s1_16) (w := true) s1_10 (fun _ => rfl) h309) (ob (zKb true 1 eI (s1_16 ++ [s1_10]) true) ob0)))))))))))))) (by kernel_rfl)
   ·subst h308
    exact zqn ((w64 (s1_10 + 1)), s1_16) [7] [(25, 7, 4, .q (xb true)), (66, 1, 1, .q (xb false)), (66, 3, 2, .ns (p0.Deliveries.1.map zh) p0.Deliveries.1.length), (25, 11, 6, .q (.rp 0 40 p0.Deliveries.1.length p1.toNat 0)), (25, 11, 7, .q (.rp 0 40 p0.Deliveries.1.length p1.toNat 1)), (25, 11, 8, .rs (rowO false 5 zh (p0.Deliveries.1.set p1.toNat (⟨v304.Shelf, (⟨s1_10, s1_10⟩ : zr), v304.By⟩ : zu)) true)), (25, 11, 999, .nm [] [(10, 3, (p0.Deliveries.1.set p1.toNat (⟨v304.Shelf, (⟨s1_10, s1_10⟩ : zr), v304.By⟩ : zu)).length)]), (25, 12, 4, .cr [((dl zh (p0.Deliveries.1.set p1.toNat (⟨v304.Shelf, (⟨s1_10, s1_10⟩ : zr), v304.By⟩ : zu)) (rcap false (p0.Deliveries.1.set p1.toNat (⟨v304.Shelf, (⟨s1_10, s1_10⟩ : zr), v304.By⟩ : zu)))), (rowO false 5 zh (p0.Deliveries.1.set p1.toNat (⟨v304.Shelf, (⟨s1_10, s1_10⟩ : zr), v304.By⟩ : zu)) false))] (db false))] [] g6 (ob (o_b h301) (ob (o_b h302) (ob (zEt p0.Deliveries.1 zh) (ob (o_ns (P := TE.P) (φ := fun _ _ => none) (T := 24) (q := (5, [(di 0), (di 0), (di 0), (di 0), (di 0)])) (c := p0.Deliveries.2) (e := zh) p0.Deliveries.1 (by kernel_rfl) (fun _ => rfl) h303) (ob (rfl : (([] : List (List D)).isEmpty || !(p0.Deliveries.1.map zh).isEmpty) = true) (ob (o_rh false 5 zh p0.Deliveries.1) (ob (zqa 24 40 0 40 p1 false 5 zh p0.Deliveries.1 true (by kernel_rfl) (by kernel_rfl) h305) (ob (zqf 75 (1, 2, true) 0 40 0 1 p1 false 5 zh p0.Deliveries.1 true (by kernel_rfl) (by decide) h305) (ob (o_rs (b := false) (z := 5) (e := zh) (l := p0.Deliveries.1) (o := 1) (n := 2) (ds := [(di s1_10), (di s1_10)]) (i := p1) (y' := (⟨v304.Shelf, (⟨s1_10, s1_10⟩ : zr), v304.By⟩ : zu)) h305 (Nat.le_of_ble_eq_true rfl) rfl) (ob (show p0.Deliveries.1.length = (p0.Deliveries.1.set p1.toNat (⟨v304.Shelf, (⟨s1_10, s1_10⟩ : zr), v304.By⟩ : zu)).length by simp) (ob (o_cr false 5 zh (p0.Deliveries.1.set p1.toNat (⟨v304.Shelf, (⟨s1_10, s1_10⟩ : zr), v304.By⟩ : zu)) true 0 40) (ob (z1e k (⟨(⟨p0.Days, p0.Shelves, p0.Moves, ((p0.Deliveries.1.set p1.toNat (⟨v304.Shelf, (⟨s1_10, s1_10⟩ : zr), v304.By⟩ : zu)), (rcap false (p0.Deliveries.1.set p1.toNat (⟨v304.Shelf, (⟨s1_10, s1_10⟩ : zr), v304.By⟩ : zu)))), p0.Counts⟩ : za), v6.Shelf, 0⟩ : zd) _ h307) (ob (zKb true 1 eI s1_16 true) ob0))))))))))))) (by kernel_rfl)
 ·exact zqo [(25, 7, 4, .q (xb false))] [] g1 (ob (o_b h301) ob0) (by kernel_rfl)
theorem zvc (k : Nat) (p0 : za) (p1 : Int) (r : zt7) (h : z3i k p0 p1 = some r) : zL TE (ev TE) 25 [(.agg (zb p0)), (di p1)] = some (zJn r) := by
 unfold z3i at h
 refine zj h (fun v1 h2 g1 => ?_)
 refine zj g1 (fun v3 h4 g2 => ?_)
 refine zm g2 (fun h5 g3 => ?_) (fun h5 g3 => ?_)
 ·exact zI (g := zJn) g3 (zqc [(25, 1, 4, .q (xi (p0.Deliveries.1.length : Int))), (25, 1, 6, .c (db v1)), (25, 1, 7, .c (di v3)), (25, 2, 1, .q (xb true))] [] (ob (zw zh p0.Deliveries.1) (ob (zE k p1 0 (w64 ((p0.Deliveries.1.length : Int) - 1)) _ h2) (ob (zAb k p0 v1 _ h4) (ob (o_b h5) ob0)))) (by kernel_rfl))
 ·refine zj g3 (fun v6 h7 g4 => ?_)
  refine zj g4 (fun v8 h9 g5 => ?_)
  exact zI (g := zJn) g5 (zqc [(25, 1, 4, .q (xi (p0.Deliveries.1.length : Int))), (25, 1, 6, .c (db v1)), (25, 1, 7, .c (di v3)), (25, 2, 1, .q (xb false)), (25, 5, 3, .q (.d (.pin (zh v6)))), (25, 14, 2, .q (xi (v8.2.length : Int))), (25, 14, 4, .q (xi (v8.2.length : Int))), (25, 14, 5, .sr (.d (dl eI v8.2 (xcap true v8.2))) (rowO true 1 eI v8.2 false))] [(25, 0, (.nor, zfj p0 p1 v3 v6 v8))] (ob (zw zh p0.Deliveries.1) (ob (zE k p1 0 (w64 ((p0.Deliveries.1.length : Int) - 1)) _ h2) (ob (zAb k p0 v1 _ h4) (ob (o_b h5) (ob (o_ia (e := zh) 5 h7 rfl) (ob (zF (id := 0) (r' := (.nor, zfj p0 p1 v3 v6 v8)) (zbc (z4r k p0 p1 v3 v6) k _ _ h9) rfl) (ob (zXk true 1 eI v8.2 true) (ob (zXk true 1 eI v8.2 true) (ob (o_sr (P := TE.P) (T := 42) (U := 3) (by' := 8) (ρ := fun _ => xi (v8.2.length : Int)) (lv := 0) (s := 7) (lo := none) (hi := some (.tmp 0)) (mx := some (.tmp 0)) true 1 eI v8.2 true (by kernel_rfl) (by kernel_rfl) rfl rfl rfl) ob0))))))))) (by kernel_rfl))
noncomputable def zfB (p0 p1 : (SL Int)) (s1_3 : Bool) (s1_4 : Int) (r : Bool) : TM := [(0, (.d (dl eI p0.1 p0.2))), (1, (.d (dl eI p1.1 p1.2))), (4, (xb false)), (5, (xb s1_3)), (6, (xi s1_4)), (18, (xb r))]
noncomputable def zVc (p0 p1 : (SL Int)) (s1_3 : Bool) (s1_4 : Int) (r : Bool) : St := ⟨(zfB p0 p1 s1_3 s1_4 r), ⟨[], []⟩, []⟩
noncomputable def zIy (p0 p1 : (SL Int)) (s1_3 : Bool) (s1_4 : Int) : TM := [(0, (.d (dl eI p0.1 p0.2))), (1, (.d (dl eI p1.1 p1.2))), (4, (xb false)), (5, (xb s1_3)), (6, (xi s1_4))]
theorem zFh (k : Nat) (p0 p1 : (SL Int)) (s1_3 : Bool) (s1_4 : Int) (r : Bool) (h : zmg k p0 p1 s1_3 s1_4 = some r) : ev TE 27 (rgn TE 27 3) ⟨(zIy p0 p1 s1_3 s1_4), ⟨[], []⟩, []⟩ = some (.nor, zVc p0 p1 s1_3 s1_4 r) := by
 unfold zmg at h
 refine zm h (fun h401 g1 => ?_) (fun h401 g1 => ?_)
 ·exact zy (g := fun r => (Ex.nor, zVc p0 p1 s1_3 s1_4 r)) g1 (zqe [(27, 3, 1, .q (xb true)), (27, 3, 4, .q (xi (p0.1.length : Int)))] [] (ob (o_b h401) (ob (zw eI p0.1) ob0)) (by kernel_rfl))
 ·exact zy (g := fun r => (Ex.nor, zVc p0 p1 s1_3 s1_4 r)) g1 (zqe [(27, 3, 1, .q (xb false))] [] (ob (o_b h401) ob0) (by kernel_rfl))
noncomputable def zCm (p0 p1 : (SL Int)) (s1_3 : Bool) (s1_4 : Int) : St := ⟨(zIy p0 p1 s1_3 s1_4), ⟨[], []⟩, []⟩
noncomputable def z8z (p0 p1 : (SL Int)) (r : zt1) : TM := [(0, (.d (dl eI p0.1 p0.2))), (1, (.d (dl eI p1.1 p1.2))), (4, (xb false)), (5, (xb r.1)), (6, (xi r.2)), (18, (xb false))]
noncomputable def z5e (p0 p1 : (SL Int)) (r : zt1) : St := ⟨(z8z p0 p1 r), ⟨[], []⟩, []⟩
noncomputable def zem (p0 p1 : (SL Int)) : (Bool × Int) → Ex × St := fun r => ((.exit 0), z5e p0 p1 r)
theorem zSl (k : Nat) (p0 p1 : (SL Int)) (s1_3 : Bool) (s1_4 : Int) (x : (Bool × Int) ⊕ (Bool × Int)) (h : zig k p0 p1 s1_3 s1_4 = some x) : zO TE 27 (blk TE 27 0) (fun s : (Bool × Int) => zCm p0 p1 s.1 s.2) (zem p0 p1) (s1_3, s1_4) x := by
 unfold zig at h
 refine zj h (fun v301 h302 g1 => ?_)
 refine zm g1 (fun h303 g2 => ?_) (fun h303 g2 => ?_)
 ·subst h303
  refine zj g2 (fun v304 h305 g3 => ?_)
  refine zj g3 (fun v306 h307 g4 => ?_)
  exact zqn ((v304 == v306), (w64 (s1_4 + 1))) [] [(27, 5, 2, .q (.d (.pin [(di v304)]))), (27, 5, 6, .q (.d (.pin [(di v306)])))] [(27, 1000003, (.nor, zVc p0 p1 s1_3 s1_4 true))] g4 (ob (zFh k p0 p1 s1_3 s1_4 _ h302) (ob (o_ia (e := eI) 1 h305 rfl) (ob (o_ia (e := eI) 1 h307 rfl) ob0))) (by kernel_rfl)
 ·subst h303
  exact zqo [] [(27, 1000003, (.nor, zVc p0 p1 s1_3 s1_4 false))] g2 (ob (zFh k p0 p1 s1_3 s1_4 _ h302) ob0) (by kernel_rfl)
theorem zye (k : Nat) (p0 p1 : (SL Int)) (r : Bool) (h : zke k p0 p1 = some r) : zL TE (ev TE) 27 [(dl eI p0.1 p0.2), (dl eI p1.1 p1.2)] = some (zXi r) := by
 unfold zke at h
 refine zj h (fun v1 h2 g1 => ?_)
 exact zI (g := zXi) g1 (zqc [(27, 1, 1, .q (xi (p0.1.length : Int))), (27, 1, 3, .q (xi (p1.1.length : Int)))] [(27, 0, (.nor, z5e p0 p1 v1))] (ob (zw eI p0.1) (ob (zw eI p1.1) (ob (zF (id := 0) (r' := (.nor, z5e p0 p1 v1)) (zbc (zSl k p0 p1) k _ _ h2) rfl) ob0))) (by kernel_rfl))
noncomputable def zkA (p0 : za) (p1 v3 s1_9 : Int) : TM := [(0, (.d (.agg (zb p0)))), (1, (xi p1)), (zsp 2), (zsp 4), (5, (xi 0)), (6, (xi v3)), (20, (xb false)), (zsp 7), (zsp 8), (9, (xi s1_9))]
noncomputable def zir (p0 : za) (p1 v3 : Int) (v6 : zx) (s1_9 : Int) (s1_17 : zt0) : St := ⟨(zkA p0 p1 v3 s1_9), ⟨[(zc 2 (zb p0)), (4, (.cells [(xi 0), (xi 0)])), (zc 7 (aB 61 s1_17)), (zc 8 (zl v6))], []⟩, []⟩
noncomputable def zMA (p0 : za) (p1 v3 : Int) (r : zt15) : TM := [(0, (.d (.agg (zb p0)))), (1, (xi p1)), (zsp 2), (zsp 4), (5, (xi 0)), (6, (xi v3)), (20, (xb false)), (zsp 7), (zsp 8), (9, (xi r.1)), (35, (xb false))]
noncomputable def zpi (p0 : za) (p1 v3 : Int) (v6 : zx) (r : zt15) : St := ⟨(zMA p0 p1 v3 r), ⟨[(zc 2 (zb p0)), (4, (.cells [(xi 0), (xi 0)])), (zc 7 (aB 61 r.2)), (zc 8 (zl v6))], []⟩, []⟩
noncomputable def zNq (p0 : za) (p1 v3 : Int) (v6 : zx) : (Int × (Nat → Bool)) → Ex × St := fun r => ((.exit 0), zpi p0 p1 v3 v6 r)
theorem zbq (k : Nat) (p0 : za) (p1 v3 : Int) (v6 : zx) (s1_9 : Int) (s1_17 : zt0) (x : (Int × (Nat → Bool)) ⊕ (Int × (Nat → Bool))) (h : z2g k p0 p1 v3 v6 s1_9 s1_17 = some x) : zO TE 28 (blk TE 28 0) (fun s : (Int × (Nat → Bool)) => zir p0 p1 v3 v6 s.1 s.2) (zNq p0 p1 v3 v6) (s1_9, s1_17) x := by
 unfold z2g at h
 refine zm h (fun h201 g1 => ?_) (fun h201 g1 => ?_)
 ·refine zm g1 (fun h202 g2 => ?_) (fun h202 g2 => ?_)
  ·cases g2
  ·refine zR g2 (fun h203 g3 => ?_)
   refine zj g3 (fun v204 h205 g4 => ?_)
   refine zj g4 (fun v206 h207 g5 => ?_)
   refine zR g5 (fun h208 g6 => ?_)
   exact zqn ((w64 (s1_9 + 1)), (upd s1_17 s1_9.toNat v206)) [] [(28, 7, 4, .q (xb true)), (68, 1, 1, .q (xb false)), (68, 3, 2, .ns (p0.Moves.1.map zl) p0.Moves.1.length), (28, 11, 6, .q (.rp 0 41 p0.Moves.1.length p1.toNat 0)), (28, 11, 7, .q (.rp 0 41 p0.Moves.1.length p1.toNat 3)), (28, 11, 8, .rs (rowO false 5 zl (p0.Moves.1.set p1.toNat (⟨v204.Day, v204.Shelf, v204.Back, (⟨s1_9, s1_9⟩ : zr)⟩ : zx)) true)), (28, 11, 999, .nm [] [(10, 2, (p0.Moves.1.set p1.toNat (⟨v204.Day, v204.Shelf, v204.Back, (⟨s1_9, s1_9⟩ : zr)⟩ : zx)).length)]), (28, 12, 5, .cr [((dl zl (p0.Moves.1.set p1.toNat (⟨v204.Day, v204.Shelf, v204.Back, (⟨s1_9, s1_9⟩ : zr)⟩ : zx)) (rcap false (p0.Moves.1.set p1.toNat (⟨v204.Day, v204.Shelf, v204.Back, (⟨s1_9, s1_9⟩ : zr)⟩ : zx)))), (rowO false 5 zl (p0.Moves.1.set p1.toNat (⟨v204.Day, v204.Shelf, v204.Back, (⟨s1_9, s1_9⟩ : zr)⟩ : zx)) false))] (db v206)), (28, 12, 6, .q (.ptr 0 7 (s1_9.toNat))), (28, 12, 7, .st ((aB 61 (upd s1_17 s1_9.toNat v206)).map .d))] [] g6 (ob (o_b h201) (ob (o_b h202) (ob (zEt p0.Moves.1 zl) (ob (o_ns (P := TE.P) (φ := fun _ _ => none) (T := 23) (q := (5, [(di 0), (di 0), (db false), (di 0), (di 0)])) (c := p0.Moves.2) (e := zl) p0.Moves.1 (by kernel_rfl) (fun _ => rfl) h203) (ob (rfl : (([] : List (List D)).isEmpty || !(p0.Moves.1.map zl).isEmpty) = true) (ob (o_rh false 5 zl p0.Moves.1) (ob (zqa 23 40 0 41 p1 false 5 zl p0.Moves.1 true (by kernel_rfl) (by kernel_rfl) h205) (ob (zqf 73 (3, 2, true) 0 41 0 3 p1 false 5 zl p0.Moves.1 true (by kernel_rfl) (by decide) h205) (ob (o_rs (b := false) (z := 5) (e := zl) (l := p0.Moves.1) (o := 3) (n := 2) (ds := [(di s1_9), (di s1_9)]) (i := p1) (y' := (⟨v204.Day, v204.Shelf, v204.Back, (⟨s1_9, s1_9⟩ : zr)⟩ : zx)) h205 (Nat.le_of_ble_eq_true rfl) rfl) (ob (show p0.Moves.1.length = (p0.Moves.1.set p1.toNat (⟨v204.Day, v204.Shelf, v204.Back, (⟨s1_9, s1_9⟩ : zr)⟩ : zx)).length by simp) (ob (o_cr false 5 zl (p0.Moves.1.set p1.toNat (⟨v204.Day, v204.Shelf, v204.Back, (⟨s1_9, s1_9⟩ : zr)⟩ : zx)) true 0 41) (ob (z1e k (⟨(⟨p0.Days, p0.Shelves, ((p0.Moves.1.set p1.toNat (⟨v204.Day, v204.Shelf, v204.Back, (⟨s1_9, s1_9⟩ : zr)⟩ : zx)), (rcap false (p0.Moves.1.set p1.toNat (⟨v204.Day, v204.Shelf, v204.Back, (⟨s1_9, s1_9⟩ : zr)⟩ : zx)))), p0.Deliveries, p0.Counts⟩ : za), v6.Shelf, 0⟩ : zd) _ h207) (ob (zrd (m := 61) 0 7 0 1 s1_9.toNat h208 (by omega)) (ob (zyk 61 s1_17 s1_9.toNat v206 (by have := h208; simp only [Bool.and_eq_true, decide_eq_true_eq] at this; omega)) ob0)))))))))))))) (by kernel_rfl)
 ·exact zqo [(28, 7, 4, .q (xb false))] [] g1 (ob (o_b h201) ob0) (by kernel_rfl)
theorem z7b (k : Nat) (p0 : za) (p1 : Int) (r : zt14) (h : zrh k p0 p1 = some r) : zL TE (ev TE) 28 [(.agg (zb p0)), (di p1)] = some (zul r) := by
 unfold zrh at h
 refine zj h (fun v1 h2 g1 => ?_)
 refine zj g1 (fun v3 h4 g2 => ?_)
 refine zm g2 (fun h5 g3 => ?_) (fun h5 g3 => ?_)
 ·exact zI (g := zul) g3 (zqc [(28, 1, 4, .q (xi (p0.Moves.1.length : Int))), (28, 1, 6, .c (db v1)), (28, 1, 7, .c (di v3)), (28, 2, 1, .q (xb true))] [] (ob (zw zl p0.Moves.1) (ob (zE k p1 0 (w64 ((p0.Moves.1.length : Int) - 1)) _ h2) (ob (zAb k p0 v1 _ h4) (ob (o_b h5) ob0)))) (by kernel_rfl))
 ·refine zj g3 (fun v6 h7 g4 => ?_)
  refine zj g4 (fun v8 h9 g5 => ?_)
  refine zj g5 (fun v10 h11 g6 => ?_)
  exact zI (g := zul) g6 (zqc [(28, 1, 4, .q (xi (p0.Moves.1.length : Int))), (28, 1, 6, .c (db v1)), (28, 1, 7, .c (di v3)), (28, 2, 1, .q (xb false)), (28, 5, 3, .q (.d (.pin (zl v6)))), (28, 13, 1, .c (.agg [(di v10.Low), (di v10.High)]))] [(28, 0, (.nor, zpi p0 p1 v3 v6 v8))] (ob (zw zl p0.Moves.1) (ob (zE k p1 0 (w64 ((p0.Moves.1.length : Int) - 1)) _ h2) (ob (zAb k p0 v1 _ h4) (ob (o_b h5) (ob (o_ia (e := zl) 5 h7 rfl) (ob (zF (id := 0) (r' := (.nor, zpi p0 p1 v3 v6 v8)) (zbc (zbq k p0 p1 v3 v6) k _ _ h9) rfl) (ob (zUd k v8.2 _ h11) ob0))))))) (by kernel_rfl))
noncomputable def zFA (p0 : za) (p1 p2 p3 : Int) (v1 : zt1) (s1_28 : zt5) (s1_15 : Int) : TM := [(0, (.d (.agg (zb p0)))), (1, (xi p1)), (2, (xi p2)), (3, (xi p3)), (zsp 4), (zsp 5), (8, (.d (.sl [] .nil))), (9, (xi 0)), (10, (xb v1.1)), (11, (xi v1.2)), (26, (xb false)), (29, (xb false)), (zsp 12), (13, (.fn 71 [] [(.ptr 0 12 0), (.ptr 0 5 0)])), (14, (.row 0 14 s1_28.length)), (41, (xi p0.Days)), (42, (xi s1_15))]
noncomputable def z7r (p0 : za) (p1 p2 p3 : Int) (v1 : zt1) (s1_15 : Int) (s1_26 : zt17) (s1_27 : Bool) (s1_28 : zt5) : St := ⟨(zFA p0 p1 p2 p3 v1 s1_28 s1_15), ⟨[(zc 4 (zb p0)), (5, (.cells [(xi p1)])), (12, (.cells [(xi p0.Days), (.d (dl zk p0.Shelves.1 p0.Shelves.2)), (.d (dl zl p0.Moves.1 p0.Moves.2)), (.d (dl zh p0.Deliveries.1 p0.Deliveries.2)), (.row 0 33 s1_26.length)])), (33, (rowO true 4 zi s1_26 s1_27)), (14, (rowO true 1 eI s1_28 true))], []⟩, []⟩
noncomputable def zwy (p0 : za) (p1 p2 p3 : Int) (v1 : zt1) (r : (Int × (List zo) × Bool × (List Int))) : TM := [(0, (.d (.agg (zb p0)))), (1, (xi p1)), (2, (xi p2)), (3, (xi p3)), (zsp 4), (zsp 5), (8, (.d (.sl [] .nil))), (9, (xi 0)), (10, (xb v1.1)), (11, (xi v1.2)), (26, (xb false)), (29, (xb false)), (zsp 12), (13, (.fn 71 [] [(.ptr 0 12 0), (.ptr 0 5 0)])), (14, (.row 0 14 r.2.2.2.length)), (41, (xi p0.Days)), (42, (xi r.1)), (43, (xb false))]
noncomputable def zSi (p0 : za) (p1 p2 p3 : Int) (v1 : zt1) (r : (Int × (List zo) × Bool × (List Int))) : St := ⟨(zwy p0 p1 p2 p3 v1 r), ⟨[(zc 4 (zb p0)), (5, (.cells [(xi p1)])), (12, (.cells [(xi p0.Days), (.d (dl zk p0.Shelves.1 p0.Shelves.2)), (.d (dl zl p0.Moves.1 p0.Moves.2)), (.d (dl zh p0.Deliveries.1 p0.Deliveries.2)), (.row 0 33 r.2.1.length)])), (33, (rowO true 4 zi r.2.1 r.2.2.1)), (14, (rowO true 1 eI r.2.2.2 true))], []⟩, []⟩
noncomputable def z5r (p0 : za) (p1 p2 p3 : Int) (v1 : zt1) : (Int × (List zo) × Bool × (List Int)) → Ex × St := fun r => ((.exit 0), zSi p0 p1 p2 p3 v1 r)
theorem zRq (k : Nat) (p0 : za) (p1 p2 p3 : Int) (v1 : zt1) (s1_15 : Int) (s1_26 : zt17) (s1_27 : Bool) (s1_28 : zt5) (x : (Int × (List zo) × Bool × (List Int)) ⊕ (Int × (List zo) × Bool × (List Int))) (h : zfl k p0 p1 p2 p3 v1 s1_15 s1_26 s1_27 s1_28 = some x) : zO TE 30 (blk TE 30 0) (fun s : (Int × (List zo) × Bool × (List Int)) => z7r p0 p1 p2 p3 v1 s.1 s.2.1 s.2.2.1 s.2.2.2) (z5r p0 p1 p2 p3 v1) (s1_15, s1_26, s1_27, s1_28) x := by
 unfold zfl at h
 refine zm h (fun h201 g1 => ?_) (fun h201 g1 => ?_)
 ·refine zj g1 (fun v202 h203 g2 => ?_)
  refine zR g2 (fun h204 g3 => ?_)
  refine zj g3 (fun v205 h206 g4 => ?_)
  refine zR g4 (fun h207 g5 => ?_)
  refine zR g5 (fun h208 g6 => ?_)
  exact zqn ((w64 (s1_15 + 1)), (s1_26 ++ [(⟨s1_15, p1, v205.Low, 0⟩ : zo)]), (false || (true && s1_26.isEmpty)), (s1_28 ++ [v205.Low])) [33, 14] [(30, 12, 0, .q (xb true)), (30, 14, 3, .cr [((dl zi s1_26 (rcap true s1_26)), (rowO true 4 zi s1_26 false))] (.agg (aB 732 v202))), (30, 14, 5, .q (.d (.agg (aB 61 (fun k => v202 (s1_15.toNat * 61 + k)))))), (30, 14, 6, .c (.agg [(di v205.Low), (di v205.High)])), (71, 0, 7, .ap (s1_26 ++ [(⟨s1_15, p1, v205.Low, 0⟩ : zo)]).length (rowO true 4 zi (s1_26 ++ [(⟨s1_15, p1, v205.Low, 0⟩ : zo)]) (false || (true && s1_26.isEmpty)))), (30, 16, 3, .ap (s1_28 ++ [v205.Low]).length (rowO true 1 eI (s1_28 ++ [v205.Low]) true))] [] g6 (ob (o_b h201) (ob (o_cr true 4 zi s1_26 s1_27 0 33) (ob (zxb k (⟨(⟨p0.Days, p0.Shelves, p0.Moves, p0.Deliveries, (s1_26, (rcap true s1_26))⟩ : za), p1, 0⟩ : zd) _ h203) (ob (zHr 12 61 v202 s1_15 h204) (ob (zUd k (fun k => v202 (s1_15.toNat * 61 + k)) _ h206) (ob (o_ap (b := true) (z := 4) (e := zi) (l := s1_26) (w := false) (⟨s1_15, p1, v205.Low, 0⟩ : zo) (fun _ => rfl) h207) (ob (o_ap (b := true) (z := 1) (e := eI) (l := s1_28) (w := true) v205.Low (fun _ => rfl) h208) (ob (zKb true 4 zi (s1_26 ++ [(⟨s1_15, p1, v205.Low, 0⟩ : zo)]) (false || (true && s1_26.isEmpty))) (ob (zKb true 1 eI (s1_28 ++ [v205.Low]) true) ob0))))))))) (by kernel_rfl)
 ·exact zqo [(30, 12, 0, .q (xb false))] [] g1 (ob (o_b h201) ob0) (by kernel_rfl)
noncomputable def zvA (p0 : za) (p1 p2 p3 : Int) (v1 : zt1) (s2_28 : zt5) (s2_15 : Int) : TM := [(0, (.d (.agg (zb p0)))), (1, (xi p1)), (2, (xi p2)), (3, (xi p3)), (zsp 4), (zsp 5), (8, (.d (.sl [] .nil))), (9, (xi 0)), (10, (xb v1.1)), (11, (xi v1.2)), (26, (xb false)), (29, (xb false)), (zsp 12), (13, (.fn 71 [] [(.ptr 0 12 0), (.ptr 0 5 0)])), (14, (.row 0 14 s2_28.length)), (41, (xi p0.Days)), (42, (xi s2_15))]
noncomputable def z0r (p0 : za) (p1 p2 p3 : Int) (v1 : zt1) (s2_15 : Int) (s2_26 : zt17) (s2_27 : Bool) (s2_28 : zt5) : St := ⟨(zvA p0 p1 p2 p3 v1 s2_28 s2_15), ⟨[(zc 4 (zb p0)), (5, (.cells [(xi p1)])), (12, (.cells [(xi p0.Days), (.d (dl zk p0.Shelves.1 p0.Shelves.2)), (.d (dl zl p0.Moves.1 p0.Moves.2)), (.d (dl zh p0.Deliveries.1 p0.Deliveries.2)), (.row 0 33 s2_26.length)])), (33, (rowO false 4 zi s2_26 s2_27)), (14, (rowO true 1 eI s2_28 true))], []⟩, []⟩
noncomputable def zNi (p0 : za) (p1 p2 p3 : Int) (v1 : zt1) (r : (Int × (List zo) × Bool × (List Int))) : St := ⟨(zwy p0 p1 p2 p3 v1 r), ⟨[(zc 4 (zb p0)), (5, (.cells [(xi p1)])), (12, (.cells [(xi p0.Days), (.d (dl zk p0.Shelves.1 p0.Shelves.2)), (.d (dl zl p0.Moves.1 p0.Moves.2)), (.d (dl zh p0.Deliveries.1 p0.Deliveries.2)), (.row 0 33 r.2.1.length)])), (33, (rowO false 4 zi r.2.1 r.2.2.1)), (14, (rowO true 1 eI r.2.2.2 true))], []⟩, []⟩
noncomputable def zes (p0 : za) (p1 p2 p3 : Int) (v1 : zt1) : (Int × (List zo) × Bool × (List Int)) → Ex × St := fun r => ((.exit 0), zNi p0 p1 p2 p3 v1 r)
theorem zpr (k : Nat) (p0 : za) (p1 p2 p3 : Int) (v1 : zt1) (s2_15 : Int) (s2_26 : zt17) (s2_27 : Bool) (s2_28 : zt5) (x : (Int × (List zo) × Bool × (List Int)) ⊕ (Int × (List zo) × Bool × (List Int))) (h : ztl k p0 p1 p2 p3 v1 s2_15 s2_26 s2_27 s2_28 = some x) : zO TE 30 (blk TE 30 0) (fun s : (Int × (List zo) × Bool × (List Int)) => z0r p0 p1 p2 p3 v1 s.1 s.2.1 s.2.2.1 s.2.2.2) (zes p0 p1 p2 p3 v1) (s2_15, s2_26, s2_27, s2_28) x := by
 unfold ztl at h
 refine zm h (fun h301 g1 => ?_) (fun h301 g1 => ?_)
 ·refine zj g1 (fun v302 h303 g2 => ?_)
  refine zR g2 (fun h304 g3 => ?_)
  refine zj g3 (fun v305 h306 g4 => ?_)
  refine zR g4 (fun h307 g5 => ?_)
  refine zR g5 (fun h308 g6 => ?_)
  exact zqn ((w64 (s2_15 + 1)), (s2_26 ++ [(⟨s2_15, p1, v305.Low, 0⟩ : zo)]), (false || (false && s2_26.isEmpty)), (s2_28 ++ [v305.Low])) [33, 14] [(30, 12, 0, .q (xb true)), (30, 14, 3, .cr [((dl zi s2_26 (rcap false s2_26)), (rowO false 4 zi s2_26 false))] (.agg (aB 732 v302))), (30, 14, 5, .q (.d (.agg (aB 61 (fun k => v302 (s2_15.toNat * 61 + k)))))), (30, 14, 6, .c (.agg [(di v305.Low), (di v305.High)])), (71, 0, 7, .ap (s2_26 ++ [(⟨s2_15, p1, v305.Low, 0⟩ : zo)]).length (rowO false 4 zi (s2_26 ++ [(⟨s2_15, p1, v305.Low, 0⟩ : zo)]) (false || (false && s2_26.isEmpty)))), (30, 16, 3, .ap (s2_28 ++ [v305.Low]).length (rowO true 1 eI (s2_28 ++ [v305.Low]) true))] [] g6 (ob (o_b h301) (ob (o_cr false 4 zi s2_26 s2_27 0 33) (ob (zxb k (⟨(⟨p0.Days, p0.Shelves, p0.Moves, p0.Deliveries, (s2_26, (rcap false s2_26))⟩ : za), p1, 0⟩ : zd) _ h303) (ob (zHr 12 61 v302 s2_15 h304) (ob (zUd k (fun k => v302 (s2_15.toNat * 61 + k)) _ h306) (ob (o_ap (b := false) (z := 4) (e := zi) (l := s2_26) (w := false) (⟨s2_15, p1, v305.Low, 0⟩ : zo) (fun _ => rfl) h307) (ob (o_ap (b := true) (z := 1) (e := eI) (l := s2_28) (w := true) v305.Low (fun _ => rfl) h308) (ob (zKb false 4 zi (s2_26 ++ [(⟨s2_15, p1, v305.Low, 0⟩ : zo)]) (false || (false && s2_26.isEmpty))) (ob (zKb true 1 eI (s2_28 ++ [v305.Low]) true) ob0))))))))) (by kernel_rfl)
 ·exact zqo [(30, 12, 0, .q (xb false))] [] g1 (ob (o_b h301) ob0) (by kernel_rfl)
theorem zmd (k : Nat) (p0 : za) (p1 p2 p3 : Int) (r : zt7) (h : z3o k p0 p1 p2 p3 = some r) : zL TE (ev TE) 30 [(.agg (zb p0)), (di p1), (di p2), (di p3)] = some (zYh r) := by
 unfold z3o at h
 refine zj h (fun v1 h2 g1 => ?_)
 refine zm g1 (fun h3 g2 => ?_) (fun h3 g2 => ?_)
 ·exact zI (g := zYh) g2 (zqc [(30, 1, 4, .c (.tup [(db v1.1), (di v1.2)])), (30, 2, 1, .q (xb true))] [] (ob (zwb k p0 p1 p2 p3 _ h2) (ob (o_b h3) ob0)) (by kernel_rfl))
 ·refine zm g2 (fun h4 g3 => ?_) (fun h4 g3 => ?_)
  ·exact zI (g := zYh) g3 (zqc [(30, 1, 4, .c (.tup [(db v1.1), (di v1.2)])), (30, 2, 1, .q (xb false)), (30, 4, 1, .q (xb true))] [] (ob (zwb k p0 p1 p2 p3 _ h2) (ob (o_b h3) (ob (o_b h4) ob0))) (by kernel_rfl))
  ·refine zm g3 (fun h5 g4 => ?_) (fun h5 g4 => ?_)
   ·refine zR g4 (fun h6 g5 => ?_)
    refine zj g5 (fun v7 h8 g6 => ?_)
    exact zI (g := zYh) g6 (zqc [(30, 1, 4, .c (.tup [(db v1.1), (di v1.2)])), (30, 2, 1, .q (xb false)), (30, 4, 1, .q (xb false)), (70, 1, 1, .q (xb true)), (71, 0, 7, .ap ([(⟨p2, p1, p3, 0⟩ : zo)] : List zo).length (rowO true 4 zi ([(⟨p2, p1, p3, 0⟩ : zo)] : List zo) true)), (30, 18, 2, .q (xi (v7.2.2.2.length : Int))), (30, 18, 4, .q (xi (v7.2.2.2.length : Int))), (30, 18, 5, .sr (.d (dl eI v7.2.2.2 (xcap true v7.2.2.2))) (rowO true 1 eI v7.2.2.2 false))] [(30, 0, (.nor, zSi p0 p1 p2 p3 v1 v7))] (ob (zwb k p0 p1 p2 p3 _ h2) (ob (o_b h3) (ob (o_b h4) (ob (o_b h5) (ob (o_ap (b := true) (z := 4) (e := zi) (l := ([] : List zo)) (w := true) (⟨p2, p1, p3, 0⟩ : zo) (fun _ => rfl) h6) (ob (zF (id := 0) (r' := (.nor, zSi p0 p1 p2 p3 v1 v7)) (zjy (zRq k p0 p1 p2 p3 v1) k _ _ h8) rfl) (ob (zXk true 1 eI v7.2.2.2 true) (ob (zXk true 1 eI v7.2.2.2 true) (ob (o_sr (P := TE.P) (T := 42) (U := 3) (by' := 8) (ρ := fun _ => xi (v7.2.2.2.length : Int)) (lv := 0) (s := 14) (lo := none) (hi := some (.tmp 0)) (mx := some (.tmp 0)) true 1 eI v7.2.2.2 true (by kernel_rfl) (by kernel_rfl) rfl rfl rfl) ob0))))))))) (by kernel_rfl))
   ·refine zR g4 (fun h6 g5 => ?_)
    refine zR g5 (fun h7 g6 => ?_)
    refine zj g6 (fun v8 h9 g7 => ?_)
    exact zI (g := zYh) g7 (zqc [(30, 1, 4, .c (.tup [(db v1.1), (di v1.2)])), (30, 2, 1, .q (xb false)), (30, 4, 1, .q (xb false)), (70, 1, 1, .q (xb false)), (70, 3, 2, .ns (p0.Counts.1.map zi) p0.Counts.1.length), (71, 0, 7, .ap (p0.Counts.1 ++ [(⟨p2, p1, p3, 0⟩ : zo)]).length (rowO false 4 zi (p0.Counts.1 ++ [(⟨p2, p1, p3, 0⟩ : zo)]) true)), (30, 18, 2, .q (xi (v8.2.2.2.length : Int))), (30, 18, 4, .q (xi (v8.2.2.2.length : Int))), (30, 18, 5, .sr (.d (dl eI v8.2.2.2 (xcap true v8.2.2.2))) (rowO true 1 eI v8.2.2.2 false))] [(30, 0, (.nor, zNi p0 p1 p2 p3 v1 v8))] (ob (zwb k p0 p1 p2 p3 _ h2) (ob (o_b h3) (ob (o_b h4) (ob (o_b h5) (ob (zEt p0.Counts.1 zi) (ob (o_ns (P := TE.P) (φ := fun _ _ => none) (T := 25) (q := (4, [(di 0), (di 0), (di 0), (di 0)])) (c := p0.Counts.2) (e := zi) p0.Counts.1 (by kernel_rfl) (fun _ => rfl) h6) (ob (rfl : (([] : List (List D)).isEmpty || !(p0.Counts.1.map zi).isEmpty) = true) (ob (o_rh false 4 zi p0.Counts.1) (ob (o_ap (b := false) (z := 4) (e := zi) (l := p0.Counts.1) (w := true) (⟨p2, p1, p3, 0⟩ : zo) (fun _ => rfl) h7) (ob (zF (id := 0) (r' := (.nor, zNi p0 p1 p2 p3 v1 v8)) (zjy (zpr k p0 p1 p2 p3 v1) k _ _ h9) rfl) (ob (zXk true 1 eI v8.2.2.2 true) (ob (zXk true 1 eI v8.2.2.2 true) (ob (o_sr (P := TE.P) (T := 42) (U := 3) (by' := 8) (ρ := fun _ => xi (v8.2.2.2.length : Int)) (lv := 0) (s := 14) (lo := none) (hi := some (.tmp 0)) (mx := some (.tmp 0)) true 1 eI v8.2.2.2 true (by kernel_rfl) (by kernel_rfl) rfl rfl rfl) ob0))))))))))))) (by kernel_rfl))
noncomputable def zVl (r0 : (SL Int)) (r1 r2 : Int) (r : zt4) : TM := [(0, (.d (dl eI r0.1 r0.2))), (1, (xi r1)), (2, (xi r2)), (3, (.ptr 0 1 0)), (4, (.ptr 0 5 0)), (8, (.d (.sl [] .nil))), (9, (xb false)), (17, (xb false)), (10, (xi r.1)), (24, (xb r.2))]
noncomputable def zvf (p0 : za) (r0 : (SL Int)) (r1 r2 : Int) (cb : Bool) (rc : zt3) (r : zt4) : St := ⟨(zVl r0 r1 r2 r), ⟨[], [[(zc 1 (zb p0)), (5, (.cells [(.fn 75 [] [(.ptr 0 1 0), (.ptr 0 5 0)])]))]]⟩, []⟩
noncomputable def zZl (r0 : (SL Int)) (r1 r2 : Int) (cb : Bool) : TM := [(0, (.d (dl eI r0.1 r0.2))), (1, (xi r1)), (2, (xi r2)), (3, (.ptr 0 1 0)), (4, (.ptr 0 5 0)), (8, (.d (.sl [] .nil))), (9, (xb false)), (17, (xb false)), (10, (xi 0)), (24, (xb cb))]
theorem zDl (k : Nat) (p0 : za) (r0 : (SL Int)) (r1 r2 : Int) (cb : Bool) (rc : zt3) (hrc : ∀ (f : Fr) (r0 : (SL Int)) (r1 : Int) (r2 : Int) (r : ((SL Int) × Bool)), rc r0 r1 r2 = some r → z8 TE (ev TE) 75 [(.d (dl eI r0.1 r0.2)), (xi r1), (xi r2), (.ptr 0 1 0), (.ptr 0 5 0)] ⟨f, [[(1, (.cells ((zb p0).map .d))), (5, (.cells [(.fn 75 [] [(.ptr 0 1 0), (.ptr 0 5 0)])]))]]⟩ [] = some (zz r, ⟨f, [[(1, (.cells ((zb p0).map .d))), (5, (.cells [(.fn 75 [] [(.ptr 0 1 0), (.ptr 0 5 0)])]))]]⟩, [])) (r : zt4) (h : zZg k p0 r0 r1 r2 cb rc = some r) : ev TE 75 (cnd TE 75 24) ⟨(zZl r0 r1 r2 cb), ⟨[], [[(zc 1 (zb p0)), (5, (.cells [(.fn 75 [] [(.ptr 0 1 0), (.ptr 0 5 0)])]))]]⟩, []⟩ = some (.nor, zvf p0 r0 r1 r2 cb rc r) := by
 unfold zZg at h
 refine zm h (fun h401 g1 => ?_) (fun h401 g1 => ?_)
 ·subst h401
  refine zj g1 (fun v402 h403 g2 => ?_)
  exact zy (g := fun r => (Ex.nor, zvf p0 r0 r1 r2 true rc r)) g2 (zqe [(75, 5, 2, .q (xi (r0.1.length : Int))), (75, 5, 4, .q (.d (.pin [(di v402)])))] [] (ob (zw eI r0.1) (ob (o_ia (e := eI) 1 h403 rfl) ob0)) (by kernel_rfl))
 ·subst h401
  exact zy (g := fun r => (Ex.nor, zvf p0 r0 r1 r2 false rc r)) g1 (zqe [] [] ob0 (by kernel_rfl))
noncomputable def zhA (r0 : (SL Int)) (r1 r2 : Int) (v302 : zt4) (s4_8 : Int) : TM := [(0, (.d (dl eI r0.1 r0.2))), (1, (xi r1)), (2, (xi r2)), (3, (.ptr 0 1 0)), (4, (.ptr 0 5 0)), (8, (.d (.sl [] .nil))), (9, (xb false)), (17, (xb false)), (10, (xi v302.1)), (24, (xb v302.2)), (11, (xi s4_8))]
noncomputable def zSq (p0 : za) (r0 : (SL Int)) (r1 r2 : Int) (v302 : zt4) (rc : zt3) (s4_8 : Int) : St := ⟨(zhA r0 r1 r2 v302 s4_8), ⟨[], [[(zc 1 (zb p0)), (5, (.cells [(.fn 75 [] [(.ptr 0 1 0), (.ptr 0 5 0)])]))]]⟩, []⟩
noncomputable def zLB (r0 : (SL Int)) (r1 r2 : Int) (r : zt19) (v302 : zt4) : TM := [(0, (.d (dl eI r0.1 r0.2))), (1, (xi r1)), (2, (xi r2)), (3, (.ptr 0 1 0)), (4, (.ptr 0 5 0)), (8, (.d (dl eI r.1.1 r.1.2))), (9, (xb true)), (17, (xb false)), (10, (xi v302.1)), (24, (xb v302.2)), (11, (xi r.2.1)), (37, (xb true)), (12, (.d (dl eI r.1.1 r.1.2))), (13, (xb r.2.2)), (59, (xb true))]
noncomputable def zoi (p0 : za) (r0 : (SL Int)) (r1 r2 : Int) (v302 : zt4) (rc : zt3) (r : zt19) : St := ⟨(zLB r0 r1 r2 r v302), ⟨[], [[(zc 1 (zb p0)), (5, (.cells [(.fn 75 [] [(.ptr 0 1 0), (.ptr 0 5 0)])]))]]⟩, []⟩
noncomputable def zJB (r0 : (SL Int)) (r1 r2 : Int) (v302 : zt4) (r : Int) : TM := [(0, (.d (dl eI r0.1 r0.2))), (1, (xi r1)), (2, (xi r2)), (3, (.ptr 0 1 0)), (4, (.ptr 0 5 0)), (8, (.d (.sl [] .nil))), (9, (xb false)), (17, (xb false)), (10, (xi v302.1)), (24, (xb v302.2)), (11, (xi r)), (37, (xb false))]
noncomputable def zmi (p0 : za) (r0 : (SL Int)) (r1 r2 : Int) (v302 : zt4) (rc : zt3) (r : Int) : St := ⟨(zJB r0 r1 r2 v302 r), ⟨[], [[(zc 1 (zb p0)), (5, (.cells [(.fn 75 [] [(.ptr 0 1 0), (.ptr 0 5 0)])]))]]⟩, []⟩
noncomputable def zhr (p0 : za) (r0 : (SL Int)) (r1 r2 : Int) (v302 : zt4) (rc : zt3) : (((SL Int) × Int × Bool) ⊕ Int) → Ex × St := Sum.elim (fun r => (.ret, zoi p0 r0 r1 r2 v302 rc r)) (fun r => ((.exit 0), zmi p0 r0 r1 r2 v302 rc r))
theorem zzl (k : Nat) (p0 : za) (r0 : (SL Int)) (r1 r2 : Int) (v302 : zt4) (rc : zt3) (hrc : ∀ (f : Fr) (r0 : (SL Int)) (r1 : Int) (r2 : Int) (r : ((SL Int) × Bool)), rc r0 r1 r2 = some r → z8 TE (ev TE) 75 [(.d (dl eI r0.1 r0.2)), (xi r1), (xi r2), (.ptr 0 1 0), (.ptr 0 5 0)] ⟨f, [[(1, (.cells ((zb p0).map .d))), (5, (.cells [(.fn 75 [] [(.ptr 0 1 0), (.ptr 0 5 0)])]))]]⟩ [] = some (zz r, ⟨f, [[(1, (.cells ((zb p0).map .d))), (5, (.cells [(.fn 75 [] [(.ptr 0 1 0), (.ptr 0 5 0)])]))]]⟩, [])) (s4_8 : Int) (x : Int ⊕ (((SL Int) × Int × Bool) ⊕ Int)) (h : zHg k p0 r0 r1 r2 v302 rc s4_8 = some x) : zO TE 75 (blk TE 75 0) (fun s : Int => zSq p0 r0 r1 r2 v302 rc s) (zhr p0 r0 r1 r2 v302 rc) s4_8 x := by
 unfold zHg at h
 refine zm h (fun h501 g1 => ?_) (fun h501 g1 => ?_)
 ·refine zm g1 (fun h502 g2 => ?_) (fun h502 g2 => ?_)
  ·cases g2
  ·refine zR g2 (fun h503 g3 => ?_)
   refine zm g3 (fun h504 g4 => ?_) (fun h504 g4 => ?_)
   ·cases g4
   ·refine zj g4 (fun v505 h506 g5 => ?_)
    refine zm g5 (fun h507 g6 => ?_) (fun h507 g6 => ?_)
    ·exact zqo [(75, 7, 3, .q (xi (p0.Counts.1.length : Int))), (75, 7, 4, .q (xb true)), (75, 9, 3, .q (xi (r0.1.length : Int))), (75, 9, 5, .q (xi (r0.1.length : Int))), (75, 9, 6, .q (.d (dl eI r0.1 (ccap r0.2)))), (75, 9, 9, .q (.d (dl eI (r0.1 ++ [s4_8]) .ro))), (75, 9, 12, .q (xi (zJ 1 s4_8))), (75, 9, 15, .i (.tup [(dl eI v505.1.1 v505.1.2), (db v505.2)]) ⟨[], [[(1, (.cells ((zb p0).map .d))), (5, (.cells [(.fn 75 [] [(.ptr 0 1 0), (.ptr 0 5 0)])]))]]⟩ []), (75, 10, 0, .q (xb true))] [] g6 (ob (zw zi p0.Counts.1) (ob (o_b h501) (ob (zw eI r0.1) (ob (zw eI r0.1) (ob (z9e (e := eI) (z := 1) r0.1 r0.2) (ob (o_ad (P := TE.P) (φ := fun _ _ => none) (T := 42) (q := (1, [(di 0)])) (c := (ccap r0.2)) (e := eI) r0.1 s4_8 (by kernel_rfl) (fun _ => rfl) h502 h503) (ob (zSc (x := 1) h504) (ob (hrc ([] : Fr) ((r0.1 ++ [s4_8]), .ro) (or64 r1 (zJ 1 s4_8)) r2 _ h506) (ob (o_b h507) ob0))))))))) (by kernel_rfl)
    ·exact zqn (w64 (s4_8 + 1)) [] [(75, 7, 3, .q (xi (p0.Counts.1.length : Int))), (75, 7, 4, .q (xb true)), (75, 9, 3, .q (xi (r0.1.length : Int))), (75, 9, 5, .q (xi (r0.1.length : Int))), (75, 9, 6, .q (.d (dl eI r0.1 (ccap r0.2)))), (75, 9, 9, .q (.d (dl eI (r0.1 ++ [s4_8]) .ro))), (75, 9, 12, .q (xi (zJ 1 s4_8))), (75, 9, 15, .i (.tup [(dl eI v505.1.1 v505.1.2), (db v505.2)]) ⟨[], [[(1, (.cells ((zb p0).map .d))), (5, (.cells [(.fn 75 [] [(.ptr 0 1 0), (.ptr 0 5 0)])]))]]⟩ []), (75, 10, 0, .q (xb false))] [] g6 (ob (zw zi p0.Counts.1) (ob (o_b h501) (ob (zw eI r0.1) (ob (zw eI r0.1) (ob (z9e (e := eI) (z := 1) r0.1 r0.2) (ob (o_ad (P := TE.P) (φ := fun _ _ => none) (T := 42) (q := (1, [(di 0)])) (c := (ccap r0.2)) (e := eI) r0.1 s4_8 (by kernel_rfl) (fun _ => rfl) h502 h503) (ob (zSc (x := 1) h504) (ob (hrc ([] : Fr) ((r0.1 ++ [s4_8]), .ro) (or64 r1 (zJ 1 s4_8)) r2 _ h506) (ob (o_b h507) ob0))))))))) (by kernel_rfl)
 ·exact zqo [(75, 7, 3, .q (xi (p0.Counts.1.length : Int))), (75, 7, 4, .q (xb false))] [] g1 (ob (zw zi p0.Counts.1) (ob (o_b h501) ob0)) (by kernel_rfl)
theorem zDp (k : Nat) (p0 : za) (rc : zt3) (hrc : ∀ (f : Fr) (r0 : (SL Int)) (r1 : Int) (r2 : Int) (r : ((SL Int) × Bool)), rc r0 r1 r2 = some r → z8 TE (ev TE) 75 [(.d (dl eI r0.1 r0.2)), (xi r1), (xi r2), (.ptr 0 1 0), (.ptr 0 5 0)] ⟨f, [[(1, (.cells ((zb p0).map .d))), (5, (.cells [(.fn 75 [] [(.ptr 0 1 0), (.ptr 0 5 0)])]))]]⟩ [] = some (zz r, ⟨f, [[(1, (.cells ((zb p0).map .d))), (5, (.cells [(.fn 75 [] [(.ptr 0 1 0), (.ptr 0 5 0)])]))]]⟩, [])) (r0 : (SL Int)) (r1 r2 : Int) (r : ((SL Int) × Bool)) (h : zib k p0 rc r0 r1 r2 = some r) : z8 TE (ev TE) 75 [(.d (dl eI r0.1 r0.2)), (xi r1), (xi r2), (.ptr 0 1 0), (.ptr 0 5 0)] ⟨[(zc 1 (zb p0)), (5, (.cells [(.fn 75 [] [(.ptr 0 1 0), (.ptr 0 5 0)])]))], []⟩ [] = some (zz r, ⟨[(zc 1 (zb p0)), (5, (.cells [(.fn 75 [] [(.ptr 0 1 0), (.ptr 0 5 0)])]))], []⟩, []) := by
 unfold zib at h
 refine zm h (fun h301 g1 => ?_) (fun h301 g1 => ?_)
 ·refine zj g1 (fun v302 h303 g2 => ?_)
  exact zBb (g := (fun r => (zz r, ⟨[(1, (.cells ((zb p0).map .d))), (5, (.cells [(.fn 75 [] [(.ptr 0 1 0), (.ptr 0 5 0)])]))], []⟩, []))) g2 (zgb (n := 80) (V := [(75, 1, 1, .q (xi (r0.1.length : Int))), (75, 1, 3, .q (xb true)), (75, 2, 3, .c (db v302))]) (C := []) (ob (zw eI r0.1) (ob (o_b h301) (ob (zPb k p0 r1 _ h303) ob0))) (by kernel_rfl))
 ·refine zj g1 (fun v302 h303 g2 => ?_)
  refine zj g2 (fun v304 h305 g3 => ?_)
  refine zid g3 (fun v307 hh g4_0 => ?_) (fun v307 hh g4_0 => ?_)
  ·subst hh
   exact zBb (g := (fun r => (zz r, ⟨[(1, (.cells ((zb p0).map .d))), (5, (.cells [(.fn 75 [] [(.ptr 0 1 0), (.ptr 0 5 0)])]))], []⟩, []))) g4_0 (zgb (n := 80) (V := [(75, 1, 1, .q (xi (r0.1.length : Int))), (75, 1, 3, .q (xb false)), (75, 4, 1, .q (xi (r0.1.length : Int)))]) (C := [(75, 2000024, (.nor, zvf p0 r0 r1 r2 (decide ((r0.1.length : Int) > 0)) rc v302)), (75, 0, (.ret, zoi p0 r0 r1 r2 v302 rc v307))]) (ob (zw eI r0.1) (ob (o_b h301) (ob (zw eI r0.1) (ob (zDl k p0 r0 r1 r2 (decide ((r0.1.length : Int) > 0)) rc hrc _ h303) (ob (zF (id := 0) (r' := (.ret, zoi p0 r0 r1 r2 v302 rc v307)) (zRb (zzl k p0 r0 r1 r2 v302 rc hrc) k _ _ h305) rfl) ob0))))) (by kernel_rfl))
  ·subst hh
   exact zBb (g := (fun r => (zz r, ⟨[(1, (.cells ((zb p0).map .d))), (5, (.cells [(.fn 75 [] [(.ptr 0 1 0), (.ptr 0 5 0)])]))], []⟩, []))) g4_0 (zgb (n := 80) (V := [(75, 1, 1, .q (xi (r0.1.length : Int))), (75, 1, 3, .q (xb false)), (75, 4, 1, .q (xi (r0.1.length : Int)))]) (C := [(75, 2000024, (.nor, zvf p0 r0 r1 r2 (decide ((r0.1.length : Int) > 0)) rc v302)), (75, 0, (.nor, zmi p0 r0 r1 r2 v302 rc v307))]) (ob (zw eI r0.1) (ob (o_b h301) (ob (zw eI r0.1) (ob (zDl k p0 r0 r1 r2 (decide ((r0.1.length : Int) > 0)) rc hrc _ h303) (ob (zF (id := 0) (r' := (.nor, zmi p0 r0 r1 r2 v302 rc v307)) (zRb (zzl k p0 r0 r1 r2 v302 rc hrc) k _ _ h305) rfl) ob0))))) (by kernel_rfl))
noncomputable def znf (p0 : za) (r0 : (SL Int)) (r1 r2 : Int) (cb : Bool) (rc : zt3) (f1 : Fr) (r : zt4) : St := ⟨(zVl r0 r1 r2 r), ⟨[], [[(zc 1 (zb p0)), (5, (.cells [(.fn 75 [] [(.ptr 0 1 0), (.ptr 0 5 0)])]))], f1]⟩, []⟩
theorem zKl (k : Nat) (p0 : za) (r0 : (SL Int)) (r1 r2 : Int) (cb : Bool) (rc : zt3) (f1 : Fr) (hrc : ∀ (f : Fr) (r0 : (SL Int)) (r1 : Int) (r2 : Int) (r : ((SL Int) × Bool)), rc r0 r1 r2 = some r → z8 TE (ev TE) 75 [(.d (dl eI r0.1 r0.2)), (xi r1), (xi r2), (.ptr 0 1 0), (.ptr 0 5 0)] ⟨f, [[(1, (.cells ((zb p0).map .d))), (5, (.cells [(.fn 75 [] [(.ptr 0 1 0), (.ptr 0 5 0)])]))], f1]⟩ [] = some (zz r, ⟨f, [[(1, (.cells ((zb p0).map .d))), (5, (.cells [(.fn 75 [] [(.ptr 0 1 0), (.ptr 0 5 0)])]))], f1]⟩, [])) (r : zt4) (h : zdk k p0 r0 r1 r2 cb rc = some r) : ev TE 75 (cnd TE 75 24) ⟨(zZl r0 r1 r2 cb), ⟨[], [[(zc 1 (zb p0)), (5, (.cells [(.fn 75 [] [(.ptr 0 1 0), (.ptr 0 5 0)])]))], f1]⟩, []⟩ = some (.nor, znf p0 r0 r1 r2 cb rc f1 r) := by
 unfold zdk at h
 refine zm h (fun h601 g1 => ?_) (fun h601 g1 => ?_)
 ·subst h601
  refine zj g1 (fun v602 h603 g2 => ?_)
  exact zy (g := fun r => (Ex.nor, znf p0 r0 r1 r2 true rc f1 r)) g2 (zqe [(75, 5, 2, .q (xi (r0.1.length : Int))), (75, 5, 4, .q (.d (.pin [(di v602)])))] [] (ob (zw eI r0.1) (ob (o_ia (e := eI) 1 h603 rfl) ob0)) (by kernel_rfl))
 ·subst h601
  exact zy (g := fun r => (Ex.nor, znf p0 r0 r1 r2 false rc f1 r)) g1 (zqe [] [] ob0 (by kernel_rfl))
noncomputable def zVA (r0 : (SL Int)) (r1 r2 : Int) (v502 : zt4) (s6_8 : Int) : TM := [(0, (.d (dl eI r0.1 r0.2))), (1, (xi r1)), (2, (xi r2)), (3, (.ptr 0 1 0)), (4, (.ptr 0 5 0)), (8, (.d (.sl [] .nil))), (9, (xb false)), (17, (xb false)), (10, (xi v502.1)), (24, (xb v502.2)), (11, (xi s6_8))]
noncomputable def z2q (p0 : za) (r0 : (SL Int)) (r1 r2 : Int) (v502 : zt4) (rc : zt3) (f1 : Fr) (s6_8 : Int) : St := ⟨(zVA r0 r1 r2 v502 s6_8), ⟨[], [[(zc 1 (zb p0)), (5, (.cells [(.fn 75 [] [(.ptr 0 1 0), (.ptr 0 5 0)])]))], f1]⟩, []⟩
noncomputable def z5A (r0 : (SL Int)) (r1 r2 : Int) (r : zt19) (v502 : zt4) : TM := [(0, (.d (dl eI r0.1 r0.2))), (1, (xi r1)), (2, (xi r2)), (3, (.ptr 0 1 0)), (4, (.ptr 0 5 0)), (8, (.d (dl eI r.1.1 r.1.2))), (9, (xb true)), (17, (xb false)), (10, (xi v502.1)), (24, (xb v502.2)), (11, (xi r.2.1)), (37, (xb true)), (12, (.d (dl eI r.1.1 r.1.2))), (13, (xb r.2.2)), (59, (xb true))]
noncomputable def zli (p0 : za) (r0 : (SL Int)) (r1 r2 : Int) (v502 : zt4) (rc : zt3) (f1 : Fr) (r : zt19) : St := ⟨(z5A r0 r1 r2 r v502), ⟨[], [[(zc 1 (zb p0)), (5, (.cells [(.fn 75 [] [(.ptr 0 1 0), (.ptr 0 5 0)])]))], f1]⟩, []⟩
noncomputable def zsA (r0 : (SL Int)) (r1 r2 : Int) (v502 : zt4) (r : Int) : TM := [(0, (.d (dl eI r0.1 r0.2))), (1, (xi r1)), (2, (xi r2)), (3, (.ptr 0 1 0)), (4, (.ptr 0 5 0)), (8, (.d (.sl [] .nil))), (9, (xb false)), (17, (xb false)), (10, (xi v502.1)), (24, (xb v502.2)), (11, (xi r)), (37, (xb false))]
noncomputable def zki (p0 : za) (r0 : (SL Int)) (r1 r2 : Int) (v502 : zt4) (rc : zt3) (f1 : Fr) (r : Int) : St := ⟨(zsA r0 r1 r2 v502 r), ⟨[], [[(zc 1 (zb p0)), (5, (.cells [(.fn 75 [] [(.ptr 0 1 0), (.ptr 0 5 0)])]))], f1]⟩, []⟩
noncomputable def zer (p0 : za) (r0 : (SL Int)) (r1 r2 : Int) (v502 : zt4) (rc : zt3) (f1 : Fr) : (((SL Int) × Int × Bool) ⊕ Int) → Ex × St := Sum.elim (fun r => (.ret, zli p0 r0 r1 r2 v502 rc f1 r)) (fun r => ((.exit 0), zki p0 r0 r1 r2 v502 rc f1 r))
theorem zIl (k : Nat) (p0 : za) (r0 : (SL Int)) (r1 r2 : Int) (v502 : zt4) (rc : zt3) (f1 : Fr) (hrc : ∀ (f : Fr) (r0 : (SL Int)) (r1 : Int) (r2 : Int) (r : ((SL Int) × Bool)), rc r0 r1 r2 = some r → z8 TE (ev TE) 75 [(.d (dl eI r0.1 r0.2)), (xi r1), (xi r2), (.ptr 0 1 0), (.ptr 0 5 0)] ⟨f, [[(1, (.cells ((zb p0).map .d))), (5, (.cells [(.fn 75 [] [(.ptr 0 1 0), (.ptr 0 5 0)])]))], f1]⟩ [] = some (zz r, ⟨f, [[(1, (.cells ((zb p0).map .d))), (5, (.cells [(.fn 75 [] [(.ptr 0 1 0), (.ptr 0 5 0)])]))], f1]⟩, [])) (s6_8 : Int) (x : Int ⊕ (((SL Int) × Int × Bool) ⊕ Int)) (h : z9j k p0 r0 r1 r2 v502 rc s6_8 = some x) : zO TE 75 (blk TE 75 0) (fun s : Int => z2q p0 r0 r1 r2 v502 rc f1 s) (zer p0 r0 r1 r2 v502 rc f1) s6_8 x := by
 unfold z9j at h
 refine zm h (fun h701 g1 => ?_) (fun h701 g1 => ?_)
 ·refine zm g1 (fun h702 g2 => ?_) (fun h702 g2 => ?_)
  ·cases g2
  ·refine zR g2 (fun h703 g3 => ?_)
   refine zm g3 (fun h704 g4 => ?_) (fun h704 g4 => ?_)
   ·cases g4
   ·refine zj g4 (fun v705 h706 g5 => ?_)
    refine zm g5 (fun h707 g6 => ?_) (fun h707 g6 => ?_)
    ·exact zqo [(75, 7, 3, .q (xi (p0.Counts.1.length : Int))), (75, 7, 4, .q (xb true)), (75, 9, 3, .q (xi (r0.1.length : Int))), (75, 9, 5, .q (xi (r0.1.length : Int))), (75, 9, 6, .q (.d (dl eI r0.1 (ccap r0.2)))), (75, 9, 9, .q (.d (dl eI (r0.1 ++ [s6_8]) .ro))), (75, 9, 12, .q (xi (zJ 1 s6_8))), (75, 9, 15, .i (.tup [(dl eI v705.1.1 v705.1.2), (db v705.2)]) ⟨[], [[(1, (.cells ((zb p0).map .d))), (5, (.cells [(.fn 75 [] [(.ptr 0 1 0), (.ptr 0 5 0)])]))], f1]⟩ []), (75, 10, 0, .q (xb true))] [] g6 (ob (zw zi p0.Counts.1) (ob (o_b h701) (ob (zw eI r0.1) (ob (zw eI r0.1) (ob (z9e (e := eI) (z := 1) r0.1 r0.2) (ob (o_ad (P := TE.P) (φ := fun _ _ => none) (T := 42) (q := (1, [(di 0)])) (c := (ccap r0.2)) (e := eI) r0.1 s6_8 (by kernel_rfl) (fun _ => rfl) h702 h703) (ob (zSc (x := 1) h704) (ob (hrc ([] : Fr) ((r0.1 ++ [s6_8]), .ro) (or64 r1 (zJ 1 s6_8)) r2 _ h706) (ob (o_b h707) ob0))))))))) (by kernel_rfl)
    ·exact zqn (w64 (s6_8 + 1)) [] [(75, 7, 3, .q (xi (p0.Counts.1.length : Int))), (75, 7, 4, .q (xb true)), (75, 9, 3, .q (xi (r0.1.length : Int))), (75, 9, 5, .q (xi (r0.1.length : Int))), (75, 9, 6, .q (.d (dl eI r0.1 (ccap r0.2)))), (75, 9, 9, .q (.d (dl eI (r0.1 ++ [s6_8]) .ro))), (75, 9, 12, .q (xi (zJ 1 s6_8))), (75, 9, 15, .i (.tup [(dl eI v705.1.1 v705.1.2), (db v705.2)]) ⟨[], [[(1, (.cells ((zb p0).map .d))), (5, (.cells [(.fn 75 [] [(.ptr 0 1 0), (.ptr 0 5 0)])]))], f1]⟩ []), (75, 10, 0, .q (xb false))] [] g6 (ob (zw zi p0.Counts.1) (ob (o_b h701) (ob (zw eI r0.1) (ob (zw eI r0.1) (ob (z9e (e := eI) (z := 1) r0.1 r0.2) (ob (o_ad (P := TE.P) (φ := fun _ _ => none) (T := 42) (q := (1, [(di 0)])) (c := (ccap r0.2)) (e := eI) r0.1 s6_8 (by kernel_rfl) (fun _ => rfl) h702 h703) (ob (zSc (x := 1) h704) (ob (hrc ([] : Fr) ((r0.1 ++ [s6_8]), .ro) (or64 r1 (zJ 1 s6_8)) r2 _ h706) (ob (o_b h707) ob0))))))))) (by kernel_rfl)
 ·exact zqo [(75, 7, 3, .q (xi (p0.Counts.1.length : Int))), (75, 7, 4, .q (xb false))] [] g1 (ob (zw zi p0.Counts.1) (ob (o_b h701) ob0)) (by kernel_rfl)
theorem zqp (k : Nat) (p0 : za) (rc : zt3) (f1 : Fr) (hrc : ∀ (f : Fr) (r0 : (SL Int)) (r1 : Int) (r2 : Int) (r : ((SL Int) × Bool)), rc r0 r1 r2 = some r → z8 TE (ev TE) 75 [(.d (dl eI r0.1 r0.2)), (xi r1), (xi r2), (.ptr 0 1 0), (.ptr 0 5 0)] ⟨f, [[(1, (.cells ((zb p0).map .d))), (5, (.cells [(.fn 75 [] [(.ptr 0 1 0), (.ptr 0 5 0)])]))], f1]⟩ [] = some (zz r, ⟨f, [[(1, (.cells ((zb p0).map .d))), (5, (.cells [(.fn 75 [] [(.ptr 0 1 0), (.ptr 0 5 0)])]))], f1]⟩, [])) (r0 : (SL Int)) (r1 r2 : Int) (r : ((SL Int) × Bool)) (h : zBg k p0 rc r0 r1 r2 = some r) : z8 TE (ev TE) 75 [(.d (dl eI r0.1 r0.2)), (xi r1), (xi r2), (.ptr 0 1 0), (.ptr 0 5 0)] ⟨f1, [[(zc 1 (zb p0)), (5, (.cells [(.fn 75 [] [(.ptr 0 1 0), (.ptr 0 5 0)])]))]]⟩ [] = some (zz r, ⟨f1, [[(zc 1 (zb p0)), (5, (.cells [(.fn 75 [] [(.ptr 0 1 0), (.ptr 0 5 0)])]))]]⟩, []) := by
 unfold zBg at h
 refine zm h (fun h501 g1 => ?_) (fun h501 g1 => ?_)
 ·refine zj g1 (fun v502 h503 g2 => ?_)
  exact zBb (g := (fun r => (zz r, ⟨f1, [[(1, (.cells ((zb p0).map .d))), (5, (.cells [(.fn 75 [] [(.ptr 0 1 0), (.ptr 0 5 0)])]))]]⟩, []))) g2 (zgb (n := 80) (V := [(75, 1, 1, .q (xi (r0.1.length : Int))), (75, 1, 3, .q (xb true)), (75, 2, 3, .c (db v502))]) (C := []) (ob (zw eI r0.1) (ob (o_b h501) (ob (zPb k p0 r1 _ h503) ob0))) (by kernel_rfl))
 ·refine zj g1 (fun v502 h503 g2 => ?_)
  refine zj g2 (fun v504 h505 g3 => ?_)
  refine zid g3 (fun v507 hh g4_0 => ?_) (fun v507 hh g4_0 => ?_)
  ·subst hh
   exact zBb (g := (fun r => (zz r, ⟨f1, [[(1, (.cells ((zb p0).map .d))), (5, (.cells [(.fn 75 [] [(.ptr 0 1 0), (.ptr 0 5 0)])]))]]⟩, []))) g4_0 (zgb (n := 80) (V := [(75, 1, 1, .q (xi (r0.1.length : Int))), (75, 1, 3, .q (xb false)), (75, 4, 1, .q (xi (r0.1.length : Int)))]) (C := [(75, 2000024, (.nor, znf p0 r0 r1 r2 (decide ((r0.1.length : Int) > 0)) rc f1 v502)), (75, 0, (.ret, zli p0 r0 r1 r2 v502 rc f1 v507))]) (ob (zw eI r0.1) (ob (o_b h501) (ob (zw eI r0.1) (ob (zKl k p0 r0 r1 r2 (decide ((r0.1.length : Int) > 0)) rc f1 hrc _ h503) (ob (zF (id := 0) (r' := (.ret, zli p0 r0 r1 r2 v502 rc f1 v507)) (zRb (zIl k p0 r0 r1 r2 v502 rc f1 hrc) k _ _ h505) rfl) ob0))))) (by kernel_rfl))
  ·subst hh
   exact zBb (g := (fun r => (zz r, ⟨f1, [[(1, (.cells ((zb p0).map .d))), (5, (.cells [(.fn 75 [] [(.ptr 0 1 0), (.ptr 0 5 0)])]))]]⟩, []))) g4_0 (zgb (n := 80) (V := [(75, 1, 1, .q (xi (r0.1.length : Int))), (75, 1, 3, .q (xb false)), (75, 4, 1, .q (xi (r0.1.length : Int)))]) (C := [(75, 2000024, (.nor, znf p0 r0 r1 r2 (decide ((r0.1.length : Int) > 0)) rc f1 v502)), (75, 0, (.nor, zki p0 r0 r1 r2 v502 rc f1 v507))]) (ob (zw eI r0.1) (ob (o_b h501) (ob (zw eI r0.1) (ob (zKl k p0 r0 r1 r2 (decide ((r0.1.length : Int) > 0)) rc f1 hrc _ h503) (ob (zF (id := 0) (r' := (.nor, zki p0 r0 r1 r2 v502 rc f1 v507)) (zRb (zIl k p0 r0 r1 r2 v502 rc f1 hrc) k _ _ h505) rfl) ob0))))) (by kernel_rfl))
noncomputable def zwf (p0 : za) (r0 : (SL Int)) (r1 r2 : Int) (cb : Bool) (rc : zt3) (f1 f2 : Fr) (r : zt4) : St := ⟨(zVl r0 r1 r2 r), ⟨[], [[(zc 1 (zb p0)), (5, (.cells [(.fn 75 [] [(.ptr 0 1 0), (.ptr 0 5 0)])]))], f1, f2]⟩, []⟩
theorem zFl (k : Nat) (p0 : za) (r0 : (SL Int)) (r1 r2 : Int) (cb : Bool) (rc : zt3) (f1 f2 : Fr) (hrc : ∀ (f : Fr) (r0 : (SL Int)) (r1 : Int) (r2 : Int) (r : ((SL Int) × Bool)), rc r0 r1 r2 = some r → z8 TE (ev TE) 75 [(.d (dl eI r0.1 r0.2)), (xi r1), (xi r2), (.ptr 0 1 0), (.ptr 0 5 0)] ⟨f, [[(1, (.cells ((zb p0).map .d))), (5, (.cells [(.fn 75 [] [(.ptr 0 1 0), (.ptr 0 5 0)])]))], f1, f2]⟩ [] = some (zz r, ⟨f, [[(1, (.cells ((zb p0).map .d))), (5, (.cells [(.fn 75 [] [(.ptr 0 1 0), (.ptr 0 5 0)])]))], f1, f2]⟩, [])) (r : zt4) (h : znk k p0 r0 r1 r2 cb rc = some r) : ev TE 75 (cnd TE 75 24) ⟨(zZl r0 r1 r2 cb), ⟨[], [[(zc 1 (zb p0)), (5, (.cells [(.fn 75 [] [(.ptr 0 1 0), (.ptr 0 5 0)])]))], f1, f2]⟩, []⟩ = some (.nor, zwf p0 r0 r1 r2 cb rc f1 f2 r) := by
 unfold znk at h
 refine zm h (fun h801 g1 => ?_) (fun h801 g1 => ?_)
 ·subst h801
  refine zj g1 (fun v802 h803 g2 => ?_)
  exact zy (g := fun r => (Ex.nor, zwf p0 r0 r1 r2 true rc f1 f2 r)) g2 (zqe [(75, 5, 2, .q (xi (r0.1.length : Int))), (75, 5, 4, .q (.d (.pin [(di v802)])))] [] (ob (zw eI r0.1) (ob (o_ia (e := eI) 1 h803 rfl) ob0)) (by kernel_rfl))
 ·subst h801
  exact zy (g := fun r => (Ex.nor, zwf p0 r0 r1 r2 false rc f1 f2 r)) g1 (zqe [] [] ob0 (by kernel_rfl))
noncomputable def zzA (r0 : (SL Int)) (r1 r2 : Int) (v702 : zt4) (s8_8 : Int) : TM := [(0, (.d (dl eI r0.1 r0.2))), (1, (xi r1)), (2, (xi r2)), (3, (.ptr 0 1 0)), (4, (.ptr 0 5 0)), (8, (.d (.sl [] .nil))), (9, (xb false)), (17, (xb false)), (10, (xi v702.1)), (24, (xb v702.2)), (11, (xi s8_8))]
noncomputable def zPq (p0 : za) (r0 : (SL Int)) (r1 r2 : Int) (v702 : zt4) (rc : zt3) (f1 f2 : Fr) (s8_8 : Int) : St := ⟨(zzA r0 r1 r2 v702 s8_8), ⟨[], [[(zc 1 (zb p0)), (5, (.cells [(.fn 75 [] [(.ptr 0 1 0), (.ptr 0 5 0)])]))], f1, f2]⟩, []⟩
noncomputable def zXz (r0 : (SL Int)) (r1 r2 : Int) (r : zt19) (v702 : zt4) : TM := [(0, (.d (dl eI r0.1 r0.2))), (1, (xi r1)), (2, (xi r2)), (3, (.ptr 0 1 0)), (4, (.ptr 0 5 0)), (8, (.d (dl eI r.1.1 r.1.2))), (9, (xb true)), (17, (xb false)), (10, (xi v702.1)), (24, (xb v702.2)), (11, (xi r.2.1)), (37, (xb true)), (12, (.d (dl eI r.1.1 r.1.2))), (13, (xb r.2.2)), (59, (xb true))]
noncomputable def zri (p0 : za) (r0 : (SL Int)) (r1 r2 : Int) (v702 : zt4) (rc : zt3) (f1 f2 : Fr) (r : zt19) : St := ⟨(zXz r0 r1 r2 r v702), ⟨[], [[(zc 1 (zb p0)), (5, (.cells [(.fn 75 [] [(.ptr 0 1 0), (.ptr 0 5 0)])]))], f1, f2]⟩, []⟩
noncomputable def z7A (r0 : (SL Int)) (r1 r2 : Int) (v702 : zt4) (r : Int) : TM := [(0, (.d (dl eI r0.1 r0.2))), (1, (xi r1)), (2, (xi r2)), (3, (.ptr 0 1 0)), (4, (.ptr 0 5 0)), (8, (.d (.sl [] .nil))), (9, (xb false)), (17, (xb false)), (10, (xi v702.1)), (24, (xb v702.2)), (11, (xi r)), (37, (xb false))]
noncomputable def zqi (p0 : za) (r0 : (SL Int)) (r1 r2 : Int) (v702 : zt4) (rc : zt3) (f1 f2 : Fr) (r : Int) : St := ⟨(z7A r0 r1 r2 v702 r), ⟨[], [[(zc 1 (zb p0)), (5, (.cells [(.fn 75 [] [(.ptr 0 1 0), (.ptr 0 5 0)])]))], f1, f2]⟩, []⟩
noncomputable def z5q (p0 : za) (r0 : (SL Int)) (r1 r2 : Int) (v702 : zt4) (rc : zt3) (f1 f2 : Fr) : (((SL Int) × Int × Bool) ⊕ Int) → Ex × St := Sum.elim (fun r => (.ret, zri p0 r0 r1 r2 v702 rc f1 f2 r)) (fun r => ((.exit 0), zqi p0 r0 r1 r2 v702 rc f1 f2 r))
theorem zyl (k : Nat) (p0 : za) (r0 : (SL Int)) (r1 r2 : Int) (v702 : zt4) (rc : zt3) (f1 f2 : Fr) (hrc : ∀ (f : Fr) (r0 : (SL Int)) (r1 : Int) (r2 : Int) (r : ((SL Int) × Bool)), rc r0 r1 r2 = some r → z8 TE (ev TE) 75 [(.d (dl eI r0.1 r0.2)), (xi r1), (xi r2), (.ptr 0 1 0), (.ptr 0 5 0)] ⟨f, [[(1, (.cells ((zb p0).map .d))), (5, (.cells [(.fn 75 [] [(.ptr 0 1 0), (.ptr 0 5 0)])]))], f1, f2]⟩ [] = some (zz r, ⟨f, [[(1, (.cells ((zb p0).map .d))), (5, (.cells [(.fn 75 [] [(.ptr 0 1 0), (.ptr 0 5 0)])]))], f1, f2]⟩, [])) (s8_8 : Int) (x : Int ⊕ (((SL Int) × Int × Bool) ⊕ Int)) (h : zbk k p0 r0 r1 r2 v702 rc s8_8 = some x) : zO TE 75 (blk TE 75 0) (fun s : Int => zPq p0 r0 r1 r2 v702 rc f1 f2 s) (z5q p0 r0 r1 r2 v702 rc f1 f2) s8_8 x := by
 unfold zbk at h
 refine zm h (fun h901 g1 => ?_) (fun h901 g1 => ?_)
 ·refine zm g1 (fun h902 g2 => ?_) (fun h902 g2 => ?_)
  ·cases g2
  ·refine zR g2 (fun h903 g3 => ?_)
   refine zm g3 (fun h904 g4 => ?_) (fun h904 g4 => ?_)
   ·cases g4
   ·refine zj g4 (fun v905 h906 g5 => ?_)
    refine zm g5 (fun h907 g6 => ?_) (fun h907 g6 => ?_)
    ·exact zqo [(75, 7, 3, .q (xi (p0.Counts.1.length : Int))), (75, 7, 4, .q (xb true)), (75, 9, 3, .q (xi (r0.1.length : Int))), (75, 9, 5, .q (xi (r0.1.length : Int))), (75, 9, 6, .q (.d (dl eI r0.1 (ccap r0.2)))), (75, 9, 9, .q (.d (dl eI (r0.1 ++ [s8_8]) .ro))), (75, 9, 12, .q (xi (zJ 1 s8_8))), (75, 9, 15, .i (.tup [(dl eI v905.1.1 v905.1.2), (db v905.2)]) ⟨[], [[(1, (.cells ((zb p0).map .d))), (5, (.cells [(.fn 75 [] [(.ptr 0 1 0), (.ptr 0 5 0)])]))], f1, f2]⟩ []), (75, 10, 0, .q (xb true))] [] g6 (ob (zw zi p0.Counts.1) (ob (o_b h901) (ob (zw eI r0.1) (ob (zw eI r0.1) (ob (z9e (e := eI) (z := 1) r0.1 r0.2) (ob (o_ad (P := TE.P) (φ := fun _ _ => none) (T := 42) (q := (1, [(di 0)])) (c := (ccap r0.2)) (e := eI) r0.1 s8_8 (by kernel_rfl) (fun _ => rfl) h902 h903) (ob (zSc (x := 1) h904) (ob (hrc ([] : Fr) ((r0.1 ++ [s8_8]), .ro) (or64 r1 (zJ 1 s8_8)) r2 _ h906) (ob (o_b h907) ob0))))))))) (by kernel_rfl)
    ·exact zqn (w64 (s8_8 + 1)) [] [(75, 7, 3, .q (xi (p0.Counts.1.length : Int))), (75, 7, 4, .q (xb true)), (75, 9, 3, .q (xi (r0.1.length : Int))), (75, 9, 5, .q (xi (r0.1.length : Int))), (75, 9, 6, .q (.d (dl eI r0.1 (ccap r0.2)))), (75, 9, 9, .q (.d (dl eI (r0.1 ++ [s8_8]) .ro))), (75, 9, 12, .q (xi (zJ 1 s8_8))), (75, 9, 15, .i (.tup [(dl eI v905.1.1 v905.1.2), (db v905.2)]) ⟨[], [[(1, (.cells ((zb p0).map .d))), (5, (.cells [(.fn 75 [] [(.ptr 0 1 0), (.ptr 0 5 0)])]))], f1, f2]⟩ []), (75, 10, 0, .q (xb false))] [] g6 (ob (zw zi p0.Counts.1) (ob (o_b h901) (ob (zw eI r0.1) (ob (zw eI r0.1) (ob (z9e (e := eI) (z := 1) r0.1 r0.2) (ob (o_ad (P := TE.P) (φ := fun _ _ => none) (T := 42) (q := (1, [(di 0)])) (c := (ccap r0.2)) (e := eI) r0.1 s8_8 (by kernel_rfl) (fun _ => rfl) h902 h903) (ob (zSc (x := 1) h904) (ob (hrc ([] : Fr) ((r0.1 ++ [s8_8]), .ro) (or64 r1 (zJ 1 s8_8)) r2 _ h906) (ob (o_b h907) ob0))))))))) (by kernel_rfl)
 ·exact zqo [(75, 7, 3, .q (xi (p0.Counts.1.length : Int))), (75, 7, 4, .q (xb false))] [] g1 (ob (zw zi p0.Counts.1) (ob (o_b h901) ob0)) (by kernel_rfl)
theorem zpp (k : Nat) (p0 : za) (rc : zt3) (f1 f2 : Fr) (hrc : ∀ (f : Fr) (r0 : (SL Int)) (r1 : Int) (r2 : Int) (r : ((SL Int) × Bool)), rc r0 r1 r2 = some r → z8 TE (ev TE) 75 [(.d (dl eI r0.1 r0.2)), (xi r1), (xi r2), (.ptr 0 1 0), (.ptr 0 5 0)] ⟨f, [[(1, (.cells ((zb p0).map .d))), (5, (.cells [(.fn 75 [] [(.ptr 0 1 0), (.ptr 0 5 0)])]))], f1, f2]⟩ [] = some (zz r, ⟨f, [[(1, (.cells ((zb p0).map .d))), (5, (.cells [(.fn 75 [] [(.ptr 0 1 0), (.ptr 0 5 0)])]))], f1, f2]⟩, [])) (r0 : (SL Int)) (r1 r2 : Int) (r : ((SL Int) × Bool)) (h : zCg k p0 rc r0 r1 r2 = some r) : z8 TE (ev TE) 75 [(.d (dl eI r0.1 r0.2)), (xi r1), (xi r2), (.ptr 0 1 0), (.ptr 0 5 0)] ⟨f2, [[(zc 1 (zb p0)), (5, (.cells [(.fn 75 [] [(.ptr 0 1 0), (.ptr 0 5 0)])]))], f1]⟩ [] = some (zz r, ⟨f2, [[(zc 1 (zb p0)), (5, (.cells [(.fn 75 [] [(.ptr 0 1 0), (.ptr 0 5 0)])]))], f1]⟩, []) := by
 unfold zCg at h
 refine zm h (fun h701 g1 => ?_) (fun h701 g1 => ?_)
 ·refine zj g1 (fun v702 h703 g2 => ?_)
  exact zBb (g := (fun r => (zz r, ⟨f2, [[(1, (.cells ((zb p0).map .d))), (5, (.cells [(.fn 75 [] [(.ptr 0 1 0), (.ptr 0 5 0)])]))], f1]⟩, []))) g2 (zgb (n := 80) (V := [(75, 1, 1, .q (xi (r0.1.length : Int))), (75, 1, 3, .q (xb true)), (75, 2, 3, .c (db v702))]) (C := []) (ob (zw eI r0.1) (ob (o_b h701) (ob (zPb k p0 r1 _ h703) ob0))) (by kernel_rfl))
 ·refine zj g1 (fun v702 h703 g2 => ?_)
  refine zj g2 (fun v704 h705 g3 => ?_)
  refine zid g3 (fun v707 hh g4_0 => ?_) (fun v707 hh g4_0 => ?_)
  ·subst hh
   exact zBb (g := (fun r => (zz r, ⟨f2, [[(1, (.cells ((zb p0).map .d))), (5, (.cells [(.fn 75 [] [(.ptr 0 1 0), (.ptr 0 5 0)])]))], f1]⟩, []))) g4_0 (zgb (n := 80) (V := [(75, 1, 1, .q (xi (r0.1.length : Int))), (75, 1, 3, .q (xb false)), (75, 4, 1, .q (xi (r0.1.length : Int)))]) (C := [(75, 2000024, (.nor, zwf p0 r0 r1 r2 (decide ((r0.1.length : Int) > 0)) rc f1 f2 v702)), (75, 0, (.ret, zri p0 r0 r1 r2 v702 rc f1 f2 v707))]) (ob (zw eI r0.1) (ob (o_b h701) (ob (zw eI r0.1) (ob (zFl k p0 r0 r1 r2 (decide ((r0.1.length : Int) > 0)) rc f1 f2 hrc _ h703) (ob (zF (id := 0) (r' := (.ret, zri p0 r0 r1 r2 v702 rc f1 f2 v707)) (zRb (zyl k p0 r0 r1 r2 v702 rc f1 f2 hrc) k _ _ h705) rfl) ob0))))) (by kernel_rfl))
  ·subst hh
   exact zBb (g := (fun r => (zz r, ⟨f2, [[(1, (.cells ((zb p0).map .d))), (5, (.cells [(.fn 75 [] [(.ptr 0 1 0), (.ptr 0 5 0)])]))], f1]⟩, []))) g4_0 (zgb (n := 80) (V := [(75, 1, 1, .q (xi (r0.1.length : Int))), (75, 1, 3, .q (xb false)), (75, 4, 1, .q (xi (r0.1.length : Int)))]) (C := [(75, 2000024, (.nor, zwf p0 r0 r1 r2 (decide ((r0.1.length : Int) > 0)) rc f1 f2 v702)), (75, 0, (.nor, zqi p0 r0 r1 r2 v702 rc f1 f2 v707))]) (ob (zw eI r0.1) (ob (o_b h701) (ob (zw eI r0.1) (ob (zFl k p0 r0 r1 r2 (decide ((r0.1.length : Int) > 0)) rc f1 f2 hrc _ h703) (ob (zF (id := 0) (r' := (.nor, zqi p0 r0 r1 r2 v702 rc f1 f2 v707)) (zRb (zyl k p0 r0 r1 r2 v702 rc f1 f2 hrc) k _ _ h705) rfl) ob0))))) (by kernel_rfl))
noncomputable def zif (p0 : za) (r0 : (SL Int)) (r1 r2 : Int) (cb : Bool) (rc : zt3) (f1 f2 f3 : Fr) (r : zt4) : St := ⟨(zVl r0 r1 r2 r), ⟨[], [[(zc 1 (zb p0)), (5, (.cells [(.fn 75 [] [(.ptr 0 1 0), (.ptr 0 5 0)])]))], f1, f2, f3]⟩, []⟩
theorem zwl (k : Nat) (p0 : za) (r0 : (SL Int)) (r1 r2 : Int) (cb : Bool) (rc : zt3) (f1 f2 f3 : Fr) (hrc : ∀ (f : Fr) (r0 : (SL Int)) (r1 : Int) (r2 : Int) (r : ((SL Int) × Bool)), rc r0 r1 r2 = some r → z8 TE (ev TE) 75 [(.d (dl eI r0.1 r0.2)), (xi r1), (xi r2), (.ptr 0 1 0), (.ptr 0 5 0)] ⟨f, [[(1, (.cells ((zb p0).map .d))), (5, (.cells [(.fn 75 [] [(.ptr 0 1 0), (.ptr 0 5 0)])]))], f1, f2, f3]⟩ [] = some (zz r, ⟨f, [[(1, (.cells ((zb p0).map .d))), (5, (.cells [(.fn 75 [] [(.ptr 0 1 0), (.ptr 0 5 0)])]))], f1, f2, f3]⟩, [])) (r : zt4) (h : z1j k p0 r0 r1 r2 cb rc = some r) : ev TE 75 (cnd TE 75 24) ⟨(zZl r0 r1 r2 cb), ⟨[], [[(zc 1 (zb p0)), (5, (.cells [(.fn 75 [] [(.ptr 0 1 0), (.ptr 0 5 0)])]))], f1, f2, f3]⟩, []⟩ = some (.nor, zif p0 r0 r1 r2 cb rc f1 f2 f3 r) := by
 unfold z1j at h
 refine zm h (fun h1001 g1 => ?_) (fun h1001 g1 => ?_)
 ·subst h1001
  refine zj g1 (fun v1002 h1003 g2 => ?_)
  exact zy (g := fun r => (Ex.nor, zif p0 r0 r1 r2 true rc f1 f2 f3 r)) g2 (zqe [(75, 5, 2, .q (xi (r0.1.length : Int))), (75, 5, 4, .q (.d (.pin [(di v1002)])))] [] (ob (zw eI r0.1) (ob (o_ia (e := eI) 1 h1003 rfl) ob0)) (by kernel_rfl))
 ·subst h1001
  exact zy (g := fun r => (Ex.nor, zif p0 r0 r1 r2 false rc f1 f2 f3 r)) g1 (zqe [] [] ob0 (by kernel_rfl))
noncomputable def zeB (r0 : (SL Int)) (r1 r2 : Int) (v902 : zt4) (s10_8 : Int) : TM := [(0, (.d (dl eI r0.1 r0.2))), (1, (xi r1)), (2, (xi r2)), (3, (.ptr 0 1 0)), (4, (.ptr 0 5 0)), (8, (.d (.sl [] .nil))), (9, (xb false)), (17, (xb false)), (10, (xi v902.1)), (24, (xb v902.2)), (11, (xi s10_8))]
noncomputable def zaq (p0 : za) (r0 : (SL Int)) (r1 r2 : Int) (v902 : zt4) (rc : zt3) (f1 f2 f3 : Fr) (s10_8 : Int) : St := ⟨(zeB r0 r1 r2 v902 s10_8), ⟨[], [[(zc 1 (zb p0)), (5, (.cells [(.fn 75 [] [(.ptr 0 1 0), (.ptr 0 5 0)])]))], f1, f2, f3]⟩, []⟩
noncomputable def zmA (r0 : (SL Int)) (r1 r2 : Int) (r : zt19) (v902 : zt4) : TM := [(0, (.d (dl eI r0.1 r0.2))), (1, (xi r1)), (2, (xi r2)), (3, (.ptr 0 1 0)), (4, (.ptr 0 5 0)), (8, (.d (dl eI r.1.1 r.1.2))), (9, (xb true)), (17, (xb false)), (10, (xi v902.1)), (24, (xb v902.2)), (11, (xi r.2.1)), (37, (xb true)), (12, (.d (dl eI r.1.1 r.1.2))), (13, (xb r.2.2)), (59, (xb true))]
noncomputable def zMh (p0 : za) (r0 : (SL Int)) (r1 r2 : Int) (v902 : zt4) (rc : zt3) (f1 f2 f3 : Fr) (r : zt19) : St := ⟨(zmA r0 r1 r2 r v902), ⟨[], [[(zc 1 (zb p0)), (5, (.cells [(.fn 75 [] [(.ptr 0 1 0), (.ptr 0 5 0)])]))], f1, f2, f3]⟩, []⟩
noncomputable def zCB (r0 : (SL Int)) (r1 r2 : Int) (v902 : zt4) (r : Int) : TM := [(0, (.d (dl eI r0.1 r0.2))), (1, (xi r1)), (2, (xi r2)), (3, (.ptr 0 1 0)), (4, (.ptr 0 5 0)), (8, (.d (.sl [] .nil))), (9, (xb false)), (17, (xb false)), (10, (xi v902.1)), (24, (xb v902.2)), (11, (xi r)), (37, (xb false))]
noncomputable def zZh (p0 : za) (r0 : (SL Int)) (r1 r2 : Int) (v902 : zt4) (rc : zt3) (f1 f2 f3 : Fr) (r : Int) : St := ⟨(zCB r0 r1 r2 v902 r), ⟨[], [[(zc 1 (zb p0)), (5, (.cells [(.fn 75 [] [(.ptr 0 1 0), (.ptr 0 5 0)])]))], f1, f2, f3]⟩, []⟩
noncomputable def zhq (p0 : za) (r0 : (SL Int)) (r1 r2 : Int) (v902 : zt4) (rc : zt3) (f1 f2 f3 : Fr) : (((SL Int) × Int × Bool) ⊕ Int) → Ex × St := Sum.elim (fun r => (.ret, zMh p0 r0 r1 r2 v902 rc f1 f2 f3 r)) (fun r => ((.exit 0), zZh p0 r0 r1 r2 v902 rc f1 f2 f3 r))
theorem zbl (k : Nat) (p0 : za) (r0 : (SL Int)) (r1 r2 : Int) (v902 : zt4) (rc : zt3) (f1 f2 f3 : Fr) (hrc : ∀ (f : Fr) (r0 : (SL Int)) (r1 : Int) (r2 : Int) (r : ((SL Int) × Bool)), rc r0 r1 r2 = some r → z8 TE (ev TE) 75 [(.d (dl eI r0.1 r0.2)), (xi r1), (xi r2), (.ptr 0 1 0), (.ptr 0 5 0)] ⟨f, [[(1, (.cells ((zb p0).map .d))), (5, (.cells [(.fn 75 [] [(.ptr 0 1 0), (.ptr 0 5 0)])]))], f1, f2, f3]⟩ [] = some (zz r, ⟨f, [[(1, (.cells ((zb p0).map .d))), (5, (.cells [(.fn 75 [] [(.ptr 0 1 0), (.ptr 0 5 0)])]))], f1, f2, f3]⟩, [])) (s10_8 : Int) (x : Int ⊕ (((SL Int) × Int × Bool) ⊕ Int)) (h : zAj k p0 r0 r1 r2 v902 rc s10_8 = some x) : zO TE 75 (blk TE 75 0) (fun s : Int => zaq p0 r0 r1 r2 v902 rc f1 f2 f3 s) (zhq p0 r0 r1 r2 v902 rc f1 f2 f3) s10_8 x := by
 unfold zAj at h
 refine zm h (fun h1101 g1 => ?_) (fun h1101 g1 => ?_)
 ·refine zm g1 (fun h1102 g2 => ?_) (fun h1102 g2 => ?_)
  ·cases g2
  ·refine zR g2 (fun h1103 g3 => ?_)
   refine zm g3 (fun h1104 g4 => ?_) (fun h1104 g4 => ?_)
   ·cases g4
   ·refine zj g4 (fun v1105 h1106 g5 => ?_)
    refine zm g5 (fun h1107 g6 => ?_) (fun h1107 g6 => ?_)
    ·exact zqo [(75, 7, 3, .q (xi (p0.Counts.1.length : Int))), (75, 7, 4, .q (xb true)), (75, 9, 3, .q (xi (r0.1.length : Int))), (75, 9, 5, .q (xi (r0.1.length : Int))), (75, 9, 6, .q (.d (dl eI r0.1 (ccap r0.2)))), (75, 9, 9, .q (.d (dl eI (r0.1 ++ [s10_8]) .ro))), (75, 9, 12, .q (xi (zJ 1 s10_8))), (75, 9, 15, .i (.tup [(dl eI v1105.1.1 v1105.1.2), (db v1105.2)]) ⟨[], [[(1, (.cells ((zb p0).map .d))), (5, (.cells [(.fn 75 [] [(.ptr 0 1 0), (.ptr 0 5 0)])]))], f1, f2, f3]⟩ []), (75, 10, 0, .q (xb true))] [] g6 (ob (zw zi p0.Counts.1) (ob (o_b h1101) (ob (zw eI r0.1) (ob (zw eI r0.1) (ob (z9e (e := eI) (z := 1) r0.1 r0.2) (ob (o_ad (P := TE.P) (φ := fun _ _ => none) (T := 42) (q := (1, [(di 0)])) (c := (ccap r0.2)) (e := eI) r0.1 s10_8 (by kernel_rfl) (fun _ => rfl) h1102 h1103) (ob (zSc (x := 1) h1104) (ob (hrc ([] : Fr) ((r0.1 ++ [s10_8]), .ro) (or64 r1 (zJ 1 s10_8)) r2 _ h1106) (ob (o_b h1107) ob0))))))))) (by kernel_rfl)
    ·exact zqn (w64 (s10_8 + 1)) [] [(75, 7, 3, .q (xi (p0.Counts.1.length : Int))), (75, 7, 4, .q (xb true)), (75, 9, 3, .q (xi (r0.1.length : Int))), (75, 9, 5, .q (xi (r0.1.length : Int))), (75, 9, 6, .q (.d (dl eI r0.1 (ccap r0.2)))), (75, 9, 9, .q (.d (dl eI (r0.1 ++ [s10_8]) .ro))), (75, 9, 12, .q (xi (zJ 1 s10_8))), (75, 9, 15, .i (.tup [(dl eI v1105.1.1 v1105.1.2), (db v1105.2)]) ⟨[], [[(1, (.cells ((zb p0).map .d))), (5, (.cells [(.fn 75 [] [(.ptr 0 1 0), (.ptr 0 5 0)])]))], f1, f2, f3]⟩ []), (75, 10, 0, .q (xb false))] [] g6 (ob (zw zi p0.Counts.1) (ob (o_b h1101) (ob (zw eI r0.1) (ob (zw eI r0.1) (ob (z9e (e := eI) (z := 1) r0.1 r0.2) (ob (o_ad (P := TE.P) (φ := fun _ _ => none) (T := 42) (q := (1, [(di 0)])) (c := (ccap r0.2)) (e := eI) r0.1 s10_8 (by kernel_rfl) (fun _ => rfl) h1102 h1103) (ob (zSc (x := 1) h1104) (ob (hrc ([] : Fr) ((r0.1 ++ [s10_8]), .ro) (or64 r1 (zJ 1 s10_8)) r2 _ h1106) (ob (o_b h1107) ob0))))))))) (by kernel_rfl)
 ·exact zqo [(75, 7, 3, .q (xi (p0.Counts.1.length : Int))), (75, 7, 4, .q (xb false))] [] g1 (ob (zw zi p0.Counts.1) (ob (o_b h1101) ob0)) (by kernel_rfl)
theorem zSp (k : Nat) (p0 : za) (rc : zt3) (f1 f2 f3 : Fr) (hrc : ∀ (f : Fr) (r0 : (SL Int)) (r1 : Int) (r2 : Int) (r : ((SL Int) × Bool)), rc r0 r1 r2 = some r → z8 TE (ev TE) 75 [(.d (dl eI r0.1 r0.2)), (xi r1), (xi r2), (.ptr 0 1 0), (.ptr 0 5 0)] ⟨f, [[(1, (.cells ((zb p0).map .d))), (5, (.cells [(.fn 75 [] [(.ptr 0 1 0), (.ptr 0 5 0)])]))], f1, f2, f3]⟩ [] = some (zz r, ⟨f, [[(1, (.cells ((zb p0).map .d))), (5, (.cells [(.fn 75 [] [(.ptr 0 1 0), (.ptr 0 5 0)])]))], f1, f2, f3]⟩, [])) (r0 : (SL Int)) (r1 r2 : Int) (r : ((SL Int) × Bool)) (h : zzg k p0 rc r0 r1 r2 = some r) : z8 TE (ev TE) 75 [(.d (dl eI r0.1 r0.2)), (xi r1), (xi r2), (.ptr 0 1 0), (.ptr 0 5 0)] ⟨f3, [[(zc 1 (zb p0)), (5, (.cells [(.fn 75 [] [(.ptr 0 1 0), (.ptr 0 5 0)])]))], f1, f2]⟩ [] = some (zz r, ⟨f3, [[(zc 1 (zb p0)), (5, (.cells [(.fn 75 [] [(.ptr 0 1 0), (.ptr 0 5 0)])]))], f1, f2]⟩, []) := by
 unfold zzg at h
 refine zm h (fun h901 g1 => ?_) (fun h901 g1 => ?_)
 ·refine zj g1 (fun v902 h903 g2 => ?_)
  exact zBb (g := (fun r => (zz r, ⟨f3, [[(1, (.cells ((zb p0).map .d))), (5, (.cells [(.fn 75 [] [(.ptr 0 1 0), (.ptr 0 5 0)])]))], f1, f2]⟩, []))) g2 (zgb (n := 80) (V := [(75, 1, 1, .q (xi (r0.1.length : Int))), (75, 1, 3, .q (xb true)), (75, 2, 3, .c (db v902))]) (C := []) (ob (zw eI r0.1) (ob (o_b h901) (ob (zPb k p0 r1 _ h903) ob0))) (by kernel_rfl))
 ·refine zj g1 (fun v902 h903 g2 => ?_)
  refine zj g2 (fun v904 h905 g3 => ?_)
  refine zid g3 (fun v907 hh g4_0 => ?_) (fun v907 hh g4_0 => ?_)
  ·subst hh
   exact zBb (g := (fun r => (zz r, ⟨f3, [[(1, (.cells ((zb p0).map .d))), (5, (.cells [(.fn 75 [] [(.ptr 0 1 0), (.ptr 0 5 0)])]))], f1, f2]⟩, []))) g4_0 (zgb (n := 80) (V := [(75, 1, 1, .q (xi (r0.1.length : Int))), (75, 1, 3, .q (xb false)), (75, 4, 1, .q (xi (r0.1.length : Int)))]) (C := [(75, 2000024, (.nor, zif p0 r0 r1 r2 (decide ((r0.1.length : Int) > 0)) rc f1 f2 f3 v902)), (75, 0, (.ret, zMh p0 r0 r1 r2 v902 rc f1 f2 f3 v907))]) (ob (zw eI r0.1) (ob (o_b h901) (ob (zw eI r0.1) (ob (zwl k p0 r0 r1 r2 (decide ((r0.1.length : Int) > 0)) rc f1 f2 f3 hrc _ h903) (ob (zF (id := 0) (r' := (.ret, zMh p0 r0 r1 r2 v902 rc f1 f2 f3 v907)) (zRb (zbl k p0 r0 r1 r2 v902 rc f1 f2 f3 hrc) k _ _ h905) rfl) ob0))))) (by kernel_rfl))
  ·subst hh
   exact zBb (g := (fun r => (zz r, ⟨f3, [[(1, (.cells ((zb p0).map .d))), (5, (.cells [(.fn 75 [] [(.ptr 0 1 0), (.ptr 0 5 0)])]))], f1, f2]⟩, []))) g4_0 (zgb (n := 80) (V := [(75, 1, 1, .q (xi (r0.1.length : Int))), (75, 1, 3, .q (xb false)), (75, 4, 1, .q (xi (r0.1.length : Int)))]) (C := [(75, 2000024, (.nor, zif p0 r0 r1 r2 (decide ((r0.1.length : Int) > 0)) rc f1 f2 f3 v902)), (75, 0, (.nor, zZh p0 r0 r1 r2 v902 rc f1 f2 f3 v907))]) (ob (zw eI r0.1) (ob (o_b h901) (ob (zw eI r0.1) (ob (zwl k p0 r0 r1 r2 (decide ((r0.1.length : Int) > 0)) rc f1 f2 f3 hrc _ h903) (ob (zF (id := 0) (r' := (.nor, zZh p0 r0 r1 r2 v902 rc f1 f2 f3 v907)) (zRb (zbl k p0 r0 r1 r2 v902 rc f1 f2 f3 hrc) k _ _ h905) rfl) ob0))))) (by kernel_rfl))
noncomputable def zTe (p0 : za) (r0 : (SL Int)) (r1 r2 : Int) (cb : Bool) (rc : zt3) (f1 f2 f3 f4 : Fr) (r : zt4) : St := ⟨(zVl r0 r1 r2 r), ⟨[], [[(zc 1 (zb p0)), (5, (.cells [(.fn 75 [] [(.ptr 0 1 0), (.ptr 0 5 0)])]))], f1, f2, f3, f4]⟩, []⟩
theorem zTk (k : Nat) (p0 : za) (r0 : (SL Int)) (r1 r2 : Int) (cb : Bool) (rc : zt3) (f1 f2 f3 f4 : Fr) (hrc : ∀ (f : Fr) (r0 : (SL Int)) (r1 : Int) (r2 : Int) (r : ((SL Int) × Bool)), rc r0 r1 r2 = some r → z8 TE (ev TE) 75 [(.d (dl eI r0.1 r0.2)), (xi r1), (xi r2), (.ptr 0 1 0), (.ptr 0 5 0)] ⟨f, [[(1, (.cells ((zb p0).map .d))), (5, (.cells [(.fn 75 [] [(.ptr 0 1 0), (.ptr 0 5 0)])]))], f1, f2, f3, f4]⟩ [] = some (zz r, ⟨f, [[(1, (.cells ((zb p0).map .d))), (5, (.cells [(.fn 75 [] [(.ptr 0 1 0), (.ptr 0 5 0)])]))], f1, f2, f3, f4]⟩, [])) (r : zt4) (h : zbj k p0 r0 r1 r2 cb rc = some r) : ev TE 75 (cnd TE 75 24) ⟨(zZl r0 r1 r2 cb), ⟨[], [[(zc 1 (zb p0)), (5, (.cells [(.fn 75 [] [(.ptr 0 1 0), (.ptr 0 5 0)])]))], f1, f2, f3, f4]⟩, []⟩ = some (.nor, zTe p0 r0 r1 r2 cb rc f1 f2 f3 f4 r) := by
 unfold zbj at h
 refine zm h (fun h1201 g1 => ?_) (fun h1201 g1 => ?_)
 ·subst h1201
  refine zj g1 (fun v1202 h1203 g2 => ?_)
  exact zy (g := fun r => (Ex.nor, zTe p0 r0 r1 r2 true rc f1 f2 f3 f4 r)) g2 (zqe [(75, 5, 2, .q (xi (r0.1.length : Int))), (75, 5, 4, .q (.d (.pin [(di v1202)])))] [] (ob (zw eI r0.1) (ob (o_ia (e := eI) 1 h1203 rfl) ob0)) (by kernel_rfl))
 ·subst h1201
  exact zy (g := fun r => (Ex.nor, zTe p0 r0 r1 r2 false rc f1 f2 f3 f4 r)) g1 (zqe [] [] ob0 (by kernel_rfl))
noncomputable def zEA (r0 : (SL Int)) (r1 r2 : Int) (v1102 : zt4) (s12_8 : Int) : TM := [(0, (.d (dl eI r0.1 r0.2))), (1, (xi r1)), (2, (xi r2)), (3, (.ptr 0 1 0)), (4, (.ptr 0 5 0)), (8, (.d (.sl [] .nil))), (9, (xb false)), (17, (xb false)), (10, (xi v1102.1)), (24, (xb v1102.2)), (11, (xi s12_8))]
noncomputable def zoq (p0 : za) (r0 : (SL Int)) (r1 r2 : Int) (v1102 : zt4) (rc : zt3) (f1 f2 f3 f4 : Fr) (s12_8 : Int) : St := ⟨(zEA r0 r1 r2 v1102 s12_8), ⟨[], [[(zc 1 (zb p0)), (5, (.cells [(.fn 75 [] [(.ptr 0 1 0), (.ptr 0 5 0)])]))], f1, f2, f3, f4]⟩, []⟩
noncomputable def zZz (r0 : (SL Int)) (r1 r2 : Int) (r : zt19) (v1102 : zt4) : TM := [(0, (.d (dl eI r0.1 r0.2))), (1, (xi r1)), (2, (xi r2)), (3, (.ptr 0 1 0)), (4, (.ptr 0 5 0)), (8, (.d (dl eI r.1.1 r.1.2))), (9, (xb true)), (17, (xb false)), (10, (xi v1102.1)), (24, (xb v1102.2)), (11, (xi r.2.1)), (37, (xb true)), (12, (.d (dl eI r.1.1 r.1.2))), (13, (xb r.2.2)), (59, (xb true))]
noncomputable def zOh (p0 : za) (r0 : (SL Int)) (r1 r2 : Int) (v1102 : zt4) (rc : zt3) (f1 f2 f3 f4 : Fr) (r : zt19) : St := ⟨(zZz r0 r1 r2 r v1102), ⟨[], [[(zc 1 (zb p0)), (5, (.cells [(.fn 75 [] [(.ptr 0 1 0), (.ptr 0 5 0)])]))], f1, f2, f3, f4]⟩, []⟩
noncomputable def z7z (r0 : (SL Int)) (r1 r2 : Int) (v1102 : zt4) (r : Int) : TM := [(0, (.d (dl eI r0.1 r0.2))), (1, (xi r1)), (2, (xi r2)), (3, (.ptr 0 1 0)), (4, (.ptr 0 5 0)), (8, (.d (.sl [] .nil))), (9, (xb false)), (17, (xb false)), (10, (xi v1102.1)), (24, (xb v1102.2)), (11, (xi r)), (37, (xb false))]
noncomputable def z4h (p0 : za) (r0 : (SL Int)) (r1 r2 : Int) (v1102 : zt4) (rc : zt3) (f1 f2 f3 f4 : Fr) (r : Int) : St := ⟨(z7z r0 r1 r2 v1102 r), ⟨[], [[(zc 1 (zb p0)), (5, (.cells [(.fn 75 [] [(.ptr 0 1 0), (.ptr 0 5 0)])]))], f1, f2, f3, f4]⟩, []⟩
noncomputable def zeq (p0 : za) (r0 : (SL Int)) (r1 r2 : Int) (v1102 : zt4) (rc : zt3) (f1 f2 f3 f4 : Fr) : (((SL Int) × Int × Bool) ⊕ Int) → Ex × St := Sum.elim (fun r => (.ret, zOh p0 r0 r1 r2 v1102 rc f1 f2 f3 f4 r)) (fun r => ((.exit 0), z4h p0 r0 r1 r2 v1102 rc f1 f2 f3 f4 r))
end Go.AM

