/- The statement ShelfWrongs holds for every input that its row lets in. Conditions: none. -/
import Derived.Test.YtfoohlabifhplaaDoorC
set_option linter.all false
set_option linter.unusedVariables false
set_option maxRecDepth 100000
namespace Go.AM
open Go Go.Proofs
def zsp (n : Nat) : Nat × X := (n, .ptr 0 n 0)
def zc (n : Nat) (l : List D) : Nat × O := (n, .cells (l.map .d))
section
variable {E : Env} {fid : Nat} {c : Code}
theorem zqn {S R : Type} {S0 : S → St} {R0 : R → Ex × St} {s : S} {x : S ⊕ R} (s' : S) (rs : List Nat) (V : Ovs) (C : Cuts) (h : some (Sum.inl s') = some x) {P : List Prop} (hP : All P) (hr : z9k E V C rs 80 fid c (S0 s) = some (.inl (S0 s'), P)) : zO E fid c S0 R0 s x := z1A h hP hr
theorem zqo {S R : Type} {S0 : S → St} {R0 : R → Ex × St} {s : S} {r : R} {x : S ⊕ R} (V : Ovs) (C : Cuts) (h : some (Sum.inr r) = some x) {P : List Prop} (hP : All P) (hr : z9k E V C [] 80 fid c (S0 s) = some (.inr (R0 r), P)) : zO E fid c S0 R0 s x := zkB h hP hr
theorem zEc {A0 R : Type} {S0 : A0 → St} {R0 : R → Ex × St} {W : A0 → Option ((A0) ⊕ R)} (h : ∀ b0 x, W b0 = some x → zO E fid c S0 R0 b0 x) : ∀ (m : Nat) (s : A0) (r : R), iter (fun s => W s) m s = some r → ev E fid c (S0 s) = some (R0 r) := zKk fun s x e => h s x e
theorem zfb {A0 A1 R : Type} {S0 : A0 × A1 → St} {R0 : R → Ex × St} {W : A0 → A1 → Option ((A0 × A1) ⊕ R)} (h : ∀ b0 b1 x, W b0 b1 = some x → zO E fid c S0 R0 (b0, b1) x) : ∀ (m : Nat) (s : A0 × A1) (r : R), iter (fun s => W s.1 s.2) m s = some r → ev E fid c (S0 s) = some (R0 r) := zKk fun s x e => h s.1 s.2 x e
theorem zjB {A0 A1 A2 R : Type} {S0 : A0 × A1 × A2 → St} {R0 : R → Ex × St} {W : A0 → A1 → A2 → Option ((A0 × A1 × A2) ⊕ R)} (h : ∀ b0 b1 b2 x, W b0 b1 b2 = some x → zO E fid c S0 R0 (b0, b1, b2) x) : ∀ (m : Nat) (s : A0 × A1 × A2) (r : R), iter (fun s => W s.1 s.2.1 s.2.2) m s = some r → ev E fid c (S0 s) = some (R0 r) := zKk fun s x e => h s.1 s.2.1 s.2.2 x e
theorem ztB {A0 A1 A2 A3 R : Type} {S0 : A0 × A1 × A2 × A3 → St} {R0 : R → Ex × St} {W : A0 → A1 → A2 → A3 → Option ((A0 × A1 × A2 × A3) ⊕ R)} (h : ∀ b0 b1 b2 b3 x, W b0 b1 b2 b3 = some x → zO E fid c S0 R0 (b0, b1, b2, b3) x) : ∀ (m : Nat) (s : A0 × A1 × A2 × A3) (r : R), iter (fun s => W s.1 s.2.1 s.2.2.1 s.2.2.2) m s = some r → ev E fid c (S0 s) = some (R0 r) := zKk fun s x e => h s.1 s.2.1 s.2.2.1 s.2.2.2 x e
theorem zhF {A0 A1 A2 A3 A4 R : Type} {S0 : A0 × A1 × A2 × A3 × A4 → St} {R0 : R → Ex × St} {W : A0 → A1 → A2 → A3 → A4 → Option ((A0 × A1 × A2 × A3 × A4) ⊕ R)} (h : ∀ b0 b1 b2 b3 b4 x, W b0 b1 b2 b3 b4 = some x → zO E fid c S0 R0 (b0, b1, b2, b3, b4) x) : ∀ (m : Nat) (s : A0 × A1 × A2 × A3 × A4) (r : R), iter (fun s => W s.1 s.2.1 s.2.2.1 s.2.2.2.1 s.2.2.2.2) m s = some r → ev E fid c (S0 s) = some (R0 r) := zKk fun s x e => h s.1 s.2.1 s.2.2.1 s.2.2.2.1 s.2.2.2.2 x e
theorem zgF {A0 A1 A2 A3 A4 A5 R : Type} {S0 : A0 × A1 × A2 × A3 × A4 × A5 → St} {R0 : R → Ex × St} {W : A0 → A1 → A2 → A3 → A4 → A5 → Option ((A0 × A1 × A2 × A3 × A4 × A5) ⊕ R)} (h : ∀ b0 b1 b2 b3 b4 b5 x, W b0 b1 b2 b3 b4 b5 = some x → zO E fid c S0 R0 (b0, b1, b2, b3, b4, b5) x) : ∀ (m : Nat) (s : A0 × A1 × A2 × A3 × A4 × A5) (r : R), iter (fun s => W s.1 s.2.1 s.2.2.1 s.2.2.2.1 s.2.2.2.2.1 s.2.2.2.2.2) m s = some r → ev E fid c (S0 s) = some (R0 r) := zKk fun s x e => h s.1 s.2.1 s.2.2.1 s.2.2.2.1 s.2.2.2.2.1 s.2.2.2.2.2 x e
theorem zqe {st : St} {r : Ex × St} {P : List Prop} (V : Ovs) (C : Cuts) (hP : All P) (h : evV E V C 80 fid c st = some (r, P)) : ev E fid c st = some r := zyB hP h
theorem zqc {f : Nat} {ds : List D} {d : D} {P : List Prop} (V : Ovs) (C : Cuts) (hP : All P) (h : z8u E V C 80 f ds = some (d, P)) : zM E (ev E) f ds = some d := zBz hP h
theorem zqr {f : Nat} {ds : List D} {d : D} {P : List Prop} (V : Ovs) (C : Cuts) (res : List D) (hP : All P) (h : zCt E V C 80 f ds res = some (d, P)) : zM E (ev E) f ds = some d := zQy hP h
end
section
variable {α : Type}
theorem zqa (T : TypeId) (bt lv s : Nat) (n : Int) (b : Bool) (z : Nat) (e : α → List D) (l : List α) (w : Bool) {y : α} (ha : arT TE.P T = none) (hs : slT TE.P T = some (z, bt)) (h : idx l n = some y) : iaX TE.P (fun _ _ => some (rowO b z e l w)) T (.row lv s l.length) (xi n) = some (.rp lv s l.length n.toNat 0) := zTD ha hs h
theorem zql (T : TypeId) (q : Nat × Bool) (lv s o : Nat) (n : Int) (x : X) (b : Bool) (z : Nat) (e : α → List D) (l : List α) (w : Bool) {y : α} (ht : tyT TE.P T = some q) (h : idx l n = some y) (hx : (zyj q.2 q.1 ((e y).drop o)).map X.d = some x) : ldX TE.P (fun _ _ => some (rowO b z e l w)) T (.rp lv s l.length n.toNat o) = some x := z3C ht h hx
theorem zqf (T : TypeId) (q : Nat × Nat × Bool) (lv s o f : Nat) (n : Int) (b : Bool) (z : Nat) (e : α → List D) (l : List α) (w : Bool) {y : α} (hf : fdT TE.P T f = some q) (hq : q.2.1 ≠ 0) (h : idx l n = some y) : faX TE.P (fun _ _ => some (rowO b z e l w)) T (.rp lv s l.length n.toNat o) f = some (.rp lv s l.length n.toNat (o + q.1)) := zRC hf hq h
end
theorem zI (k : Nat) (p0 p1 p2 : Int) (r : Bool) (h : z8 k p0 p1 p2 = some r) : zM TE (ev TE) 60 [(di p0), (di p1), (di p2)] = some (zWk r) := by
 unfold z8 at h
 refine zl h (fun h1 g1 => ?_) (fun h1 g1 => ?_)
 ·exact zK (g := zWk) g1 (zqc [(60, 1, 3, .q (xb true))] [] (ob (o_b h1) ob0) (by kernel_rfl))
 ·exact zK (g := zWk) g1 (zqc [(60, 1, 3, .q (xb false))] [] (ob (o_b h1) ob0) (by kernel_rfl))
theorem zvg (k : Nat) (p0 : zj) (p1 p2 : Int) (r : Bool) (h : zXe k p0 p1 p2 = some r) : zM TE (ev TE) 61 [(.agg [(di p0.Low), (di p0.High)]), (di p1), (di p2)] = some (z2i r) := by
 unfold zXe at h
 refine zl h (fun h1 g1 => ?_) (fun h1 g1 => ?_)
 ·refine zl g1 (fun h2 g2 => ?_) (fun h2 g2 => ?_)
  ·exact zK (g := z2i) g2 (zqc [(61, 1, 4, .q (xb true)), (61, 1, 11, .q (xb true))] [] (ob (o_b h1) (ob (o_b h2) ob0)) (by kernel_rfl))
  ·exact zK (g := z2i) g2 (zqc [(61, 1, 4, .q (xb true)), (61, 1, 11, .q (xb false))] [] (ob (o_b h1) (ob (o_b h2) ob0)) (by kernel_rfl))
 ·exact zK (g := z2i) g1 (zqc [(61, 1, 4, .q (xb false))] [] (ob (o_b h1) ob0) (by kernel_rfl))
noncomputable def zk1 (p0 : za) (r : Bool) : TM := [(0, (.d (.agg (zb p0)))), (zsp 1), (2, (xi 0)), (3, (xb r))]
noncomputable def zMc (p0 : za) (r : Bool) : St := ⟨(zk1 p0 r), ⟨[(zc 1 (zb p0))], []⟩, []⟩
theorem zsm (k : Nat) (p0 : za) (r : Bool) (h : z8g k p0 = some r) : ev TE 18 (rgn TE 18 1) ⟨[(0, (.d (.agg (zb p0)))), (zsp 1), (2, (xi 0))], ⟨[(zc 1 (zb p0))], []⟩, []⟩ = some (.nor, zMc p0 r) := by
 unfold z8g at h
 refine zk h (fun v201 h202 g1 => ?_)
 refine zl g1 (fun h203 g2 => ?_) (fun h203 g2 => ?_)
 ·refine zk g2 (fun v204 h205 g3 => ?_)
  refine zl g3 (fun h206 g4 => ?_) (fun h206 g4 => ?_)
  ·refine zl g4 (fun h207 g5 => ?_) (fun h207 g5 => ?_)
   ·refine zl g5 (fun h208 g6 => ?_) (fun h208 g6 => ?_)
    ·exact zB (g := fun r => (Ex.nor, zMc p0 r)) g6 (zqe [(18, 1, 2, .c (db v201)), (18, 1, 3, .q (xb true)), (18, 1, 6, .q (xi (p0.Shelves.1.length : Int))), (18, 1, 7, .c (db v204)), (18, 1, 9, .q (xb true)), (18, 1, 12, .q (xi (p0.Moves.1.length : Int))), (18, 1, 15, .q (xb true)), (18, 1, 18, .q (xi (p0.Deliveries.1.length : Int))), (18, 1, 21, .q (xb true)), (18, 1, 24, .q (xi (p0.Counts.1.length : Int)))] [] (ob (zI k p0.Days 1 12 _ h202) (ob (o_b h203) (ob (zx zm p0.Shelves.1) (ob (zI k (p0.Shelves.1.length : Int) 1 4 _ h205) (ob (o_b h206) (ob (zx zo p0.Moves.1) (ob (o_b h207) (ob (zx zh p0.Deliveries.1) (ob (o_b h208) (ob (zx zi p0.Counts.1) ob0)))))))))) (by kernel_rfl))
    ·exact zB (g := fun r => (Ex.nor, zMc p0 r)) g6 (zqe [(18, 1, 2, .c (db v201)), (18, 1, 3, .q (xb true)), (18, 1, 6, .q (xi (p0.Shelves.1.length : Int))), (18, 1, 7, .c (db v204)), (18, 1, 9, .q (xb true)), (18, 1, 12, .q (xi (p0.Moves.1.length : Int))), (18, 1, 15, .q (xb true)), (18, 1, 18, .q (xi (p0.Deliveries.1.length : Int))), (18, 1, 21, .q (xb false))] [] (ob (zI k p0.Days 1 12 _ h202) (ob (o_b h203) (ob (zx zm p0.Shelves.1) (ob (zI k (p0.Shelves.1.length : Int) 1 4 _ h205) (ob (o_b h206) (ob (zx zo p0.Moves.1) (ob (o_b h207) (ob (zx zh p0.Deliveries.1) (ob (o_b h208) ob0))))))))) (by kernel_rfl))
   ·exact zB (g := fun r => (Ex.nor, zMc p0 r)) g5 (zqe [(18, 1, 2, .c (db v201)), (18, 1, 3, .q (xb true)), (18, 1, 6, .q (xi (p0.Shelves.1.length : Int))), (18, 1, 7, .c (db v204)), (18, 1, 9, .q (xb true)), (18, 1, 12, .q (xi (p0.Moves.1.length : Int))), (18, 1, 15, .q (xb false))] [] (ob (zI k p0.Days 1 12 _ h202) (ob (o_b h203) (ob (zx zm p0.Shelves.1) (ob (zI k (p0.Shelves.1.length : Int) 1 4 _ h205) (ob (o_b h206) (ob (zx zo p0.Moves.1) (ob (o_b h207) ob0))))))) (by kernel_rfl))
  ·exact zB (g := fun r => (Ex.nor, zMc p0 r)) g4 (zqe [(18, 1, 2, .c (db v201)), (18, 1, 3, .q (xb true)), (18, 1, 6, .q (xi (p0.Shelves.1.length : Int))), (18, 1, 7, .c (db v204)), (18, 1, 9, .q (xb false))] [] (ob (zI k p0.Days 1 12 _ h202) (ob (o_b h203) (ob (zx zm p0.Shelves.1) (ob (zI k (p0.Shelves.1.length : Int) 1 4 _ h205) (ob (o_b h206) ob0))))) (by kernel_rfl))
 ·exact zB (g := fun r => (Ex.nor, zMc p0 r)) g2 (zqe [(18, 1, 2, .c (db v201)), (18, 1, 3, .q (xb false))] [] (ob (zI k p0.Days 1 12 _ h202) (ob (o_b h203) ob0)) (by kernel_rfl))
noncomputable def zk2 (p0 : za) (r : Bool) (s2_9 : Int) : TM := zk1 p0 r ++ [(40, (.d (dl zm p0.Shelves.1 p0.Shelves.2))), (41, (xi (p0.Shelves.1.length : Int))), (42, (xi s2_9)), (43, (xb true)), (zsp 5)]
noncomputable def z6f (p0 : za) (s2_6 : Bool) (s2_9 : Int) (v402 : zV) (r : Bool) : St := ⟨(zk2 p0 r s2_9), ⟨[(zc 1 (zb p0)), (zc 5 (zm v402))], []⟩, []⟩
noncomputable def zk3 (p0 : za) (s2_6 : Bool) (s2_9 : Int) : TM := [(0, (.d (.agg (zb p0)))), (zsp 1), (2, (xi 0)), (3, (xb s2_6)), (40, (.d (dl zm p0.Shelves.1 p0.Shelves.2))), (41, (xi (p0.Shelves.1.length : Int))), (42, (xi s2_9)), (43, (xb true)), (zsp 5)]
theorem zSr (k : Nat) (p0 : za) (s2_6 : Bool) (s2_9 : Int) (v402 : zV) (r : Bool) (h : zth k p0 s2_6 s2_9 v402 = some r) : ev TE 18 (rgn TE 18 5) ⟨(zk3 p0 s2_6 s2_9), ⟨[(zc 1 (zb p0)), (zc 5 (zm v402))], []⟩, []⟩ = some (.nor, z6f p0 s2_6 s2_9 v402 r) := by
 unfold zth at h
 refine zl h (fun h501 g1 => ?_) (fun h501 g1 => ?_)
 ·refine zk g1 (fun v502 h503 g2 => ?_)
  refine zl g2 (fun h504 g3 => ?_) (fun h504 g3 => ?_)
  ·refine zk g3 (fun v505 h506 g4 => ?_)
   exact zB (g := fun r => (Ex.nor, z6f p0 s2_6 s2_9 v402 r)) g4 (zqe [(18, 5, 1, .q (xb true)), (18, 5, 4, .c (db v502)), (18, 5, 6, .q (xb true)), (18, 5, 11, .c (db v505))] [] (ob (o_b h501) (ob (zI k v402.Room 1 60 _ h503) (ob (o_b h504) (ob (zvg k v402.Begin 0 v402.Room _ h506) ob0)))) (by kernel_rfl))
  ·exact zB (g := fun r => (Ex.nor, z6f p0 s2_6 s2_9 v402 r)) g3 (zqe [(18, 5, 1, .q (xb true)), (18, 5, 4, .c (db v502)), (18, 5, 6, .q (xb false))] [] (ob (o_b h501) (ob (zI k v402.Room 1 60 _ h503) (ob (o_b h504) ob0))) (by kernel_rfl))
 ·exact zB (g := fun r => (Ex.nor, z6f p0 s2_6 s2_9 v402 r)) g1 (zqe [(18, 5, 1, .q (xb false))] [] (ob (o_b h501) ob0) (by kernel_rfl))
noncomputable def zk4 (p0 : za) (s2_6 : Bool) (s2_9 : Int) : TM := [(0, (.d (.agg (zb p0)))), (zsp 1), (2, (xi 0)), (3, (xb s2_6)), (40, (.d (dl zm p0.Shelves.1 p0.Shelves.2))), (41, (xi (p0.Shelves.1.length : Int))), (42, (xi s2_9))]
noncomputable def zes (p0 : za) (s2_6 : Bool) (s2_9 : Int) : St := ⟨(zk4 p0 s2_6 s2_9), ⟨[(zc 1 (zb p0))], []⟩, []⟩
noncomputable def zk5 (p0 : za) (r : zt1) : TM := [(0, (.d (.agg (zb p0)))), (zsp 1), (2, (xi 0)), (3, (xb r.1)), (40, (.d (dl zm p0.Shelves.1 p0.Shelves.2))), (41, (xi (p0.Shelves.1.length : Int))), (42, (xi r.2)), (43, (xb false))]
noncomputable def zsf (p0 : za) (r : zt1) : St := ⟨(zk5 p0 r), ⟨[(zc 1 (zb p0))], []⟩, []⟩
noncomputable def zBs (p0 : za) : (Bool × Int) → Ex × St := fun r => ((.exit 0), zsf p0 r)
theorem zmm (k : Nat) (p0 : za) (s2_6 : Bool) (s2_9 : Int) (x : (Bool × Int) ⊕ (Bool × Int)) (h : zLd k p0 s2_6 s2_9 = some x) : zO TE 18 (blk TE 18 0) (fun s : (Bool × Int) => zes p0 s.1 s.2) (zBs p0) (s2_6, s2_9) x := by
 unfold zLd at h
 refine zl h (fun h401 g1 => ?_) (fun h401 g1 => ?_)
 ·refine zk g1 (fun v402 h403 g2 => ?_)
  refine zk g2 (fun v404 h405 g3 => ?_)
  exact zqn (v404, (w64 (s2_9 + 1))) [] [(18, 3, 0, .q (xb true)), (18, 4, 0, .q (.d (.pin (zm v402))))] [(18, 1000005, (.nor, z6f p0 s2_6 s2_9 v402 v404))] g3 (ob (o_b h401) (ob (o_ia (e := zm) 3 h403 rfl) (ob (zSr k p0 s2_6 s2_9 v402 _ h405) ob0))) (by kernel_rfl)
 ·exact zqo [(18, 3, 0, .q (xb false))] [] g1 (ob (o_b h401) ob0) (by kernel_rfl)
noncomputable def zk6 (p0 : za) (r : Bool) (v3 : zt1) (s5_13 : Int) : TM := zk1 p0 r ++ [(40, (.d (dl zm p0.Shelves.1 p0.Shelves.2))), (41, (xi (p0.Shelves.1.length : Int))), (42, (xi v3.2)), (43, (xb false)), (61, (.d (dl zo p0.Moves.1 p0.Moves.2))), (62, (xi (p0.Moves.1.length : Int))), (63, (xi s5_13)), (64, (xb true)), (zsp 7)]
noncomputable def zye (p0 : za) (v3 : zt1) (s5_6 : Bool) (s5_13 : Int) (v702 : zH) (r : Bool) : St := ⟨(zk6 p0 r v3 s5_13), ⟨[(zc 1 (zb p0)), (zc 7 (zo v702))], []⟩, []⟩
noncomputable def zk7 (p0 : za) (s5_6 : Bool) (v3 : zt1) (s5_13 : Int) : TM := [(0, (.d (.agg (zb p0)))), (zsp 1), (2, (xi 0)), (3, (xb s5_6)), (40, (.d (dl zm p0.Shelves.1 p0.Shelves.2))), (41, (xi (p0.Shelves.1.length : Int))), (42, (xi v3.2)), (43, (xb false)), (61, (.d (dl zo p0.Moves.1 p0.Moves.2))), (62, (xi (p0.Moves.1.length : Int))), (63, (xi s5_13)), (64, (xb true)), (zsp 7)]
theorem zIr (k : Nat) (p0 : za) (v3 : zt1) (s5_6 : Bool) (s5_13 : Int) (v702 : zH) (r : Bool) (h : zph k p0 v3 s5_6 s5_13 v702 = some r) : ev TE 18 (rgn TE 18 10) ⟨(zk7 p0 s5_6 v3 s5_13), ⟨[(zc 1 (zb p0)), (zc 7 (zo v702))], []⟩, []⟩ = some (.nor, zye p0 v3 s5_6 s5_13 v702 r) := by
 unfold zph at h
 refine zl h (fun h801 g1 => ?_) (fun h801 g1 => ?_)
 ·refine zk g1 (fun v802 h803 g2 => ?_)
  refine zl g2 (fun h804 g3 => ?_) (fun h804 g3 => ?_)
  ·refine zk g3 (fun v805 h806 g4 => ?_)
   refine zl g4 (fun h807 g5 => ?_) (fun h807 g5 => ?_)
   ·refine zk g5 (fun v808 h809 g6 => ?_)
    exact zB (g := fun r => (Ex.nor, zye p0 v3 s5_6 s5_13 v702 r)) g6 (zqe [(18, 10, 1, .q (xb true)), (18, 10, 7, .c (db v802)), (18, 10, 9, .q (xb true)), (18, 10, 14, .q (xi (p0.Shelves.1.length : Int))), (18, 10, 16, .c (db v805)), (18, 10, 18, .q (xb true)), (18, 10, 21, .c (db v808))] [] (ob (o_b h801) (ob (zI k v702.Day 0 (w64 (p0.Days - 1)) _ h803) (ob (o_b h804) (ob (zx zm p0.Shelves.1) (ob (zI k v702.Shelf 0 (w64 ((p0.Shelves.1.length : Int) - 1)) _ h806) (ob (o_b h807) (ob (zvg k v702.By 0 60 _ h809) ob0))))))) (by kernel_rfl))
   ·exact zB (g := fun r => (Ex.nor, zye p0 v3 s5_6 s5_13 v702 r)) g5 (zqe [(18, 10, 1, .q (xb true)), (18, 10, 7, .c (db v802)), (18, 10, 9, .q (xb true)), (18, 10, 14, .q (xi (p0.Shelves.1.length : Int))), (18, 10, 16, .c (db v805)), (18, 10, 18, .q (xb false))] [] (ob (o_b h801) (ob (zI k v702.Day 0 (w64 (p0.Days - 1)) _ h803) (ob (o_b h804) (ob (zx zm p0.Shelves.1) (ob (zI k v702.Shelf 0 (w64 ((p0.Shelves.1.length : Int) - 1)) _ h806) (ob (o_b h807) ob0)))))) (by kernel_rfl))
  ·exact zB (g := fun r => (Ex.nor, zye p0 v3 s5_6 s5_13 v702 r)) g3 (zqe [(18, 10, 1, .q (xb true)), (18, 10, 7, .c (db v802)), (18, 10, 9, .q (xb false))] [] (ob (o_b h801) (ob (zI k v702.Day 0 (w64 (p0.Days - 1)) _ h803) (ob (o_b h804) ob0))) (by kernel_rfl))
 ·exact zB (g := fun r => (Ex.nor, zye p0 v3 s5_6 s5_13 v702 r)) g1 (zqe [(18, 10, 1, .q (xb false))] [] (ob (o_b h801) ob0) (by kernel_rfl))
noncomputable def zk8 (p0 : za) (s5_6 : Bool) (v3 : zt1) (s5_13 : Int) : TM := [(0, (.d (.agg (zb p0)))), (zsp 1), (2, (xi 0)), (3, (xb s5_6)), (40, (.d (dl zm p0.Shelves.1 p0.Shelves.2))), (41, (xi (p0.Shelves.1.length : Int))), (42, (xi v3.2)), (43, (xb false)), (61, (.d (dl zo p0.Moves.1 p0.Moves.2))), (62, (xi (p0.Moves.1.length : Int))), (63, (xi s5_13))]
noncomputable def zfs (p0 : za) (v3 : zt1) (s5_6 : Bool) (s5_13 : Int) : St := ⟨(zk8 p0 s5_6 v3 s5_13), ⟨[(zc 1 (zb p0))], []⟩, []⟩
noncomputable def zk9 (p0 : za) (r v3 : zt1) : TM := [(0, (.d (.agg (zb p0)))), (zsp 1), (2, (xi 0)), (3, (xb r.1)), (40, (.d (dl zm p0.Shelves.1 p0.Shelves.2))), (41, (xi (p0.Shelves.1.length : Int))), (42, (xi v3.2)), (43, (xb false)), (61, (.d (dl zo p0.Moves.1 p0.Moves.2))), (62, (xi (p0.Moves.1.length : Int))), (63, (xi r.2)), (64, (xb false))]
noncomputable def zkf (p0 : za) (v3 r : zt1) : St := ⟨(zk9 p0 r v3), ⟨[(zc 1 (zb p0))], []⟩, []⟩
noncomputable def zts (p0 : za) (v3 : zt1) : (Bool × Int) → Ex × St := fun r => ((.exit 2), zkf p0 v3 r)
theorem zhm (k : Nat) (p0 : za) (v3 : zt1) (s5_6 : Bool) (s5_13 : Int) (x : (Bool × Int) ⊕ (Bool × Int)) (h : zId k p0 v3 s5_6 s5_13 = some x) : zO TE 18 (blk TE 18 2) (fun s : (Bool × Int) => zfs p0 v3 s.1 s.2) (zts p0 v3) (s5_6, s5_13) x := by
 unfold zId at h
 refine zl h (fun h701 g1 => ?_) (fun h701 g1 => ?_)
 ·refine zk g1 (fun v702 h703 g2 => ?_)
  refine zk g2 (fun v704 h705 g3 => ?_)
  exact zqn (v704, (w64 (s5_13 + 1))) [] [(18, 8, 0, .q (xb true)), (18, 9, 0, .q (.d (.pin (zo v702))))] [(18, 1000010, (.nor, zye p0 v3 s5_6 s5_13 v702 v704))] g3 (ob (o_b h701) (ob (o_ia (e := zo) 5 h703 rfl) (ob (zIr k p0 v3 s5_6 s5_13 v702 _ h705) ob0))) (by kernel_rfl)
 ·exact zqo [(18, 8, 0, .q (xb false))] [] g1 (ob (o_b h701) ob0) (by kernel_rfl)
noncomputable def zsE (p0 : za) (r : Bool) (v3 v5 : zt1) (s8_17 : Int) : TM := zk1 p0 r ++ [(40, (.d (dl zm p0.Shelves.1 p0.Shelves.2))), (41, (xi (p0.Shelves.1.length : Int))), (42, (xi v3.2)), (43, (xb false)), (61, (.d (dl zo p0.Moves.1 p0.Moves.2))), (62, (xi (p0.Moves.1.length : Int))), (63, (xi v5.2)), (64, (xb false)), (92, (.d (dl zh p0.Deliveries.1 p0.Deliveries.2))), (93, (xi (p0.Deliveries.1.length : Int))), (94, (xi s8_17)), (95, (xb true)), (zsp 9)]
noncomputable def zhe (p0 : za) (v3 v5 : zt1) (s8_6 : Bool) (s8_17 : Int) (v1002 : zt) (r : Bool) : St := ⟨(zsE p0 r v3 v5 s8_17), ⟨[(zc 1 (zb p0)), (zc 9 (zh v1002))], []⟩, []⟩
noncomputable def zFE (p0 : za) (s8_6 : Bool) (v3 v5 : zt1) (s8_17 : Int) : TM := [(0, (.d (.agg (zb p0)))), (zsp 1), (2, (xi 0)), (3, (xb s8_6)), (40, (.d (dl zm p0.Shelves.1 p0.Shelves.2))), (41, (xi (p0.Shelves.1.length : Int))), (42, (xi v3.2)), (43, (xb false)), (61, (.d (dl zo p0.Moves.1 p0.Moves.2))), (62, (xi (p0.Moves.1.length : Int))), (63, (xi v5.2)), (64, (xb false)), (92, (.d (dl zh p0.Deliveries.1 p0.Deliveries.2))), (93, (xi (p0.Deliveries.1.length : Int))), (94, (xi s8_17)), (95, (xb true)), (zsp 9)]
theorem z8q (k : Nat) (p0 : za) (v3 v5 : zt1) (s8_6 : Bool) (s8_17 : Int) (v1002 : zt) (r : Bool) (h : zug k p0 v3 v5 s8_6 s8_17 v1002 = some r) : ev TE 18 (rgn TE 18 15) ⟨(zFE p0 s8_6 v3 v5 s8_17), ⟨[(zc 1 (zb p0)), (zc 9 (zh v1002))], []⟩, []⟩ = some (.nor, zhe p0 v3 v5 s8_6 s8_17 v1002 r) := by
 unfold zug at h
 refine zl h (fun h1101 g1 => ?_) (fun h1101 g1 => ?_)
 ·refine zk g1 (fun v1102 h1103 g2 => ?_)
  refine zl g2 (fun h1104 g3 => ?_) (fun h1104 g3 => ?_)
  ·refine zk g3 (fun v1105 h1106 g4 => ?_)
   refine zl g4 (fun h1107 g5 => ?_) (fun h1107 g5 => ?_)
   ·refine zk g5 (fun v1108 h1109 g6 => ?_)
    exact zB (g := fun r => (Ex.nor, zhe p0 v3 v5 s8_6 s8_17 v1002 r)) g6 (zqe [(18, 15, 1, .q (xb true)), (18, 15, 6, .q (xi (p0.Shelves.1.length : Int))), (18, 15, 8, .c (db v1102)), (18, 15, 10, .q (xb true)), (18, 15, 16, .c (db v1105)), (18, 15, 18, .q (xb true)), (18, 15, 21, .c (db v1108))] [] (ob (o_b h1101) (ob (zx zm p0.Shelves.1) (ob (zI k v1002.Shelf 0 (w64 ((p0.Shelves.1.length : Int) - 1)) _ h1103) (ob (o_b h1104) (ob (zvg k v1002.Days 0 (w64 (p0.Days - 1)) _ h1106) (ob (o_b h1107) (ob (zvg k v1002.By 0 60 _ h1109) ob0))))))) (by kernel_rfl))
   ·exact zB (g := fun r => (Ex.nor, zhe p0 v3 v5 s8_6 s8_17 v1002 r)) g5 (zqe [(18, 15, 1, .q (xb true)), (18, 15, 6, .q (xi (p0.Shelves.1.length : Int))), (18, 15, 8, .c (db v1102)), (18, 15, 10, .q (xb true)), (18, 15, 16, .c (db v1105)), (18, 15, 18, .q (xb false))] [] (ob (o_b h1101) (ob (zx zm p0.Shelves.1) (ob (zI k v1002.Shelf 0 (w64 ((p0.Shelves.1.length : Int) - 1)) _ h1103) (ob (o_b h1104) (ob (zvg k v1002.Days 0 (w64 (p0.Days - 1)) _ h1106) (ob (o_b h1107) ob0)))))) (by kernel_rfl))
  ·exact zB (g := fun r => (Ex.nor, zhe p0 v3 v5 s8_6 s8_17 v1002 r)) g3 (zqe [(18, 15, 1, .q (xb true)), (18, 15, 6, .q (xi (p0.Shelves.1.length : Int))), (18, 15, 8, .c (db v1102)), (18, 15, 10, .q (xb false))] [] (ob (o_b h1101) (ob (zx zm p0.Shelves.1) (ob (zI k v1002.Shelf 0 (w64 ((p0.Shelves.1.length : Int) - 1)) _ h1103) (ob (o_b h1104) ob0)))) (by kernel_rfl))
 ·exact zB (g := fun r => (Ex.nor, zhe p0 v3 v5 s8_6 s8_17 v1002 r)) g1 (zqe [(18, 15, 1, .q (xb false))] [] (ob (o_b h1101) ob0) (by kernel_rfl))
noncomputable def zZD (p0 : za) (s8_6 : Bool) (v3 v5 : zt1) (s8_17 : Int) : TM := [(0, (.d (.agg (zb p0)))), (zsp 1), (2, (xi 0)), (3, (xb s8_6)), (40, (.d (dl zm p0.Shelves.1 p0.Shelves.2))), (41, (xi (p0.Shelves.1.length : Int))), (42, (xi v3.2)), (43, (xb false)), (61, (.d (dl zo p0.Moves.1 p0.Moves.2))), (62, (xi (p0.Moves.1.length : Int))), (63, (xi v5.2)), (64, (xb false)), (92, (.d (dl zh p0.Deliveries.1 p0.Deliveries.2))), (93, (xi (p0.Deliveries.1.length : Int))), (94, (xi s8_17))]
noncomputable def zls (p0 : za) (v3 v5 : zt1) (s8_6 : Bool) (s8_17 : Int) : St := ⟨(zZD p0 s8_6 v3 v5 s8_17), ⟨[(zc 1 (zb p0))], []⟩, []⟩
noncomputable def zmE (p0 : za) (r v3 v5 : zt1) : TM := [(0, (.d (.agg (zb p0)))), (zsp 1), (2, (xi 0)), (3, (xb r.1)), (40, (.d (dl zm p0.Shelves.1 p0.Shelves.2))), (41, (xi (p0.Shelves.1.length : Int))), (42, (xi v3.2)), (43, (xb false)), (61, (.d (dl zo p0.Moves.1 p0.Moves.2))), (62, (xi (p0.Moves.1.length : Int))), (63, (xi v5.2)), (64, (xb false)), (92, (.d (dl zh p0.Deliveries.1 p0.Deliveries.2))), (93, (xi (p0.Deliveries.1.length : Int))), (94, (xi r.2)), (95, (xb false))]
noncomputable def znf (p0 : za) (v3 v5 r : zt1) : St := ⟨(zmE p0 r v3 v5), ⟨[(zc 1 (zb p0))], []⟩, []⟩
noncomputable def zys (p0 : za) (v3 v5 : zt1) : (Bool × Int) → Ex × St := fun r => ((.exit 4), znf p0 v3 v5 r)
theorem zom (k : Nat) (p0 : za) (v3 v5 : zt1) (s8_6 : Bool) (s8_17 : Int) (x : (Bool × Int) ⊕ (Bool × Int)) (h : zPd k p0 v3 v5 s8_6 s8_17 = some x) : zO TE 18 (blk TE 18 4) (fun s : (Bool × Int) => zls p0 v3 v5 s.1 s.2) (zys p0 v3 v5) (s8_6, s8_17) x := by
 unfold zPd at h
 refine zl h (fun h1001 g1 => ?_) (fun h1001 g1 => ?_)
 ·refine zk g1 (fun v1002 h1003 g2 => ?_)
  refine zk g2 (fun v1004 h1005 g3 => ?_)
  exact zqn (v1004, (w64 (s8_17 + 1))) [] [(18, 13, 0, .q (xb true)), (18, 14, 0, .q (.d (.pin (zh v1002))))] [(18, 1000015, (.nor, zhe p0 v3 v5 s8_6 s8_17 v1002 v1004))] g3 (ob (o_b h1001) (ob (o_ia (e := zh) 5 h1003 rfl) (ob (z8q k p0 v3 v5 s8_6 s8_17 v1002 _ h1005) ob0))) (by kernel_rfl)
 ·exact zqo [(18, 13, 0, .q (xb false))] [] g1 (ob (o_b h1001) ob0) (by kernel_rfl)
noncomputable def zPE (p0 : za) (r : Bool) (v3 v5 v7 : zt1) (s11_21 : Int) : TM := zk1 p0 r ++ [(40, (.d (dl zm p0.Shelves.1 p0.Shelves.2))), (41, (xi (p0.Shelves.1.length : Int))), (42, (xi v3.2)), (43, (xb false)), (61, (.d (dl zo p0.Moves.1 p0.Moves.2))), (62, (xi (p0.Moves.1.length : Int))), (63, (xi v5.2)), (64, (xb false)), (92, (.d (dl zh p0.Deliveries.1 p0.Deliveries.2))), (93, (xi (p0.Deliveries.1.length : Int))), (94, (xi v7.2)), (95, (xb false)), (123, (.d (dl zi p0.Counts.1 p0.Counts.2))), (124, (xi (p0.Counts.1.length : Int))), (125, (xi s11_21)), (126, (xb true)), (zsp 11)]
noncomputable def z9c (p0 : za) (v3 v5 v7 : zt1) (s11_6 : Bool) (s11_21 : Int) (v1302 : zn) (r : Bool) : St := ⟨(zPE p0 r v3 v5 v7 s11_21), ⟨[(zc 1 (zb p0)), (zc 11 (zi v1302))], []⟩, []⟩
noncomputable def zyE (p0 : za) (s11_6 : Bool) (v3 v5 v7 : zt1) (s11_21 : Int) : TM := [(0, (.d (.agg (zb p0)))), (zsp 1), (2, (xi 0)), (3, (xb s11_6)), (40, (.d (dl zm p0.Shelves.1 p0.Shelves.2))), (41, (xi (p0.Shelves.1.length : Int))), (42, (xi v3.2)), (43, (xb false)), (61, (.d (dl zo p0.Moves.1 p0.Moves.2))), (62, (xi (p0.Moves.1.length : Int))), (63, (xi v5.2)), (64, (xb false)), (92, (.d (dl zh p0.Deliveries.1 p0.Deliveries.2))), (93, (xi (p0.Deliveries.1.length : Int))), (94, (xi v7.2)), (95, (xb false)), (123, (.d (dl zi p0.Counts.1 p0.Counts.2))), (124, (xi (p0.Counts.1.length : Int))), (125, (xi s11_21)), (126, (xb true)), (zsp 11)]
theorem zmr (k : Nat) (p0 : za) (v3 v5 v7 : zt1) (s11_6 : Bool) (s11_21 : Int) (v1302 : zn) (r : Bool) (h : zBg k p0 v3 v5 v7 s11_6 s11_21 v1302 = some r) : ev TE 18 (rgn TE 18 20) ⟨(zyE p0 s11_6 v3 v5 v7 s11_21), ⟨[(zc 1 (zb p0)), (zc 11 (zi v1302))], []⟩, []⟩ = some (.nor, z9c p0 v3 v5 v7 s11_6 s11_21 v1302 r) := by
 unfold zBg at h
 refine zl h (fun h1401 g1 => ?_) (fun h1401 g1 => ?_)
 ·refine zk g1 (fun v1402 h1403 g2 => ?_)
  refine zl g2 (fun h1404 g3 => ?_) (fun h1404 g3 => ?_)
  ·refine zk g3 (fun v1405 h1406 g4 => ?_)
   refine zl g4 (fun h1407 g5 => ?_) (fun h1407 g5 => ?_)
   ·refine zk g5 (fun v1408 h1409 g6 => ?_)
    refine zl g6 (fun h1410 g7 => ?_) (fun h1410 g7 => ?_)
    ·refine zk g7 (fun v1411 h1412 g8 => ?_)
     exact zB (g := fun r => (Ex.nor, z9c p0 v3 v5 v7 s11_6 s11_21 v1302 r)) g8 (zqe [(18, 20, 1, .q (xb true)), (18, 20, 7, .c (db v1402)), (18, 20, 9, .q (xb true)), (18, 20, 14, .q (xi (p0.Shelves.1.length : Int))), (18, 20, 16, .c (db v1405)), (18, 20, 18, .q (xb true)), (18, 20, 21, .c (db v1408)), (18, 20, 23, .q (xb true)), (18, 20, 26, .c (db v1411))] [] (ob (o_b h1401) (ob (zI k v1302.Day 0 (w64 (p0.Days - 1)) _ h1403) (ob (o_b h1404) (ob (zx zm p0.Shelves.1) (ob (zI k v1302.Shelf 0 (w64 ((p0.Shelves.1.length : Int) - 1)) _ h1406) (ob (o_b h1407) (ob (zI k v1302.Read 0 60 _ h1409) (ob (o_b h1410) (ob (zI k v1302.Err 0 20 _ h1412) ob0))))))))) (by kernel_rfl))
    ·exact zB (g := fun r => (Ex.nor, z9c p0 v3 v5 v7 s11_6 s11_21 v1302 r)) g7 (zqe [(18, 20, 1, .q (xb true)), (18, 20, 7, .c (db v1402)), (18, 20, 9, .q (xb true)), (18, 20, 14, .q (xi (p0.Shelves.1.length : Int))), (18, 20, 16, .c (db v1405)), (18, 20, 18, .q (xb true)), (18, 20, 21, .c (db v1408)), (18, 20, 23, .q (xb false))] [] (ob (o_b h1401) (ob (zI k v1302.Day 0 (w64 (p0.Days - 1)) _ h1403) (ob (o_b h1404) (ob (zx zm p0.Shelves.1) (ob (zI k v1302.Shelf 0 (w64 ((p0.Shelves.1.length : Int) - 1)) _ h1406) (ob (o_b h1407) (ob (zI k v1302.Read 0 60 _ h1409) (ob (o_b h1410) ob0)))))))) (by kernel_rfl))
   ·exact zB (g := fun r => (Ex.nor, z9c p0 v3 v5 v7 s11_6 s11_21 v1302 r)) g5 (zqe [(18, 20, 1, .q (xb true)), (18, 20, 7, .c (db v1402)), (18, 20, 9, .q (xb true)), (18, 20, 14, .q (xi (p0.Shelves.1.length : Int))), (18, 20, 16, .c (db v1405)), (18, 20, 18, .q (xb false))] [] (ob (o_b h1401) (ob (zI k v1302.Day 0 (w64 (p0.Days - 1)) _ h1403) (ob (o_b h1404) (ob (zx zm p0.Shelves.1) (ob (zI k v1302.Shelf 0 (w64 ((p0.Shelves.1.length : Int) - 1)) _ h1406) (ob (o_b h1407) ob0)))))) (by kernel_rfl))
  ·exact zB (g := fun r => (Ex.nor, z9c p0 v3 v5 v7 s11_6 s11_21 v1302 r)) g3 (zqe [(18, 20, 1, .q (xb true)), (18, 20, 7, .c (db v1402)), (18, 20, 9, .q (xb false))] [] (ob (o_b h1401) (ob (zI k v1302.Day 0 (w64 (p0.Days - 1)) _ h1403) (ob (o_b h1404) ob0))) (by kernel_rfl))
 ·exact zB (g := fun r => (Ex.nor, z9c p0 v3 v5 v7 s11_6 s11_21 v1302 r)) g1 (zqe [(18, 20, 1, .q (xb false))] [] (ob (o_b h1401) ob0) (by kernel_rfl))
noncomputable def zRE (p0 : za) (s11_6 : Bool) (v3 v5 v7 : zt1) (s11_21 : Int) : TM := [(0, (.d (.agg (zb p0)))), (zsp 1), (2, (xi 0)), (3, (xb s11_6)), (40, (.d (dl zm p0.Shelves.1 p0.Shelves.2))), (41, (xi (p0.Shelves.1.length : Int))), (42, (xi v3.2)), (43, (xb false)), (61, (.d (dl zo p0.Moves.1 p0.Moves.2))), (62, (xi (p0.Moves.1.length : Int))), (63, (xi v5.2)), (64, (xb false)), (92, (.d (dl zh p0.Deliveries.1 p0.Deliveries.2))), (93, (xi (p0.Deliveries.1.length : Int))), (94, (xi v7.2)), (95, (xb false)), (123, (.d (dl zi p0.Counts.1 p0.Counts.2))), (124, (xi (p0.Counts.1.length : Int))), (125, (xi s11_21))]
noncomputable def zTr (p0 : za) (v3 v5 v7 : zt1) (s11_6 : Bool) (s11_21 : Int) : St := ⟨(zRE p0 s11_6 v3 v5 v7 s11_21), ⟨[(zc 1 (zb p0))], []⟩, []⟩
noncomputable def z5D (p0 : za) (r v3 v5 v7 : zt1) : TM := [(0, (.d (.agg (zb p0)))), (zsp 1), (2, (xi 0)), (3, (xb r.1)), (40, (.d (dl zm p0.Shelves.1 p0.Shelves.2))), (41, (xi (p0.Shelves.1.length : Int))), (42, (xi v3.2)), (43, (xb false)), (61, (.d (dl zo p0.Moves.1 p0.Moves.2))), (62, (xi (p0.Moves.1.length : Int))), (63, (xi v5.2)), (64, (xb false)), (92, (.d (dl zh p0.Deliveries.1 p0.Deliveries.2))), (93, (xi (p0.Deliveries.1.length : Int))), (94, (xi v7.2)), (95, (xb false)), (123, (.d (dl zi p0.Counts.1 p0.Counts.2))), (124, (xi (p0.Counts.1.length : Int))), (125, (xi r.2)), (126, (xb false))]
noncomputable def zVe (p0 : za) (v3 v5 v7 r : zt1) : St := ⟨(z5D p0 r v3 v5 v7), ⟨[(zc 1 (zb p0))], []⟩, []⟩
noncomputable def zPr (p0 : za) (v3 v5 v7 : zt1) : (Bool × Int) → Ex × St := fun r => ((.exit 6), zVe p0 v3 v5 v7 r)
theorem zul (k : Nat) (p0 : za) (v3 v5 v7 : zt1) (s11_6 : Bool) (s11_21 : Int) (x : (Bool × Int) ⊕ (Bool × Int)) (h : zbd k p0 v3 v5 v7 s11_6 s11_21 = some x) : zO TE 18 (blk TE 18 6) (fun s : (Bool × Int) => zTr p0 v3 v5 v7 s.1 s.2) (zPr p0 v3 v5 v7) (s11_6, s11_21) x := by
 unfold zbd at h
 refine zl h (fun h1301 g1 => ?_) (fun h1301 g1 => ?_)
 ·refine zk g1 (fun v1302 h1303 g2 => ?_)
  refine zk g2 (fun v1304 h1305 g3 => ?_)
  exact zqn (v1304, (w64 (s11_21 + 1))) [] [(18, 18, 0, .q (xb true)), (18, 19, 0, .q (.d (.pin (zi v1302))))] [(18, 1000020, (.nor, z9c p0 v3 v5 v7 s11_6 s11_21 v1302 v1304))] g3 (ob (o_b h1301) (ob (o_ia (e := zi) 4 h1303 rfl) (ob (zmr k p0 v3 v5 v7 s11_6 s11_21 v1302 _ h1305) ob0))) (by kernel_rfl)
 ·exact zqo [(18, 18, 0, .q (xb false))] [] g1 (ob (o_b h1301) ob0) (by kernel_rfl)
theorem zxe (k : Nat) (p0 : za) (r : Int) (h : zDg k p0 = some r) : zM TE (ev TE) 18 [(.agg (zb p0))] = some (zYl r) := by
 unfold zDg at h
 refine zk h (fun v1 h2 g1 => ?_)
 refine zk g1 (fun v3 h4 g2 => ?_)
 refine zk g2 (fun v5 h6 g3 => ?_)
 refine zk g3 (fun v7 h8 g4 => ?_)
 refine zk g4 (fun v9 h10 g5 => ?_)
 refine zl g5 (fun h11 g6 => ?_) (fun h11 g6 => ?_)
 ·exact zK (g := zYl) g6 (zqc [(18, 2, 2, .q (xi (p0.Shelves.1.length : Int))), (18, 7, 2, .q (xi (p0.Moves.1.length : Int))), (18, 12, 2, .q (xi (p0.Deliveries.1.length : Int))), (18, 17, 2, .q (xi (p0.Counts.1.length : Int))), (18, 22, 1, .q (xb true))] [(18, 1000001, (.nor, zMc p0 v1)), (18, 0, (.nor, zsf p0 v3)), (18, 2, (.nor, zkf p0 v3 v5)), (18, 4, (.nor, znf p0 v3 v5 v7)), (18, 6, (.nor, zVe p0 v3 v5 v7 v9))] (ob (zsm k p0 _ h2) (ob (zx zm p0.Shelves.1) (ob (zG (id := 0) (r' := (.nor, zsf p0 v3)) (zfb (zmm k p0) k _ _ h4) rfl) (ob (zx zo p0.Moves.1) (ob (zG (id := 2) (r' := (.nor, zkf p0 v3 v5)) (zfb (zhm k p0 v3) k _ _ h6) rfl) (ob (zx zh p0.Deliveries.1) (ob (zG (id := 4) (r' := (.nor, znf p0 v3 v5 v7)) (zfb (zom k p0 v3 v5) k _ _ h8) rfl) (ob (zx zi p0.Counts.1) (ob (zG (id := 6) (r' := (.nor, zVe p0 v3 v5 v7 v9)) (zfb (zul k p0 v3 v5 v7) k _ _ h10) rfl) (ob (o_b h11) ob0)))))))))) (by kernel_rfl))
 ·exact zK (g := zYl) g6 (zqc [(18, 2, 2, .q (xi (p0.Shelves.1.length : Int))), (18, 7, 2, .q (xi (p0.Moves.1.length : Int))), (18, 12, 2, .q (xi (p0.Deliveries.1.length : Int))), (18, 17, 2, .q (xi (p0.Counts.1.length : Int))), (18, 22, 1, .q (xb false))] [(18, 1000001, (.nor, zMc p0 v1)), (18, 0, (.nor, zsf p0 v3)), (18, 2, (.nor, zkf p0 v3 v5)), (18, 4, (.nor, znf p0 v3 v5 v7)), (18, 6, (.nor, zVe p0 v3 v5 v7 v9))] (ob (zsm k p0 _ h2) (ob (zx zm p0.Shelves.1) (ob (zG (id := 0) (r' := (.nor, zsf p0 v3)) (zfb (zmm k p0) k _ _ h4) rfl) (ob (zx zo p0.Moves.1) (ob (zG (id := 2) (r' := (.nor, zkf p0 v3 v5)) (zfb (zhm k p0 v3) k _ _ h6) rfl) (ob (zx zh p0.Deliveries.1) (ob (zG (id := 4) (r' := (.nor, znf p0 v3 v5 v7)) (zfb (zom k p0 v3 v5) k _ _ h8) rfl) (ob (zx zi p0.Counts.1) (ob (zG (id := 6) (r' := (.nor, zVe p0 v3 v5 v7 v9)) (zfb (zul k p0 v3 v5 v7) k _ _ h10) rfl) (ob (o_b h11) ob0)))))))))) (by kernel_rfl))
noncomputable def zWE (p0 : zd) (s1_7 : Int) : TM := [(0, (.d (.agg (zp p0)))), (zsp 1), (zsp 2), (zsp 3), (4, (xi s1_7))]
noncomputable def zzp (p0 : zd) (s1_7 : Int) (s1_16 : zt0) : St := ⟨(zWE p0 s1_7), ⟨[(zc 1 (zp p0)), (zc 2 (aB 61 (fun _ => false))), (zc 3 (aB 61 s1_16))], []⟩, []⟩
noncomputable def z0D (p0 : zd) (r : zt15) : TM := [(0, (.d (.agg (zp p0)))), (zsp 1), (zsp 2), (zsp 3), (4, (xi r.1)), (24, (xb false))]
noncomputable def zRg (p0 : zd) (r : zt15) : St := ⟨(z0D p0 r), ⟨[(zc 1 (zp p0)), (zc 2 (aB 61 (fun _ => false))), (zc 3 (aB 61 r.2))], []⟩, []⟩
noncomputable def znp (p0 : zd) : (Int × (Nat → Bool)) → Ex × St := fun r => ((.exit 0), zRg p0 r)
theorem zjp (k : Nat) (p0 : zd) (s1_7 : Int) (s1_16 : zt0) (x : (Int × (Nat → Bool)) ⊕ (Int × (Nat → Bool))) (h : zoe k p0 s1_7 s1_16 = some x) : zO TE 90 (blk TE 90 0) (fun s : (Int × (Nat → Bool)) => zzp p0 s.1 s.2) (znp p0) (s1_7, s1_16) x := by
 unfold zoe at h
 refine zk h (fun v201 h202 g1 => ?_)
 refine zl g1 (fun h203 g2 => ?_) (fun h203 g2 => ?_)
 ·refine zT g2 (fun h204 g3 => ?_)
  exact zqn ((w64 (s1_7 + 1)), (upd s1_16 s1_7.toNat true)) [] [(90, 3, 6, .q (.d (.pin (zm v201)))), (90, 3, 10, .q (xb true)), (90, 5, 1, .q (.ptr 0 3 (s1_7.toNat))), (90, 5, 2, .st ((aB 61 (upd s1_16 s1_7.toNat true)).map .d))] [] g3 (ob (o_ia (e := zm) 3 h202 rfl) (ob (o_b h203) (ob (zRd (m := 61) 0 3 0 1 s1_7.toNat h204 (by omega)) (ob (zfl 61 s1_16 s1_7.toNat true (by have := h204; simp only [Bool.and_eq_true, decide_eq_true_eq] at this; omega)) ob0)))) (by kernel_rfl)
 ·exact zqo [(90, 3, 6, .q (.d (.pin (zm v201)))), (90, 3, 10, .q (xb false))] [] g2 (ob (o_ia (e := zm) 3 h202 rfl) (ob (o_b h203) ob0)) (by kernel_rfl)
theorem zNq (k : Nat) (p0 : zd) (r : zt0) (h : zNf k p0 = some r) : zM TE (ev TE) 90 [(.agg (zp p0))] = some (zAl r) := by
 unfold zNf at h
 refine zk h (fun v1 h2 g1 => ?_)
 refine zk g1 (fun v3 h4 g2 => ?_)
 exact zK (g := zAl) g2 (zqc [(90, 2, 5, .q (.d (.pin (zm v1))))] [(90, 0, (.nor, zRg p0 v3))] (ob (o_ia (e := zm) 3 h2 rfl) (ob (zG (id := 0) (r' := (.nor, zRg p0 v3)) (zfb (zjp k p0) k _ _ h4) rfl) ob0)) (by kernel_rfl))
theorem zQh (k : Nat) (r : zt0) (h : zpg k = some r) : zM TE (ev TE) 87 [] = some (zvo r) := by
 unfold zpg at h
 exact zK (g := zvo) h (zqc [] [] ob0 (by kernel_rfl))
theorem zBl (k : Nat) (p0 : zd) (p1 p2 : Int) (r : zt5) (h : z7e k p0 p1 p2 = some r) : zM TE (ev TE) 91 [(.agg (zp p0)), (di p1), (di p2)] = some (zfm r) := by
 unfold z7e at h
 exact zK (g := zfm) h (zqc [] [] ob0 (by kernel_rfl))
noncomputable def z3D (p0 : zd) (p1 p2 : Int) (s1_20 : zt16) (s1_12 : Int) : TM := [(0, (.d (.agg (zp p0)))), (1, (xi p1)), (2, (xi p2)), (zsp 3), (6, (.d (.sl [] .nil))), (7, (.row 0 7 s1_20.length)), (15, (.d (dl zh p0.ShelfBook.Deliveries.1 p0.ShelfBook.Deliveries.2))), (16, (xi (p0.ShelfBook.Deliveries.1.length : Int))), (17, (xi s1_12))]
noncomputable def zCp (p0 : zd) (p1 p2 s1_12 : Int) (s1_20 : zt16) : St := ⟨(z3D p0 p1 p2 s1_20 s1_12), ⟨[(zc 3 (zp p0)), (7, (rowO true 3 zR s1_20 true))], []⟩, []⟩
noncomputable def zdE (p0 : zd) (p1 p2 : Int) (r : zt13) : TM := [(0, (.d (.agg (zp p0)))), (1, (xi p1)), (2, (xi p2)), (zsp 3), (6, (.d (.sl [] .nil))), (7, (.row 0 7 r.2.length)), (15, (.d (dl zh p0.ShelfBook.Deliveries.1 p0.ShelfBook.Deliveries.2))), (16, (xi (p0.ShelfBook.Deliveries.1.length : Int))), (17, (xi r.1)), (18, (xb false))]
noncomputable def zMg (p0 : zd) (p1 p2 : Int) (r : zt13) : St := ⟨(zdE p0 p1 p2 r), ⟨[(zc 3 (zp p0)), (7, (rowO true 3 zR r.2 true))], []⟩, []⟩
noncomputable def zNp (p0 : zd) (p1 p2 : Int) : (Int × (List zF)) → Ex × St := fun r => ((.exit 0), zMg p0 p1 p2 r)
theorem zOo (k : Nat) (p0 : zd) (p1 p2 s1_12 : Int) (s1_20 : zt16) (x : (Int × (List zF)) ⊕ (Int × (List zF))) (h : zpe k p0 p1 p2 s1_12 s1_20 = some x) : zO TE 92 (blk TE 92 0) (fun s : (Int × (List zF)) => zCp p0 p1 p2 s.1 s.2) (zNp p0 p1 p2) (s1_12, s1_20) x := by
 unfold zpe at h
 refine zl h (fun h301 g1 => ?_) (fun h301 g1 => ?_)
 ·refine zk g1 (fun v302 h303 g2 => ?_)
  refine zl g2 (fun h304 g3 => ?_) (fun h304 g3 => ?_)
  ·cases g3
  ·refine zl g3 (fun h305 g4 => ?_) (fun h305 g4 => ?_)
   ·refine zT g4 (fun h306 g5 => ?_)
    exact zqn ((w64 (s1_12 + 1)), (s1_20 ++ [(⟨1, v302.By⟩ : zF)])) [7] [(92, 3, 0, .q (xb true)), (92, 4, 1, .q (.d (.pin (zh v302)))), (92, 5, 2, .q (xi (z7 p2 s1_12))), (92, 5, 4, .q (xb true)), (92, 6, 5, .ap (s1_20 ++ [(⟨1, v302.By⟩ : zF)]).length (rowO true 3 zR (s1_20 ++ [(⟨1, v302.By⟩ : zF)]) true))] [] g5 (ob (o_b h301) (ob (o_ia (e := zh) 5 h303 rfl) (ob (z5e (x := p2) h304) (ob (o_b h305) (ob (o_ap (b := true) (z := 3) (e := zR) (l := s1_20) (w := true) (⟨1, v302.By⟩ : zF) (fun _ => rfl) h306) (ob (zgc true 3 zR (s1_20 ++ [(⟨1, v302.By⟩ : zF)]) true) ob0)))))) (by kernel_rfl)
   ·exact zqn ((w64 (s1_12 + 1)), s1_20) [7] [(92, 3, 0, .q (xb true)), (92, 4, 1, .q (.d (.pin (zh v302)))), (92, 5, 2, .q (xi (z7 p2 s1_12))), (92, 5, 4, .q (xb false))] [] g4 (ob (o_b h301) (ob (o_ia (e := zh) 5 h303 rfl) (ob (z5e (x := p2) h304) (ob (o_b h305) (ob (zgc true 3 zR s1_20 true) ob0))))) (by kernel_rfl)
 ·exact zqo [(92, 3, 0, .q (xb false))] [] g1 (ob (o_b h301) ob0) (by kernel_rfl)
noncomputable def zoE (p0 : zd) (p1 p2 : Int) (s3_24 : zt16) (v1 : zt13) (s3_16 : Int) (r : Bool) : TM := [(0, (.d (.agg (zp p0)))), (1, (xi p1)), (2, (xi p2)), (zsp 3), (6, (.d (.sl [] .nil))), (7, (.row 0 7 s3_24.length)), (15, (.d (dl zh p0.ShelfBook.Deliveries.1 p0.ShelfBook.Deliveries.2))), (16, (xi (p0.ShelfBook.Deliveries.1.length : Int))), (17, (xi v1.1)), (18, (xb false)), (36, (.d (dl zo p0.ShelfBook.Moves.1 p0.ShelfBook.Moves.2))), (37, (xi (p0.ShelfBook.Moves.1.length : Int))), (38, (xi s3_16)), (39, (xb true)), (zsp 11), (52, (xb r))]
noncomputable def zJd (p0 : zd) (p1 p2 : Int) (v1 : zt13) (s3_16 : Int) (s3_24 : zt16) (v702 : zH) (r : Bool) : St := ⟨(zoE p0 p1 p2 s3_24 v1 s3_16 r), ⟨[(zc 3 (zp p0)), (7, (rowO true 3 zR s3_24 true)), (zc 11 (zo v702))], []⟩, []⟩
noncomputable def zZz (p0 : zd) (p1 p2 : Int) (s3_24 : zt16) (v1 : zt13) (s3_16 : Int) : TM := [(0, (.d (.agg (zp p0)))), (1, (xi p1)), (2, (xi p2)), (zsp 3), (6, (.d (.sl [] .nil))), (7, (.row 0 7 s3_24.length)), (15, (.d (dl zh p0.ShelfBook.Deliveries.1 p0.ShelfBook.Deliveries.2))), (16, (xi (p0.ShelfBook.Deliveries.1.length : Int))), (17, (xi v1.1)), (18, (xb false)), (36, (.d (dl zo p0.ShelfBook.Moves.1 p0.ShelfBook.Moves.2))), (37, (xi (p0.ShelfBook.Moves.1.length : Int))), (38, (xi s3_16)), (39, (xb true)), (zsp 11)]
theorem zmj (k : Nat) (p0 : zd) (p1 p2 : Int) (v1 : zt13) (s3_16 : Int) (s3_24 : zt16) (v702 : zH) (r : Bool) (h : zbg k p0 p1 p2 v1 s3_16 s3_24 v702 = some r) : ev TE 92 (rgn TE 92 11) ⟨(zZz p0 p1 p2 s3_24 v1 s3_16), ⟨[(zc 3 (zp p0)), (7, (rowO true 3 zR s3_24 true)), (zc 11 (zo v702))], []⟩, []⟩ = some (.nor, zJd p0 p1 p2 v1 s3_16 s3_24 v702 r) := by
 unfold zbg at h
 refine zl h (fun h801 g1 => ?_) (fun h801 g1 => ?_)
 ·exact zB (g := fun r => (Ex.nor, zJd p0 p1 p2 v1 s3_16 s3_24 v702 r)) g1 (zqe [(92, 11, 4, .q (xb true))] [] (ob (o_b h801) ob0) (by kernel_rfl))
 ·exact zB (g := fun r => (Ex.nor, zJd p0 p1 p2 v1 s3_16 s3_24 v702 r)) g1 (zqe [(92, 11, 4, .q (xb false))] [] (ob (o_b h801) ob0) (by kernel_rfl))
noncomputable def zZe (p0 : zd) (p1 p2 : Int) (v1 : zt13) (s3_16 : Int) (s3_24 : zt16) (v702 : zH) (cb : Bool) (r : zt1) : St := ⟨(zZz p0 p1 p2 s3_24 v1 s3_16 ++ [(52, (xb true)), (zsp 12), (57, (xb r.1))]), ⟨[(zc 3 (zp p0)), (7, (rowO true 3 zR s3_24 true)), (zc 11 (zo v702)), (12, (.cells [(xi r.2), (xi v702.By.Low), (xi v702.By.High)]))], []⟩, []⟩
theorem zYo (k : Nat) (p0 : zd) (p1 p2 : Int) (v1 : zt13) (s3_16 : Int) (s3_24 : zt16) (v702 : zH) (cb : Bool) (r : zt1) (h : zci k p0 p1 p2 v1 s3_16 s3_24 v702 cb = some r) : ev TE 92 (cnd TE 92 57) ⟨(zZz p0 p1 p2 s3_24 v1 s3_16 ++ [(52, (xb true)), (zsp 12), (57, (xb cb))]), ⟨[(zc 3 (zp p0)), (7, (rowO true 3 zR s3_24 true)), (zc 11 (zo v702)), (12, (.cells [(xi 0), (xi v702.By.Low), (xi v702.By.High)]))], []⟩, []⟩ = some (.nor, zZe p0 p1 p2 v1 s3_16 s3_24 v702 cb r) := by
 unfold zci at h
 refine zl h (fun h1001 g1 => ?_) (fun h1001 g1 => ?_)
 ·subst h1001
  exact zB (g := fun r => (Ex.nor, zZe p0 p1 p2 v1 s3_16 s3_24 v702 true r)) g1 (zqe [] [] ob0 (by kernel_rfl))
 ·subst h1001
  exact zB (g := fun r => (Ex.nor, zZe p0 p1 p2 v1 s3_16 s3_24 v702 false r)) g1 (zqe [] [] ob0 (by kernel_rfl))
noncomputable def zSE (p0 : zd) (p1 p2 : Int) (s3_24 : zt16) (v1 : zt13) (s3_16 : Int) : TM := [(0, (.d (.agg (zp p0)))), (1, (xi p1)), (2, (xi p2)), (zsp 3), (6, (.d (.sl [] .nil))), (7, (.row 0 7 s3_24.length)), (15, (.d (dl zh p0.ShelfBook.Deliveries.1 p0.ShelfBook.Deliveries.2))), (16, (xi (p0.ShelfBook.Deliveries.1.length : Int))), (17, (xi v1.1)), (18, (xb false)), (36, (.d (dl zo p0.ShelfBook.Moves.1 p0.ShelfBook.Moves.2))), (37, (xi (p0.ShelfBook.Moves.1.length : Int))), (38, (xi s3_16))]
noncomputable def zVp (p0 : zd) (p1 p2 : Int) (v1 : zt13) (s3_16 : Int) (s3_24 : zt16) : St := ⟨(zSE p0 p1 p2 s3_24 v1 s3_16), ⟨[(zc 3 (zp p0)), (7, (rowO true 3 zR s3_24 true))], []⟩, []⟩
noncomputable def z9D (p0 : zd) (p1 p2 : Int) (r v1 : zt13) : TM := [(0, (.d (.agg (zp p0)))), (1, (xi p1)), (2, (xi p2)), (zsp 3), (6, (.d (.sl [] .nil))), (7, (.row 0 7 r.2.length)), (15, (.d (dl zh p0.ShelfBook.Deliveries.1 p0.ShelfBook.Deliveries.2))), (16, (xi (p0.ShelfBook.Deliveries.1.length : Int))), (17, (xi v1.1)), (18, (xb false)), (36, (.d (dl zo p0.ShelfBook.Moves.1 p0.ShelfBook.Moves.2))), (37, (xi (p0.ShelfBook.Moves.1.length : Int))), (38, (xi r.1)), (39, (xb false))]
noncomputable def zEg (p0 : zd) (p1 p2 : Int) (v1 r : zt13) : St := ⟨(z9D p0 p1 p2 r v1), ⟨[(zc 3 (zp p0)), (7, (rowO true 3 zR r.2 true))], []⟩, []⟩
noncomputable def zrp (p0 : zd) (p1 p2 : Int) (v1 : zt13) : (Int × (List zF)) → Ex × St := fun r => ((.exit 2), zEg p0 p1 p2 v1 r)
theorem z6o (k : Nat) (p0 : zd) (p1 p2 : Int) (v1 : zt13) (s3_16 : Int) (s3_24 : zt16) (x : (Int × (List zF)) ⊕ (Int × (List zF))) (h : zve k p0 p1 p2 v1 s3_16 s3_24 = some x) : zO TE 92 (blk TE 92 2) (fun s : (Int × (List zF)) => zVp p0 p1 p2 v1 s.1 s.2) (zrp p0 p1 p2 v1) (s3_16, s3_24) x := by
 unfold zve at h
 refine zl h (fun h701 g1 => ?_) (fun h701 g1 => ?_)
 ·refine zk g1 (fun v702 h703 g2 => ?_)
  refine zk g2 (fun v704 h705 g3 => ?_)
  refine zl g3 (fun h706 g4 => ?_) (fun h706 g4 => ?_)
  ·subst h706
   refine zk g4 (fun v707 h708 g5 => ?_)
   refine zT g5 (fun h709 g6 => ?_)
   exact zqn ((w64 (s3_16 + 1)), (s3_24 ++ [(⟨v707.2, v702.By⟩ : zF)])) [7] [(92, 9, 0, .q (xb true)), (92, 10, 0, .q (.d (.pin (zo v702)))), (92, 15, 3, .ap (s3_24 ++ [(⟨v707.2, v702.By⟩ : zF)]).length (rowO true 3 zR (s3_24 ++ [(⟨v707.2, v702.By⟩ : zF)]) true))] [(92, 1000011, (.nor, zJd p0 p1 p2 v1 s3_16 s3_24 v702 true)), (92, 2000057, (.nor, zZe p0 p1 p2 v1 s3_16 s3_24 v702 v702.Back v707))] g6 (ob (o_b h701) (ob (o_ia (e := zo) 5 h703 rfl) (ob (zmj k p0 p1 p2 v1 s3_16 s3_24 v702 _ h705) (ob (zYo k p0 p1 p2 v1 s3_16 s3_24 v702 v702.Back _ h708) (ob (o_ap (b := true) (z := 3) (e := zR) (l := s3_24) (w := true) (⟨v707.2, v702.By⟩ : zF) (fun _ => rfl) h709) (ob (zgc true 3 zR (s3_24 ++ [(⟨v707.2, v702.By⟩ : zF)]) true) ob0)))))) (by kernel_rfl)
  ·subst h706
   exact zqn ((w64 (s3_16 + 1)), s3_24) [7] [(92, 9, 0, .q (xb true)), (92, 10, 0, .q (.d (.pin (zo v702))))] [(92, 1000011, (.nor, zJd p0 p1 p2 v1 s3_16 s3_24 v702 false))] g4 (ob (o_b h701) (ob (o_ia (e := zo) 5 h703 rfl) (ob (zmj k p0 p1 p2 v1 s3_16 s3_24 v702 _ h705) (ob (zgc true 3 zR s3_24 true) ob0)))) (by kernel_rfl)
 ·exact zqo [(92, 9, 0, .q (xb false))] [] g1 (ob (o_b h701) ob0) (by kernel_rfl)
theorem zBk (k : Nat) (p0 : zd) (p1 p2 : Int) (r : (SL zF)) (h : zBe k p0 p1 p2 = some r) : zM TE (ev TE) 92 [(.agg (zp p0)), (di p1), (di p2)] = some (zCl r) := by
 unfold zBe at h
 refine zk h (fun v1 h2 g1 => ?_)
 refine zk g1 (fun v3 h4 g2 => ?_)
 exact zK (g := zCl) g2 (zqr [(92, 2, 3, .q (xi (p0.ShelfBook.Deliveries.1.length : Int))), (92, 8, 3, .q (xi (p0.ShelfBook.Moves.1.length : Int)))] [(92, 0, (.nor, zMg p0 p1 p2 v1)), (92, 2, (.nor, zEg p0 p1 p2 v1 v3))] [(dl zR v3.2 (rcap true v3.2))] (ob (zx zh p0.ShelfBook.Deliveries.1) (ob (zG (id := 0) (r' := (.nor, zMg p0 p1 p2 v1)) (zfb (zOo k p0 p1 p2) k _ _ h2) rfl) (ob (zx zo p0.ShelfBook.Moves.1) (ob (zG (id := 2) (r' := (.nor, zEg p0 p1 p2 v1 v3)) (zfb (z6o k p0 p1 p2 v1) k _ _ h4) rfl) (ob (show zpc ⟨[(7, (rowO true 3 zR v3.2 true))], []⟩ _ = _ from (o_s1 (x := (.row 0 7 v3.2.length)) (zDh true 3 zR v3.2 true rfl) o_s0)) ob0))))) (by kernel_rfl))
theorem zne (k : Nat) (p0 r : zt0) (h : zzb k p0 = some r) : zM TE (ev TE) 83 [(.agg (aB 61 p0))] = some (zrj r) := by
 unfold zzb at h
 exact zK (g := zrj) h (zqc [] [] ob0 (by kernel_rfl))
theorem zer (k : Nat) (p0 : zd) (p1 p2 r : Int) (h : zli k p0 p1 p2 = some r) : zM TE (ev TE) 114 [(.agg (zp p0)), (di p1), (di p2)] = some (zlm r) := by
 unfold zli at h
 exact zK (g := zlm) h (zqc [] [] ob0 (by kernel_rfl))
theorem zjr (k : Nat) (p0 : zd) (p1 p2 r : Int) (h : zti k p0 p1 p2 = some r) : zM TE (ev TE) 115 [(.agg (zp p0)), (di p1), (di p2)] = some (zqm r) := by
 unfold zti at h
 exact zK (g := zqm) h (zqc [] [] ob0 (by kernel_rfl))
noncomputable def zcF (p0 : zd) (p1 : zt0) (p2 : Int) (p3 : zj) (v1 : zt0) (s1_2 s9_14 v1203 : Int) (r : (Bool × (Nat → Bool))) : TM := [(0, (.d (.agg (zp p0)))), (1, (.d (.agg (aB 61 p1)))), (2, (xi p2)), (3, (.d (.agg [(di p3.Low), (di p3.High)]))), (zsp 4), (zsp 5), (zsp 6), (zsp 7), (zsp 8), (zsp 9), (14, (.d (.fn 96 [] [(.pin (aB 61 v1))]))), (15, (xi s1_2)), (10, (xi s1_2)), (11, (xi s9_14)), (21, (xb true)), (12, (xi v1203)), (40, (xb r.1))]
noncomputable def zOj (p0 : zd) (p1 : zt0) (p2 : Int) (p3 : zj) (v1 : zt0) : TM := [(0, (.d (.agg (zp p0)))), (1, (.d (.agg (aB 61 p1)))), (2, (xi p2)), (3, (.d (.agg [(di p3.Low), (di p3.High)]))), (zsp 4), (zsp 5), (zsp 6), (zsp 7), (zsp 8), (zsp 9), (14, (.d (.fn 96 [] [(.pin (aB 61 v1))])))]
noncomputable def zGe (p0 : zd) (p1 : zt0) (p2 : Int) (p3 : zj) (v1 : zt0) (s1_2 s9_14 : Int) (s9_27 : zt0) (v1203 : Int) (v1207 : Bool) (r : (Bool × (Nat → Bool))) : St := ⟨(zcF p0 p1 p2 p3 v1 s1_2 s9_14 v1203 r), ⟨[], [[(zc 4 (zp p0)), (zc 5 (aB 61 p1)), (6, (.cells [(xi p2)])), (7, (.cells [(xi p3.Low), (xi p3.High)])), (zc 8 (aB 61 (fun _ => false))), (zc 9 (aB 61 r.2))], []]⟩, [⟨(zOj p0 p1 p2 p3 v1), 0, rfP (blk TE 93 0), rfA (blk TE 93 0), rfB (blk TE 93 0), 93, .busy⟩]⟩
noncomputable def z4D (p0 : zd) (p1 : zt0) (p2 : Int) (p3 : zj) (v1 : zt0) (s1_2 s9_14 v1203 : Int) (v1207 : Bool) : TM := zOj p0 p1 p2 p3 v1 ++ [(15, (xi s1_2)), (10, (xi s1_2)), (11, (xi s9_14)), (21, (xb true)), (12, (xi v1203)), (40, (xb v1207))]
theorem zXn (k : Nat) (p0 : zd) (p1 : zt0) (p2 : Int) (p3 : zj) (v1 : zt0) (s1_2 s9_14 : Int) (s9_27 : zt0) (v1203 : Int) (v1207 : Bool) (r : (Bool × (Nat → Bool))) (h : zbe k p0 p1 p2 p3 v1 s1_2 s9_14 s9_27 v1203 v1207 = some r) : ev TE 93 (cnd TE 93 40) ⟨(z4D p0 p1 p2 p3 v1 s1_2 s9_14 v1203 v1207), ⟨[], [[(zc 4 (zp p0)), (zc 5 (aB 61 p1)), (6, (.cells [(xi p2)])), (7, (.cells [(xi p3.Low), (xi p3.High)])), (zc 8 (aB 61 (fun _ => false))), (zc 9 (aB 61 s9_27))], []]⟩, [⟨(zOj p0 p1 p2 p3 v1), 0, rfP (blk TE 93 0), rfA (blk TE 93 0), rfB (blk TE 93 0), 93, .busy⟩]⟩ = some (.nor, zGe p0 p1 p2 p3 v1 s1_2 s9_14 s9_27 v1203 v1207 r) := by
 unfold zbe at h
 refine zl h (fun h1301 g1 => ?_) (fun h1301 g1 => ?_)
 ·subst h1301
  refine zT g1 (fun h1302 g2 => ?_)
  exact zB (g := fun r => (Ex.nor, zGe p0 p1 p2 p3 v1 s1_2 s9_14 s9_27 v1203 true r)) g2 (zqe [(93, 9, 1, .q (.ptr 0 9 (v1203.toNat))), (93, 9, 2, .st ((aB 61 (upd s9_27 v1203.toNat true)).map .d))] [] (ob (zRd (m := 61) 0 9 0 1 v1203.toNat h1302 (by omega)) (ob (zfl 61 s9_27 v1203.toNat true (by have := h1302; simp only [Bool.and_eq_true, decide_eq_true_eq] at this; omega)) ob0)) (by kernel_rfl))
 ·subst h1301
  exact zB (g := fun r => (Ex.nor, zGe p0 p1 p2 p3 v1 s1_2 s9_14 s9_27 v1203 false r)) g1 (zqe [] [] ob0 (by kernel_rfl))
noncomputable def zLE (p0 : zd) (p1 : zt0) (p2 : Int) (p3 : zj) (v1 : zt0) (s1_2 s9_14 v1204 : Int) (r : (Bool × (Nat → Bool))) : TM := zOj p0 p1 p2 p3 v1 ++ [(15, (xi s1_2)), (10, (xi s1_2)), (11, (xi s9_14)), (21, (xb true)), (12, (xi v1204)), (40, (xb r.1))]
noncomputable def zFe (p0 : zd) (p1 : zt0) (p2 : Int) (p3 : zj) (v1 : zt0) (s1_2 s9_14 : Int) (s9_27 : zt0) (v1204 : Int) (v1208 : Bool) (r : (Bool × (Nat → Bool))) : St := ⟨(zLE p0 p1 p2 p3 v1 s1_2 s9_14 v1204 r), ⟨[], [[(zc 4 (zp p0)), (zc 5 (aB 61 p1)), (6, (.cells [(xi p2)])), (7, (.cells [(xi p3.Low), (xi p3.High)])), (zc 8 (aB 61 (fun _ => false))), (zc 9 (aB 61 r.2))], []]⟩, [⟨(zOj p0 p1 p2 p3 v1), 0, rfP (blk TE 93 0), rfA (blk TE 93 0), rfB (blk TE 93 0), 93, .busy⟩]⟩
noncomputable def zxE (p0 : zd) (p1 : zt0) (p2 : Int) (p3 : zj) (v1 : zt0) (s1_2 s9_14 v1204 : Int) (v1208 : Bool) : TM := zOj p0 p1 p2 p3 v1 ++ [(15, (xi s1_2)), (10, (xi s1_2)), (11, (xi s9_14)), (21, (xb true)), (12, (xi v1204)), (40, (xb v1208))]
theorem zbo (k : Nat) (p0 : zd) (p1 : zt0) (p2 : Int) (p3 : zj) (v1 : zt0) (s1_2 s9_14 : Int) (s9_27 : zt0) (v1204 : Int) (v1208 : Bool) (r : (Bool × (Nat → Bool))) (h : zde k p0 p1 p2 p3 v1 s1_2 s9_14 s9_27 v1204 v1208 = some r) : ev TE 93 (cnd TE 93 40) ⟨(zxE p0 p1 p2 p3 v1 s1_2 s9_14 v1204 v1208), ⟨[], [[(zc 4 (zp p0)), (zc 5 (aB 61 p1)), (6, (.cells [(xi p2)])), (7, (.cells [(xi p3.Low), (xi p3.High)])), (zc 8 (aB 61 (fun _ => false))), (zc 9 (aB 61 s9_27))], []]⟩, [⟨(zOj p0 p1 p2 p3 v1), 0, rfP (blk TE 93 0), rfA (blk TE 93 0), rfB (blk TE 93 0), 93, .busy⟩]⟩ = some (.nor, zFe p0 p1 p2 p3 v1 s1_2 s9_14 s9_27 v1204 v1208 r) := by
 unfold zde at h
 refine zl h (fun h1401 g1 => ?_) (fun h1401 g1 => ?_)
 ·subst h1401
  refine zT g1 (fun h1402 g2 => ?_)
  exact zB (g := fun r => (Ex.nor, zFe p0 p1 p2 p3 v1 s1_2 s9_14 s9_27 v1204 true r)) g2 (zqe [(93, 9, 1, .q (.ptr 0 9 (v1204.toNat))), (93, 9, 2, .st ((aB 61 (upd s9_27 v1204.toNat true)).map .d))] [] (ob (zRd (m := 61) 0 9 0 1 v1204.toNat h1402 (by omega)) (ob (zfl 61 s9_27 v1204.toNat true (by have := h1402; simp only [Bool.and_eq_true, decide_eq_true_eq] at this; omega)) ob0)) (by kernel_rfl))
 ·subst h1401
  exact zB (g := fun r => (Ex.nor, zFe p0 p1 p2 p3 v1 s1_2 s9_14 s9_27 v1204 false r)) g1 (zqe [] [] ob0 (by kernel_rfl))
noncomputable def zRp (p0 : zd) (p1 : zt0) (p2 : Int) (p3 : zj) (v1 : zt0) (s1_2 s9_14 : Int) (s9_27 : zt0) : St := ⟨(zOj p0 p1 p2 p3 v1 ++ [(15, (xi s1_2)), (10, (xi s1_2)), (11, (xi s9_14))]), ⟨[], [[(zc 4 (zp p0)), (zc 5 (aB 61 p1)), (6, (.cells [(xi p2)])), (7, (.cells [(xi p3.Low), (xi p3.High)])), (zc 8 (aB 61 (fun _ => false))), (zc 9 (aB 61 s9_27))], []]⟩, [⟨(zOj p0 p1 p2 p3 v1), 0, rfP (blk TE 93 0), rfA (blk TE 93 0), rfB (blk TE 93 0), 93, .busy⟩]⟩
noncomputable def zJg (p0 : zd) (p1 : zt0) (p2 : Int) (p3 : zj) (v1 : zt0) (s1_2 : Int) (r : zt15) : St := ⟨(zOj p0 p1 p2 p3 v1 ++ [(15, (xi s1_2)), (10, (xi s1_2)), (11, (xi r.1)), (21, (xb false))]), ⟨[], [[(zc 4 (zp p0)), (zc 5 (aB 61 p1)), (6, (.cells [(xi p2)])), (7, (.cells [(xi p3.Low), (xi p3.High)])), (zc 8 (aB 61 (fun _ => false))), (zc 9 (aB 61 r.2))], []]⟩, [⟨(zOj p0 p1 p2 p3 v1), 0, rfP (blk TE 93 0), rfA (blk TE 93 0), rfB (blk TE 93 0), 93, .busy⟩]⟩
noncomputable def zyp (p0 : zd) (p1 : zt0) (p2 : Int) (p3 : zj) (v1 : zt0) (s1_2 : Int) : (Int × (Nat → Bool)) → Ex × St := fun r => ((.exit 2), zJg p0 p1 p2 p3 v1 s1_2 r)
theorem z4o (k : Nat) (p0 : zd) (p1 : zt0) (p2 : Int) (p3 : zj) (v1 : zt0) (s1_2 s9_14 : Int) (s9_27 : zt0) (x : (Int × (Nat → Bool)) ⊕ (Int × (Nat → Bool))) (h : ztc k p0 p1 p2 p3 v1 s1_2 s9_14 s9_27 = some x) : zO TE 93 (blk TE 93 2) (fun s : (Int × (Nat → Bool)) => zRp p0 p1 p2 p3 v1 s1_2 s.1 s.2) (zyp p0 p1 p2 p3 v1 s1_2) (s9_14, s9_27) x := by
 unfold ztc at h
 refine zl h (fun h1201 g1 => ?_) (fun h1201 g1 => ?_)
 ·refine zl g1 (fun h1202 g2 => ?_) (fun h1202 g2 => ?_)
  ·refine zk g2 (fun v1203 h1204 g3 => ?_)
   refine zk g3 (fun v1205 h1206 g4 => ?_)
   refine zk g4 (fun v1207 h1208 g5 => ?_)
   refine zk g5 (fun v1209 h1210 g6 => ?_)
   exact zqn ((w64 (s9_14 + 1)), v1209.2) [] [(93, 5, 3, .q (xb true)), (93, 7, 1, .q (.d (.pin [(.fn 114 [] []), (.fn 115 [] [])]))), (93, 7, 6, .c (di v1203)), (93, 8, 6, .q (.d (.pin (zm v1205)))), (93, 8, 9, .c (db v1207))] [(93, 2000040, (.nor, zGe p0 p1 p2 p3 v1 s1_2 s9_14 s9_27 v1203 v1207 v1209))] g6 (ob (o_b h1201) (ob (z2x [(.fn 114 [] []), (.fn 115 [] [])] 2 1 (j := 0) (eq_of_beq h1202) (by decide)) (ob (zer k p0 s1_2 s9_14 _ h1204) (ob (o_ia (e := zm) 3 h1206 rfl) (ob (zI k v1203 0 v1205.Room _ h1208) (ob (zXn k p0 p1 p2 p3 v1 s1_2 s9_14 s9_27 v1203 v1207 _ h1210) ob0)))))) (by kernel_rfl)
  ·refine zl g2 (fun h1203 g3 => ?_) (fun h1203 g3 => ?_)
   ·refine zk g3 (fun v1204 h1205 g4 => ?_)
    refine zk g4 (fun v1206 h1207 g5 => ?_)
    refine zk g5 (fun v1208 h1209 g6 => ?_)
    refine zk g6 (fun v1210 h1211 g7 => ?_)
    exact zqn ((w64 (s9_14 + 1)), v1210.2) [] [(93, 5, 3, .q (xb true)), (93, 7, 1, .q (.d (.pin [(.fn 115 [] [])]))), (93, 7, 6, .c (di v1204)), (93, 8, 6, .q (.d (.pin (zm v1206)))), (93, 8, 9, .c (db v1208))] [(93, 2000040, (.nor, zFe p0 p1 p2 p3 v1 s1_2 s9_14 s9_27 v1204 v1208 v1210))] g7 (ob (o_b h1201) (ob (z2x [(.fn 114 [] []), (.fn 115 [] [])] 2 1 (j := 1) (eq_of_beq h1203) (by decide)) (ob (zjr k p0 s1_2 s9_14 _ h1205) (ob (o_ia (e := zm) 3 h1207 rfl) (ob (zI k v1204 0 v1206.Room _ h1209) (ob (zbo k p0 p1 p2 p3 v1 s1_2 s9_14 s9_27 v1204 v1208 _ h1211) ob0)))))) (by kernel_rfl)
   ·cases g3
 ·exact zqo [(93, 5, 3, .q (xb false))] [] g1 (ob (o_b h1201) ob0) (by kernel_rfl)
noncomputable def z1E (v1 : zt0) (s1_2 : Int) : TM := [(0, (.yld 0)), (1, (.d (.pin (aB 61 v1)))), (5, (.d (.agg (aB 61 v1)))), (6, (xi s1_2)), (7, (xb true)), (3, (xi s1_2)), (4, (xb (v1 s1_2.toNat))), (16, (xb false))]
noncomputable def zaf (p0 : zd) (p1 : zt0) (p2 : Int) (p3 : zj) (v1 : zt0) (s1_2 : Int) (s1_15 r : zt0) : St := ⟨(z1E v1 s1_2), ⟨[], [[(zc 4 (zp p0)), (zc 5 (aB 61 p1)), (6, (.cells [(xi p2)])), (7, (.cells [(xi p3.Low), (xi p3.High)])), (zc 8 (aB 61 (fun _ => false))), (zc 9 (aB 61 r))]]⟩, [⟨(zOj p0 p1 p2 p3 v1), 0, rfP (blk TE 93 0), rfA (blk TE 93 0), rfB (blk TE 93 0), 93, .rdy⟩]⟩
noncomputable def zBE (v1 : zt0) (s1_2 : Int) : TM := [(0, (.yld 0)), (1, (.d (.pin (aB 61 v1)))), (5, (.d (.agg (aB 61 v1)))), (6, (xi s1_2)), (7, (xb true)), (3, (xi s1_2)), (4, (xb (v1 s1_2.toNat)))]
theorem z1o (k : Nat) (p0 : zd) (p1 : zt0) (p2 : Int) (p3 : zj) (v1 : zt0) (s1_2 : Int) (s1_15 r : zt0) (h : z9f k p0 p1 p2 p3 v1 s1_2 s1_15 = some r) : ev TE 96 (rgn TE 96 3) ⟨(zBE v1 s1_2), ⟨[], [[(zc 4 (zp p0)), (zc 5 (aB 61 p1)), (6, (.cells [(xi p2)])), (7, (.cells [(xi p3.Low), (xi p3.High)])), (zc 8 (aB 61 (fun _ => false))), (zc 9 (aB 61 s1_15))]]⟩, [⟨(zOj p0 p1 p2 p3 v1), 0, rfP (blk TE 93 0), rfA (blk TE 93 0), rfB (blk TE 93 0), 93, .rdy⟩]⟩ = some (.nor, zaf p0 p1 p2 p3 v1 s1_2 s1_15 r) := by
 unfold z9f at h
 refine zl h (fun h901 g1 => ?_) (fun h901 g1 => ?_)
 ·refine zk g1 (fun v902 h903 g2 => ?_)
  exact zB (g := fun r => (Ex.nor, zaf p0 p1 p2 p3 v1 s1_2 s1_15 r)) g2 (zqe [(96, 3, 1, .q (xb true))] [(93, 2, (.nor, zJg p0 p1 p2 p3 v1 s1_2 v902))] (ob (o_b h901) (ob (zG (id := 2) (r' := (.nor, zJg p0 p1 p2 p3 v1 s1_2 v902)) (zfb (z4o k p0 p1 p2 p3 v1 s1_2) k _ _ h903) rfl) ob0)) (by kernel_rfl))
 ·exact zB (g := fun r => (Ex.nor, zaf p0 p1 p2 p3 v1 s1_2 s1_15 r)) g1 (zqe [(96, 3, 1, .q (xb false))] [] (ob (o_b h901) ob0) (by kernel_rfl))
noncomputable def zkE (v1 : zt0) (s1_2 : Int) : TM := [(0, (.yld 0)), (1, (.d (.pin (aB 61 v1)))), (5, (.d (.agg (aB 61 v1)))), (6, (xi s1_2))]
noncomputable def zwp (p0 : zd) (p1 : zt0) (p2 : Int) (p3 : zj) (v1 : zt0) (s1_2 : Int) (s1_15 : zt0) : St := ⟨(zkE v1 s1_2), ⟨[], [[(zc 4 (zp p0)), (zc 5 (aB 61 p1)), (6, (.cells [(xi p2)])), (7, (.cells [(xi p3.Low), (xi p3.High)])), (zc 8 (aB 61 (fun _ => false))), (zc 9 (aB 61 s1_15))]]⟩, [⟨(zOj p0 p1 p2 p3 v1), 0, rfP (blk TE 93 0), rfA (blk TE 93 0), rfB (blk TE 93 0), 93, .rdy⟩]⟩
noncomputable def zZE (v1 : zt0) (r : zt15) : TM := [(0, (.yld 0)), (1, (.d (.pin (aB 61 v1)))), (5, (.d (.agg (aB 61 v1)))), (6, (xi r.1)), (7, (xb false))]
noncomputable def zOg (p0 : zd) (p1 : zt0) (p2 : Int) (p3 : zj) (v1 : zt0) (r : zt15) : St := ⟨(zZE v1 r), ⟨[], [[(zc 4 (zp p0)), (zc 5 (aB 61 p1)), (6, (.cells [(xi p2)])), (7, (.cells [(xi p3.Low), (xi p3.High)])), (zc 8 (aB 61 (fun _ => false))), (zc 9 (aB 61 r.2))]]⟩, [⟨(zOj p0 p1 p2 p3 v1), 0, rfP (blk TE 93 0), rfA (blk TE 93 0), rfB (blk TE 93 0), 93, .rdy⟩]⟩
noncomputable def zTp (p0 : zd) (p1 : zt0) (p2 : Int) (p3 : zj) (v1 : zt0) : (Int × (Nat → Bool)) → Ex × St := fun r => ((.exit 0), zOg p0 p1 p2 p3 v1 r)
theorem zPo (k : Nat) (p0 : zd) (p1 : zt0) (p2 : Int) (p3 : zj) (v1 : zt0) (s1_2 : Int) (s1_15 : zt0) (x : (Int × (Nat → Bool)) ⊕ (Int × (Nat → Bool))) (h : zte k p0 p1 p2 p3 v1 s1_2 s1_15 = some x) : zO TE 96 (blk TE 96 0) (fun s : (Int × (Nat → Bool)) => zwp p0 p1 p2 p3 v1 s.1 s.2) (zTp p0 p1 p2 p3 v1) (s1_2, s1_15) x := by
 unfold zte at h
 refine zl h (fun h801 g1 => ?_) (fun h801 g1 => ?_)
 ·refine zT g1 (fun h802 g2 => ?_)
  refine zk g2 (fun v803 h804 g3 => ?_)
  exact zqn ((w64 (s1_2 + 1)), v803) [] [(96, 1, 0, .q (xb true)), (96, 2, 1, .q (xb (v1 s1_2.toNat)))] [(96, 1000003, (.nor, zaf p0 p1 p2 p3 v1 s1_2 s1_15 v803))] g3 (ob (o_b h801) (ob (zWt 61 v1 s1_2 h802) (ob (z1o k p0 p1 p2 p3 v1 s1_2 s1_15 _ h804) ob0))) (by kernel_rfl)
 ·exact zqo [(96, 1, 0, .q (xb false))] [] g1 (ob (o_b h801) ob0) (by kernel_rfl)
theorem zEk (k : Nat) (p0 : zd) (p1 : zt0) (p2 : Int) (p3 : zj) (r : zt0) (h : zEd k p0 p1 p2 p3 = some r) : zM TE (ev TE) 93 [(.agg (zp p0)), (.agg (aB 61 p1)), (di p2), (.agg [(di p3.Low), (di p3.High)])] = some (zil r) := by
 unfold zEd at h
 refine zk h (fun v1 h2 g1 => ?_)
 refine zk g1 (fun v3 h4 g2 => ?_)
 exact zK (g := zil) g2 (zqc [(93, 2, 1, .c (.fn 96 [] [(.pin (aB 61 v1))]))] [(96, 0, (.nor, zOg p0 p1 p2 p3 v1 v3))] (ob (zne k p1 _ h2) (ob (zG (id := 0) (r' := (.nor, zOg p0 p1 p2 p3 v1 v3)) (zfb (zPo k p0 p1 p2 p3 v1) k _ _ h4) rfl) ob0)) (by kernel_rfl))
noncomputable def zbE (p0 : zd) (p1 : zt0) (p2 s1_11 : Int) (r : Bool) : TM := [(0, (.d (.agg (zp p0)))), (1, (.d (.agg (aB 61 p1)))), (2, (xi p2)), (zsp 3), (zsp 4), (zsp 6), (12, (.d (dl zi p0.ShelfBook.Counts.1 p0.ShelfBook.Counts.2))), (13, (xi (p0.ShelfBook.Counts.1.length : Int))), (14, (xi s1_11)), (15, (xb true)), (zsp 8), (7, (xi s1_11)), (37, (xb r))]
noncomputable def zcc (p0 : zd) (p1 : zt0) (p2 s1_11 : Int) (s1_19 : zt0) (v602 : zn) (r : Bool) : St := ⟨(zbE p0 p1 p2 s1_11 r), ⟨[(zc 3 (zp p0)), (zc 4 (aB 61 s1_19)), (zc 6 (aB 61 (fun _ => false))), (zc 8 (zi v602))], []⟩, []⟩
noncomputable def z5v (p0 : zd) (p1 : zt0) (p2 s1_11 : Int) : TM := [(0, (.d (.agg (zp p0)))), (1, (.d (.agg (aB 61 p1)))), (2, (xi p2)), (zsp 3), (zsp 4), (zsp 6), (12, (.d (dl zi p0.ShelfBook.Counts.1 p0.ShelfBook.Counts.2))), (13, (xi (p0.ShelfBook.Counts.1.length : Int))), (14, (xi s1_11)), (15, (xb true)), (zsp 8), (7, (xi s1_11))]
theorem zzi (k : Nat) (p0 : zd) (p1 : zt0) (p2 s1_11 : Int) (s1_19 : zt0) (v602 : zn) (r : Bool) (h : zYe k p0 p1 p2 s1_11 s1_19 v602 = some r) : ev TE 95 (rgn TE 95 4) ⟨(z5v p0 p1 p2 s1_11), ⟨[(zc 3 (zp p0)), (zc 4 (aB 61 s1_19)), (zc 6 (aB 61 (fun _ => false))), (zc 8 (zi v602))], []⟩, []⟩ = some (.nor, zcc p0 p1 p2 s1_11 s1_19 v602 r) := by
 unfold zYe at h
 refine zl h (fun h701 g1 => ?_) (fun h701 g1 => ?_)
 ·exact zB (g := fun r => (Ex.nor, zcc p0 p1 p2 s1_11 s1_19 v602 r)) g1 (zqe [(95, 4, 4, .q (xb true))] [] (ob (o_b h701) ob0) (by kernel_rfl))
 ·refine zl g1 (fun h702 g2 => ?_) (fun h702 g2 => ?_)
  ·exact zB (g := fun r => (Ex.nor, zcc p0 p1 p2 s1_11 s1_19 v602 r)) g2 (zqe [(95, 4, 4, .q (xb false)), (95, 4, 11, .q (xb true))] [] (ob (o_b h701) (ob (o_b h702) ob0)) (by kernel_rfl))
  ·refine zl g2 (fun h703 g3 => ?_) (fun h703 g3 => ?_)
   ·cases g3
   ·exact zB (g := fun r => (Ex.nor, zcc p0 p1 p2 s1_11 s1_19 v602 r)) g3 (zqe [(95, 4, 4, .q (xb false)), (95, 4, 11, .q (xb false)), (95, 4, 15, .q (xi (z7 p0.left s1_11)))] [] (ob (o_b h701) (ob (o_b h702) (ob (z5e (x := p0.left) h703) ob0))) (by kernel_rfl))
noncomputable def zle (p0 : zd) (p1 : zt0) (p2 s1_11 : Int) (v602 : zn) (s7_15 : Int) (s7_23 r : zt0) : St := ⟨(z5v p0 p1 p2 s1_11 ++ [(37, (xb false)), (38, (xi s7_15)), (39, (xb true)), (9, (xi s7_15))]), ⟨[(zc 3 (zp p0)), (zc 4 (aB 61 r)), (zc 6 (aB 61 (fun _ => false))), (zc 8 (zi v602))], []⟩, []⟩
theorem zbn (k : Nat) (p0 : zd) (p1 : zt0) (p2 s1_11 : Int) (v602 : zn) (s7_15 : Int) (s7_23 r : zt0) (h : z9e k p0 p1 p2 s1_11 v602 s7_15 s7_23 = some r) : ev TE 95 (rgn TE 95 8) ⟨(z5v p0 p1 p2 s1_11 ++ [(37, (xb false)), (38, (xi s7_15)), (39, (xb true)), (9, (xi s7_15))]), ⟨[(zc 3 (zp p0)), (zc 4 (aB 61 s7_23)), (zc 6 (aB 61 (fun _ => false))), (zc 8 (zi v602))], []⟩, []⟩ = some (.nor, zle p0 p1 p2 s1_11 v602 s7_15 s7_23 r) := by
 unfold z9e at h
 refine zT h (fun h1001 g1 => ?_)
 refine zl g1 (fun h1002 g2 => ?_) (fun h1002 g2 => ?_)
 ·refine zk g2 (fun v1003 h1004 g3 => ?_)
  exact zB (g := fun r => (Ex.nor, zle p0 p1 p2 s1_11 v602 s7_15 s7_23 r)) g3 (zqe [(95, 8, 2, .q (.ptr 0 4 (s7_15.toNat))), (95, 8, 3, .q (xb (s7_23 s7_15.toNat))), (95, 8, 4, .q (xb true)), (95, 8, 16, .c (db v1003)), (95, 8, 18, .q (.ptr 0 4 (s7_15.toNat))), (95, 8, 19, .st ((aB 61 (upd s7_23 s7_15.toNat v1003)).map .d))] [] (ob (zRd (m := 61) 0 4 0 1 s7_15.toNat h1001 (by omega)) (ob (zvt 61 s7_23 s7_15.toNat (by have := h1001; simp only [Bool.and_eq_true, decide_eq_true_eq] at this; omega)) (ob (o_b h1002) (ob (zI k s7_15 (w64 (v602.Read - v602.Err)) (w64 (v602.Read + v602.Err)) _ h1004) (ob (zRd (m := 61) 0 4 0 1 s7_15.toNat h1001 (by omega)) (ob (zfl 61 s7_23 s7_15.toNat v1003 (by have := h1001; simp only [Bool.and_eq_true, decide_eq_true_eq] at this; omega)) ob0)))))) (by kernel_rfl))
 ·exact zB (g := fun r => (Ex.nor, zle p0 p1 p2 s1_11 v602 s7_15 s7_23 r)) g2 (zqe [(95, 8, 2, .q (.ptr 0 4 (s7_15.toNat))), (95, 8, 3, .q (xb (s7_23 s7_15.toNat))), (95, 8, 4, .q (xb false)), (95, 8, 18, .q (.ptr 0 4 (s7_15.toNat))), (95, 8, 19, .st ((aB 61 (upd s7_23 s7_15.toNat false)).map .d))] [] (ob (zRd (m := 61) 0 4 0 1 s7_15.toNat h1001 (by omega)) (ob (zvt 61 s7_23 s7_15.toNat (by have := h1001; simp only [Bool.and_eq_true, decide_eq_true_eq] at this; omega)) (ob (o_b h1002) (ob (zRd (m := 61) 0 4 0 1 s7_15.toNat h1001 (by omega)) (ob (zfl 61 s7_23 s7_15.toNat false (by have := h1001; simp only [Bool.and_eq_true, decide_eq_true_eq] at this; omega)) ob0))))) (by kernel_rfl))
noncomputable def zYn (p0 : zd) (p1 : zt0) (p2 s1_11 : Int) (v602 : zn) (s7_15 : Int) (s7_23 : zt0) : St := ⟨(z5v p0 p1 p2 s1_11 ++ [(37, (xb false)), (38, (xi s7_15))]), ⟨[(zc 3 (zp p0)), (zc 4 (aB 61 s7_23)), (zc 6 (aB 61 (fun _ => false))), (zc 8 (zi v602))], []⟩, []⟩
noncomputable def zTf (p0 : zd) (p1 : zt0) (p2 s1_11 : Int) (v602 : zn) (r : zt15) : St := ⟨(z5v p0 p1 p2 s1_11 ++ [(37, (xb false)), (38, (xi r.1)), (39, (xb false))]), ⟨[(zc 3 (zp p0)), (zc 4 (aB 61 r.2)), (zc 6 (aB 61 (fun _ => false))), (zc 8 (zi v602))], []⟩, []⟩
noncomputable def z1n (p0 : zd) (p1 : zt0) (p2 s1_11 : Int) (v602 : zn) : (Int × (Nat → Bool)) → Ex × St := fun r => ((.exit 2), zTf p0 p1 p2 s1_11 v602 r)
theorem zLn (k : Nat) (p0 : zd) (p1 : zt0) (p2 s1_11 : Int) (v602 : zn) (s7_15 : Int) (s7_23 : zt0) (x : (Int × (Nat → Bool)) ⊕ (Int × (Nat → Bool))) (h : zIc k p0 p1 p2 s1_11 v602 s7_15 s7_23 = some x) : zO TE 95 (blk TE 95 2) (fun s : (Int × (Nat → Bool)) => zYn p0 p1 p2 s1_11 v602 s.1 s.2) (z1n p0 p1 p2 s1_11 v602) (s7_15, s7_23) x := by
 unfold zIc at h
 refine zl h (fun h901 g1 => ?_) (fun h901 g1 => ?_)
 ·refine zk g1 (fun v902 h903 g2 => ?_)
  exact zqn ((w64 (s7_15 + 1)), v902) [] [(95, 6, 0, .q (xb true))] [(95, 1000008, (.nor, zle p0 p1 p2 s1_11 v602 s7_15 s7_23 v902))] g2 (ob (o_b h901) (ob (zbn k p0 p1 p2 s1_11 v602 s7_15 s7_23 _ h903) ob0)) (by kernel_rfl)
 ·exact zqo [(95, 6, 0, .q (xb false))] [] g1 (ob (o_b h901) ob0) (by kernel_rfl)
noncomputable def z1D (p0 : zd) (p1 : zt0) (p2 s1_11 : Int) : TM := [(0, (.d (.agg (zp p0)))), (1, (.d (.agg (aB 61 p1)))), (2, (xi p2)), (zsp 3), (zsp 4), (zsp 6), (12, (.d (dl zi p0.ShelfBook.Counts.1 p0.ShelfBook.Counts.2))), (13, (xi (p0.ShelfBook.Counts.1.length : Int))), (14, (xi s1_11))]
noncomputable def zfo (p0 : zd) (p1 : zt0) (p2 s1_11 : Int) (s1_19 : zt0) : St := ⟨(z1D p0 p1 p2 s1_11), ⟨[(zc 3 (zp p0)), (zc 4 (aB 61 s1_19)), (zc 6 (aB 61 (fun _ => false)))], []⟩, []⟩
noncomputable def zhE (p0 : zd) (p1 : zt0) (p2 : Int) (r : zt15) : TM := [(0, (.d (.agg (zp p0)))), (1, (.d (.agg (aB 61 p1)))), (2, (xi p2)), (zsp 3), (zsp 4), (zsp 6), (12, (.d (dl zi p0.ShelfBook.Counts.1 p0.ShelfBook.Counts.2))), (13, (xi (p0.ShelfBook.Counts.1.length : Int))), (14, (xi r.1)), (15, (xb false))]
noncomputable def z5f (p0 : zd) (p1 : zt0) (p2 : Int) (r : zt15) : St := ⟨(zhE p0 p1 p2 r), ⟨[(zc 3 (zp p0)), (zc 4 (aB 61 r.2)), (zc 6 (aB 61 (fun _ => false)))], []⟩, []⟩
noncomputable def z0n (p0 : zd) (p1 : zt0) (p2 : Int) : (Int × (Nat → Bool)) → Ex × St := fun r => ((.exit 0), z5f p0 p1 p2 r)
theorem zon (k : Nat) (p0 : zd) (p1 : zt0) (p2 s1_11 : Int) (s1_19 : zt0) (x : (Int × (Nat → Bool)) ⊕ (Int × (Nat → Bool))) (h : zVd k p0 p1 p2 s1_11 s1_19 = some x) : zO TE 95 (blk TE 95 0) (fun s : (Int × (Nat → Bool)) => zfo p0 p1 p2 s.1 s.2) (z0n p0 p1 p2) (s1_11, s1_19) x := by
 unfold zVd at h
 refine zl h (fun h601 g1 => ?_) (fun h601 g1 => ?_)
 ·refine zk g1 (fun v602 h603 g2 => ?_)
  refine zk g2 (fun v604 h605 g3 => ?_)
  refine zl g3 (fun h606 g4 => ?_) (fun h606 g4 => ?_)
  ·subst h606
   exact zqn ((w64 (s1_11 + 1)), s1_19) [] [(95, 2, 0, .q (xb true)), (95, 3, 1, .q (.d (.pin (zi v602))))] [(95, 1000004, (.nor, zcc p0 p1 p2 s1_11 s1_19 v602 true))] g4 (ob (o_b h601) (ob (o_ia (e := zi) 4 h603 rfl) (ob (zzi k p0 p1 p2 s1_11 s1_19 v602 _ h605) ob0))) (by kernel_rfl)
  ·subst h606
   refine zk g4 (fun v607 h608 g5 => ?_)
   exact zqn ((w64 (s1_11 + 1)), v607.2) [] [(95, 2, 0, .q (xb true)), (95, 3, 1, .q (.d (.pin (zi v602))))] [(95, 1000004, (.nor, zcc p0 p1 p2 s1_11 s1_19 v602 false)), (95, 2, (.nor, zTf p0 p1 p2 s1_11 v602 v607))] g5 (ob (o_b h601) (ob (o_ia (e := zi) 4 h603 rfl) (ob (zzi k p0 p1 p2 s1_11 s1_19 v602 _ h605) (ob (zG (id := 2) (r' := (.nor, zTf p0 p1 p2 s1_11 v602 v607)) (zfb (zLn k p0 p1 p2 s1_11 v602) k _ _ h608) rfl) ob0)))) (by kernel_rfl)
 ·exact zqo [(95, 2, 0, .q (xb false))] [] g1 (ob (o_b h601) ob0) (by kernel_rfl)
theorem z1j (k : Nat) (p0 : zd) (p1 : zt0) (p2 : Int) (r : zt0) (h : zSd k p0 p1 p2 = some r) : zM TE (ev TE) 95 [(.agg (zp p0)), (.agg (aB 61 p1)), (di p2)] = some (zqk r) := by
 unfold zSd at h
 refine zk h (fun v1 h2 g1 => ?_)
 exact zK (g := zqk) g1 (zqc [(95, 1, 3, .q (xi (p0.ShelfBook.Counts.1.length : Int)))] [(95, 0, (.nor, z5f p0 p1 p2 v1))] (ob (zx zi p0.ShelfBook.Counts.1) (ob (zG (id := 0) (r' := (.nor, z5f p0 p1 p2 v1)) (zfb (zon k p0 p1 p2) k _ _ h2) rfl) ob0)) (by kernel_rfl))
noncomputable def zfE (v1 : zt0) (s1_2 : Int) : TM := [(0, (.yld 0)), (1, (.d (.pin (aB 61 v1)))), (5, (.d (.agg (aB 61 v1)))), (6, (xi s1_2)), (7, (xb true)), (3, (xi s1_2)), (4, (xb (v1 s1_2.toNat))), (16, (xb false))]
noncomputable def zpx (p0 p1 v1 : zt0) : TM := [(0, (.d (.agg (aB 61 p0)))), (1, (.d (.agg (aB 61 p1)))), (zsp 2), (zsp 3), (zsp 4), (7, (.d (.fn 96 [] [(.pin (aB 61 v1))])))]
noncomputable def zmi (p0 p1 v1 : zt0) (s1_2 : Int) (s1_3 r : zt0) : St := ⟨(zfE v1 s1_2), ⟨[], [[(zc 2 (aB 61 r)), (zc 3 (aB 61 p1)), (zc 4 (aB 61 (fun _ => false)))]]⟩, [⟨(zpx p0 p1 v1), 0, rfP (blk TE 94 0), rfA (blk TE 94 0), rfB (blk TE 94 0), 94, .rdy⟩]⟩
noncomputable def zzE (v1 : zt0) (s1_2 : Int) : TM := [(0, (.yld 0)), (1, (.d (.pin (aB 61 v1)))), (5, (.d (.agg (aB 61 v1)))), (6, (xi s1_2)), (7, (xb true)), (3, (xi s1_2)), (4, (xb (v1 s1_2.toNat)))]
theorem zXs (k : Nat) (p0 p1 v1 : zt0) (s1_2 : Int) (s1_3 r : zt0) (h : zCj k p0 p1 v1 s1_2 s1_3 = some r) : ev TE 96 (rgn TE 96 3) ⟨(zzE v1 s1_2), ⟨[], [[(zc 2 (aB 61 s1_3)), (zc 3 (aB 61 p1)), (zc 4 (aB 61 (fun _ => false)))]]⟩, [⟨(zpx p0 p1 v1), 0, rfP (blk TE 94 0), rfA (blk TE 94 0), rfB (blk TE 94 0), 94, .rdy⟩]⟩ = some (.nor, zmi p0 p1 v1 s1_2 s1_3 r) := by
 unfold zCj at h
 refine zl h (fun h401 g1 => ?_) (fun h401 g1 => ?_)
 ·refine zT g1 (fun h402 g2 => ?_)
  exact zB (g := fun r => (Ex.nor, zmi p0 p1 v1 s1_2 s1_3 r)) g2 (zqe [(96, 3, 1, .q (xb true)), (94, 3, 1, .q (.ptr 0 2 (s1_2.toNat))), (94, 3, 2, .st ((aB 61 (upd s1_3 s1_2.toNat true)).map .d))] [] (ob (o_b h401) (ob (zRd (m := 61) 0 2 0 1 s1_2.toNat h402 (by omega)) (ob (zfl 61 s1_3 s1_2.toNat true (by have := h402; simp only [Bool.and_eq_true, decide_eq_true_eq] at this; omega)) ob0))) (by kernel_rfl))
 ·exact zB (g := fun r => (Ex.nor, zmi p0 p1 v1 s1_2 s1_3 r)) g1 (zqe [(96, 3, 1, .q (xb false))] [] (ob (o_b h401) ob0) (by kernel_rfl))
noncomputable def z7D (v1 : zt0) (s1_2 : Int) : TM := [(0, (.yld 0)), (1, (.d (.pin (aB 61 v1)))), (5, (.d (.agg (aB 61 v1)))), (6, (xi s1_2))]
noncomputable def zTt (p0 p1 v1 : zt0) (s1_2 : Int) (s1_3 : zt0) : St := ⟨(z7D v1 s1_2), ⟨[], [[(zc 2 (aB 61 s1_3)), (zc 3 (aB 61 p1)), (zc 4 (aB 61 (fun _ => false)))]]⟩, [⟨(zpx p0 p1 v1), 0, rfP (blk TE 94 0), rfA (blk TE 94 0), rfB (blk TE 94 0), 94, .rdy⟩]⟩
noncomputable def zDE (v1 : zt0) (r : zt15) : TM := [(0, (.yld 0)), (1, (.d (.pin (aB 61 v1)))), (5, (.d (.agg (aB 61 v1)))), (6, (xi r.1)), (7, (xb false))]
noncomputable def zPj (p0 p1 v1 : zt0) (r : zt15) : St := ⟨(zDE v1 r), ⟨[], [[(zc 2 (aB 61 r.2)), (zc 3 (aB 61 p1)), (zc 4 (aB 61 (fun _ => false)))]]⟩, [⟨(zpx p0 p1 v1), 0, rfP (blk TE 94 0), rfA (blk TE 94 0), rfB (blk TE 94 0), 94, .rdy⟩]⟩
noncomputable def zFt (p0 p1 v1 : zt0) : (Int × (Nat → Bool)) → Ex × St := fun r => ((.exit 0), zPj p0 p1 v1 r)
theorem zns (k : Nat) (p0 p1 v1 : zt0) (s1_2 : Int) (s1_3 : zt0) (x : (Int × (Nat → Bool)) ⊕ (Int × (Nat → Bool))) (h : z6h k p0 p1 v1 s1_2 s1_3 = some x) : zO TE 96 (blk TE 96 0) (fun s : (Int × (Nat → Bool)) => zTt p0 p1 v1 s.1 s.2) (zFt p0 p1 v1) (s1_2, s1_3) x := by
 unfold z6h at h
 refine zl h (fun h301 g1 => ?_) (fun h301 g1 => ?_)
 ·refine zT g1 (fun h302 g2 => ?_)
  refine zk g2 (fun v303 h304 g3 => ?_)
  exact zqn ((w64 (s1_2 + 1)), v303) [] [(96, 1, 0, .q (xb true)), (96, 2, 1, .q (xb (v1 s1_2.toNat)))] [(96, 1000003, (.nor, zmi p0 p1 v1 s1_2 s1_3 v303))] g3 (ob (o_b h301) (ob (zWt 61 v1 s1_2 h302) (ob (zXs k p0 p1 v1 s1_2 s1_3 _ h304) ob0))) (by kernel_rfl)
 ·exact zqo [(96, 1, 0, .q (xb false))] [] g1 (ob (o_b h301) ob0) (by kernel_rfl)
theorem zMq (k : Nat) (p0 p1 r : zt0) (h : z5i k p0 p1 = some r) : zM TE (ev TE) 94 [(.agg (aB 61 p0)), (.agg (aB 61 p1))] = some (z6q r) := by
 unfold z5i at h
 refine zk h (fun v1 h2 g1 => ?_)
 refine zk g1 (fun v3 h4 g2 => ?_)
 exact zK (g := z6q) g2 (zqc [(94, 1, 1, .c (.fn 96 [] [(.pin (aB 61 v1))]))] [(96, 0, (.nor, zPj p0 p1 v1 v3))] (ob (zne k p1 _ h2) (ob (zG (id := 0) (r' := (.nor, zPj p0 p1 v1 v3)) (zfb (zns k p0 p1 v1) k _ _ h4) rfl) ob0)) (by kernel_rfl))
noncomputable def zQE (v3105 : zt5) (s31_10 s36_15 : Int) (r : Bool) : TM := [(0, (.yld 0)), (1, (.d (.pin [(di v3105.1), (dl zm v3105.2.1.1 v3105.2.1.2), (dl zo v3105.2.2.1.1 v3105.2.2.1.2), (dl zh v3105.2.2.2.1.1 v3105.2.2.2.1.2), (dl zi v3105.2.2.2.2.1.1 v3105.2.2.2.2.1.2), (di v3105.2.2.2.2.2.1), (di v3105.2.2.2.2.2.2.1)]))), (2, (.d (.pin [(di v3105.2.2.2.2.2.2.2.1)]))), (3, (.d (.pin [(di v3105.2.2.2.2.2.2.2.2)]))), (14, (xi (zL 1 (v3105.2.2.2.1.1.length : Int)))), (15, (xi s31_10)), (16, (xb true)), (5, (xi s31_10)), (20, (.d (dl zh v3105.2.2.2.1.1 v3105.2.2.2.1.2))), (21, (xi (v3105.2.2.2.1.1.length : Int))), (22, (xi s36_15)), (23, (xb true)), (7, (.ptr 1 7 0)), (6, (xi s36_15)), (8, (xb ((zqb (z7 v3105.2.2.2.2.2.2.2.1 s36_15) 1) == 1))), (9, (xb ((zqb (z7 s31_10 s36_15) 1) == 1))), (41, (xb false)), (76, (xb r))]
noncomputable def zWl (p0 : zd) (s1_8 s21_11 : Int) (v3105 : zt5) : TM := [(0, (.d (.agg (zp p0)))), (zsp 1), (2, (.d .nilm)), (zsp 3), (18, (xi p0.ShelfBook.Days)), (19, (xi s1_8)), (20, (xb true)), (zsp 4), (26, (xi (zL 1 (p0.ShelfBook.Deliveries.1.length : Int)))), (27, (xi s21_11)), (28, (xb true)), (zsp 5), (zsp 6), (38, (xb false)), (42, (.d (.fn 97 [] [(.pin [(di v3105.1), (dl zm v3105.2.1.1 v3105.2.1.2), (dl zo v3105.2.2.1.1 v3105.2.2.1.2), (dl zh v3105.2.2.2.1.1 v3105.2.2.2.1.2), (dl zi v3105.2.2.2.2.1.1 v3105.2.2.2.2.1.2), (di v3105.2.2.2.2.2.1), (di v3105.2.2.2.2.2.2.1)]), (.pin [(di v3105.2.2.2.2.2.2.2.1)]), (.pin [(di v3105.2.2.2.2.2.2.2.2)])])))]
noncomputable def zY (p0 : zd) (s1_8 s21_11 : Int) (s21_19 : zt2) (v3105 : zt5) (s31_10 : Int) (s31_18 : zt2) (s36_15 : Int) (v3802 : zt) (r : Bool) : St := ⟨(zQE v3105 s31_10 s36_15 r), ⟨[(zc 7 (zh v3802))], [[(zc 1 (zp p0)), (11, (.map (em (fun k => D.agg (zE k)) (fun v => D.agg ((aB 61) v)) s31_18))), (3, (.cells [(.map 0 11)])), (4, (.cells [(xi s1_8)])), (5, (.cells [(xi s21_11)])), (zc 6 (aB 61 ((zbb zD (⟨(w64 (s1_8 - 1)), s21_11⟩ : zu) s21_19).getD (fun _ => false))))]]⟩, [⟨(zWl p0 s1_8 s21_11 v3105), 0, rfP (blk TE 81 4), rfA (blk TE 81 4), rfB (blk TE 81 4), 81, .rdy⟩]⟩
noncomputable def z2E (v3105 : zt5) (s31_10 s36_15 : Int) : TM := [(0, (.yld 0)), (1, (.d (.pin [(di v3105.1), (dl zm v3105.2.1.1 v3105.2.1.2), (dl zo v3105.2.2.1.1 v3105.2.2.1.2), (dl zh v3105.2.2.2.1.1 v3105.2.2.2.1.2), (dl zi v3105.2.2.2.2.1.1 v3105.2.2.2.2.1.2), (di v3105.2.2.2.2.2.1), (di v3105.2.2.2.2.2.2.1)]))), (2, (.d (.pin [(di v3105.2.2.2.2.2.2.2.1)]))), (3, (.d (.pin [(di v3105.2.2.2.2.2.2.2.2)]))), (14, (xi (zL 1 (v3105.2.2.2.1.1.length : Int)))), (15, (xi s31_10)), (16, (xb true)), (5, (xi s31_10)), (20, (.d (dl zh v3105.2.2.2.1.1 v3105.2.2.2.1.2))), (21, (xi (v3105.2.2.2.1.1.length : Int))), (22, (xi s36_15)), (23, (xb true)), (7, (.ptr 1 7 0)), (6, (xi s36_15)), (8, (xb ((zqb (z7 v3105.2.2.2.2.2.2.2.1 s36_15) 1) == 1))), (9, (xb ((zqb (z7 s31_10 s36_15) 1) == 1))), (41, (xb false))]
theorem zaj (k : Nat) (p0 : zd) (s1_8 s21_11 : Int) (s21_19 : zt2) (v3105 : zt5) (s31_10 : Int) (s31_18 : zt2) (s36_15 : Int) (v3802 : zt) (r : Bool) (h : zHf k p0 s1_8 s21_11 s21_19 v3105 s31_10 s31_18 s36_15 v3802 = some r) : ev TE 97 (rgn TE 97 9) ⟨(z2E v3105 s31_10 s36_15), ⟨[(zc 7 (zh v3802))], [[(zc 1 (zp p0)), (11, (.map (em (fun k => D.agg (zE k)) (fun v => D.agg ((aB 61) v)) s31_18))), (3, (.cells [(.map 0 11)])), (4, (.cells [(xi s1_8)])), (5, (.cells [(xi s21_11)])), (zc 6 (aB 61 ((zbb zD (⟨(w64 (s1_8 - 1)), s21_11⟩ : zu) s21_19).getD (fun _ => false))))]]⟩, [⟨(zWl p0 s1_8 s21_11 v3105), 0, rfP (blk TE 81 4), rfA (blk TE 81 4), rfB (blk TE 81 4), 81, .rdy⟩]⟩ = some (.nor, zY p0 s1_8 s21_11 s21_19 v3105 s31_10 s31_18 s36_15 v3802 r) := by
 unfold zHf at h
 refine zl h (fun h3901 g1 => ?_) (fun h3901 g1 => ?_)
 ·refine zl g1 (fun h3902 g2 => ?_) (fun h3902 g2 => ?_)
  ·exact zB (g := fun r => (Ex.nor, zY p0 s1_8 s21_11 s21_19 v3105 s31_10 s31_18 s36_15 v3802 r)) g2 (zqe [(97, 9, 1, .q (xb true)), (97, 9, 5, .q (xb true))] [] (ob (o_b h3901) (ob (o_b h3902) ob0)) (by kernel_rfl))
  ·refine zl g2 (fun h3903 g3 => ?_) (fun h3903 g3 => ?_)
   ·refine zl g3 (fun h3904 g4 => ?_) (fun h3904 g4 => ?_)
    ·refine zk g4 (fun v3905 h3906 g5 => ?_)
     refine zl g5 (fun h3907 g6 => ?_) (fun h3907 g6 => ?_)
     ·exact zB (g := fun r => (Ex.nor, zY p0 s1_8 s21_11 s21_19 v3105 s31_10 s31_18 s36_15 v3802 r)) g6 (zqe [(97, 9, 1, .q (xb true)), (97, 9, 5, .q (xb false)), (97, 9, 7, .q (xb true)), (97, 9, 11, .q (xb true)), (97, 9, 19, .c (db v3905)), (97, 9, 23, .q (xb true))] [] (ob (o_b h3901) (ob (o_b h3902) (ob (o_b h3903) (ob (o_b h3904) (ob (zI k v3105.2.2.2.2.2.2.2.2 v3802.Days.Low v3802.Days.High _ h3906) (ob (o_b h3907) ob0)))))) (by kernel_rfl))
     ·exact zB (g := fun r => (Ex.nor, zY p0 s1_8 s21_11 s21_19 v3105 s31_10 s31_18 s36_15 v3802 r)) g6 (zqe [(97, 9, 1, .q (xb true)), (97, 9, 5, .q (xb false)), (97, 9, 7, .q (xb true)), (97, 9, 11, .q (xb true)), (97, 9, 19, .c (db v3905)), (97, 9, 23, .q (xb false)), (97, 9, 26, .q (xb false))] [] (ob (o_b h3901) (ob (o_b h3902) (ob (o_b h3903) (ob (o_b h3904) (ob (zI k v3105.2.2.2.2.2.2.2.2 v3802.Days.Low v3802.Days.High _ h3906) (ob (o_b h3907) (ob (o_b h3902) ob0))))))) (by kernel_rfl))
    ·exact zB (g := fun r => (Ex.nor, zY p0 s1_8 s21_11 s21_19 v3105 s31_10 s31_18 s36_15 v3802 r)) g4 (zqe [(97, 9, 1, .q (xb true)), (97, 9, 5, .q (xb false)), (97, 9, 7, .q (xb true)), (97, 9, 11, .q (xb false)), (97, 9, 26, .q (xb false))] [] (ob (o_b h3901) (ob (o_b h3902) (ob (o_b h3903) (ob (o_b h3904) (ob (o_b h3902) ob0))))) (by kernel_rfl))
   ·exact zB (g := fun r => (Ex.nor, zY p0 s1_8 s21_11 s21_19 v3105 s31_10 s31_18 s36_15 v3802 r)) g3 (zqe [(97, 9, 1, .q (xb true)), (97, 9, 5, .q (xb false)), (97, 9, 7, .q (xb false)), (97, 9, 26, .q (xb false))] [] (ob (o_b h3901) (ob (o_b h3902) (ob (o_b h3903) (ob (o_b h3902) ob0)))) (by kernel_rfl))
 ·refine zl g1 (fun h3902 g2 => ?_) (fun h3902 g2 => ?_)
  ·refine zl g2 (fun h3903 g3 => ?_) (fun h3903 g3 => ?_)
   ·refine zk g3 (fun v3904 h3905 g4 => ?_)
    refine zl g4 (fun h3906 g5 => ?_) (fun h3906 g5 => ?_)
    ·exact zB (g := fun r => (Ex.nor, zY p0 s1_8 s21_11 s21_19 v3105 s31_10 s31_18 s36_15 v3802 r)) g5 (zqe [(97, 9, 1, .q (xb false)), (97, 9, 7, .q (xb true)), (97, 9, 11, .q (xb true)), (97, 9, 19, .c (db v3904)), (97, 9, 23, .q (xb true))] [] (ob (o_b h3901) (ob (o_b h3902) (ob (o_b h3903) (ob (zI k v3105.2.2.2.2.2.2.2.2 v3802.Days.Low v3802.Days.High _ h3905) (ob (o_b h3906) ob0))))) (by kernel_rfl))
    ·refine zl g5 (fun h3907 g6 => ?_) (fun h3907 g6 => ?_)
     ·exact zB (g := fun r => (Ex.nor, zY p0 s1_8 s21_11 s21_19 v3105 s31_10 s31_18 s36_15 v3802 r)) g6 (zqe [(97, 9, 1, .q (xb false)), (97, 9, 7, .q (xb true)), (97, 9, 11, .q (xb true)), (97, 9, 19, .c (db v3904)), (97, 9, 23, .q (xb false)), (97, 9, 26, .q (xb true))] [] (ob (o_b h3901) (ob (o_b h3902) (ob (o_b h3903) (ob (zI k v3105.2.2.2.2.2.2.2.2 v3802.Days.Low v3802.Days.High _ h3905) (ob (o_b h3906) (ob (o_b h3907) ob0)))))) (by kernel_rfl))
     ·exact zB (g := fun r => (Ex.nor, zY p0 s1_8 s21_11 s21_19 v3105 s31_10 s31_18 s36_15 v3802 r)) g6 (zqe [(97, 9, 1, .q (xb false)), (97, 9, 7, .q (xb true)), (97, 9, 11, .q (xb true)), (97, 9, 19, .c (db v3904)), (97, 9, 23, .q (xb false)), (97, 9, 26, .q (xb false))] [] (ob (o_b h3901) (ob (o_b h3902) (ob (o_b h3903) (ob (zI k v3105.2.2.2.2.2.2.2.2 v3802.Days.Low v3802.Days.High _ h3905) (ob (o_b h3906) (ob (o_b h3907) ob0)))))) (by kernel_rfl))
   ·refine zl g3 (fun h3904 g4 => ?_) (fun h3904 g4 => ?_)
    ·exact zB (g := fun r => (Ex.nor, zY p0 s1_8 s21_11 s21_19 v3105 s31_10 s31_18 s36_15 v3802 r)) g4 (zqe [(97, 9, 1, .q (xb false)), (97, 9, 7, .q (xb true)), (97, 9, 11, .q (xb false)), (97, 9, 26, .q (xb true))] [] (ob (o_b h3901) (ob (o_b h3902) (ob (o_b h3903) (ob (o_b h3904) ob0)))) (by kernel_rfl))
    ·exact zB (g := fun r => (Ex.nor, zY p0 s1_8 s21_11 s21_19 v3105 s31_10 s31_18 s36_15 v3802 r)) g4 (zqe [(97, 9, 1, .q (xb false)), (97, 9, 7, .q (xb true)), (97, 9, 11, .q (xb false)), (97, 9, 26, .q (xb false))] [] (ob (o_b h3901) (ob (o_b h3902) (ob (o_b h3903) (ob (o_b h3904) ob0)))) (by kernel_rfl))
  ·refine zl g2 (fun h3903 g3 => ?_) (fun h3903 g3 => ?_)
   ·exact zB (g := fun r => (Ex.nor, zY p0 s1_8 s21_11 s21_19 v3105 s31_10 s31_18 s36_15 v3802 r)) g3 (zqe [(97, 9, 1, .q (xb false)), (97, 9, 7, .q (xb false)), (97, 9, 26, .q (xb true))] [] (ob (o_b h3901) (ob (o_b h3902) (ob (o_b h3903) ob0))) (by kernel_rfl))
   ·exact zB (g := fun r => (Ex.nor, zY p0 s1_8 s21_11 s21_19 v3105 s31_10 s31_18 s36_15 v3802 r)) g3 (zqe [(97, 9, 1, .q (xb false)), (97, 9, 7, .q (xb false)), (97, 9, 26, .q (xb false))] [] (ob (o_b h3901) (ob (o_b h3902) (ob (o_b h3903) ob0))) (by kernel_rfl))
noncomputable def zOE (v3105 : zt5) (s31_10 s36_15 : Int) : TM := [(0, (.yld 0)), (1, (.d (.pin [(di v3105.1), (dl zm v3105.2.1.1 v3105.2.1.2), (dl zo v3105.2.2.1.1 v3105.2.2.1.2), (dl zh v3105.2.2.2.1.1 v3105.2.2.2.1.2), (dl zi v3105.2.2.2.2.1.1 v3105.2.2.2.2.1.2), (di v3105.2.2.2.2.2.1), (di v3105.2.2.2.2.2.2.1)]))), (2, (.d (.pin [(di v3105.2.2.2.2.2.2.2.1)]))), (3, (.d (.pin [(di v3105.2.2.2.2.2.2.2.2)]))), (14, (xi (zL 1 (v3105.2.2.2.1.1.length : Int)))), (15, (xi s31_10)), (16, (xb true)), (5, (xi s31_10)), (20, (.d (dl zh v3105.2.2.2.1.1 v3105.2.2.2.1.2))), (21, (xi (v3105.2.2.2.1.1.length : Int))), (22, (xi s36_15))]
noncomputable def z5o (p0 : zd) (s1_8 s21_11 : Int) (s21_19 : zt2) (v3105 : zt5) (s31_10 : Int) (s31_18 : zt2) (s36_15 : Int) : St := ⟨(zOE v3105 s31_10 s36_15), ⟨[], [[(zc 1 (zp p0)), (11, (.map (em (fun k => D.agg (zE k)) (fun v => D.agg ((aB 61) v)) s31_18))), (3, (.cells [(.map 0 11)])), (4, (.cells [(xi s1_8)])), (5, (.cells [(xi s21_11)])), (zc 6 (aB 61 ((zbb zD (⟨(w64 (s1_8 - 1)), s21_11⟩ : zu) s21_19).getD (fun _ => false))))]]⟩, [⟨(zWl p0 s1_8 s21_11 v3105), 0, rfP (blk TE 81 4), rfA (blk TE 81 4), rfB (blk TE 81 4), 81, .rdy⟩]⟩
noncomputable def zaF (v3105 : zt5) (s31_10 : Int) (r : (Int × Bool × Bool × Int × Int × Int × Int × Int)) : TM := [(0, (.yld 0)), (1, (.d (.pin [(di v3105.1), (dl zm v3105.2.1.1 v3105.2.1.2), (dl zo v3105.2.2.1.1 v3105.2.2.1.2), (dl zh v3105.2.2.2.1.1 v3105.2.2.2.1.2), (dl zi v3105.2.2.2.2.1.1 v3105.2.2.2.2.1.2), (di v3105.2.2.2.2.2.1), (di v3105.2.2.2.2.2.2.1)]))), (2, (.d (.pin [(di v3105.2.2.2.2.2.2.2.1)]))), (3, (.d (.pin [(di v3105.2.2.2.2.2.2.2.2)]))), (14, (xi (zL 1 (v3105.2.2.2.1.1.length : Int)))), (15, (xi s31_10)), (16, (xb true)), (5, (xi s31_10)), (20, (.d (dl zh v3105.2.2.2.1.1 v3105.2.2.2.1.2))), (21, (xi (v3105.2.2.2.1.1.length : Int))), (22, (xi r.1)), (23, (xb true)), (7, (.ptr 1 7 0)), (6, (xi r.1)), (8, (xb r.2.1)), (9, (xb r.2.2.1)), (41, (xb true)), (42, (xb true))]
noncomputable def zjg (p0 : zd) (s1_8 s21_11 : Int) (s21_19 : zt2) (v3105 : zt5) (s31_10 : Int) (s31_18 : zt2) (r : (Int × Bool × Bool × Int × Int × Int × Int × Int)) : St := ⟨(zaF v3105 s31_10 r), ⟨[(7, (.cells [(xi r.2.2.2.1), (xi r.2.2.2.2.1), (xi r.2.2.2.2.2.1), (xi r.2.2.2.2.2.2.1), (xi r.2.2.2.2.2.2.2)]))], [[(zc 1 (zp p0)), (11, (.map (em (fun k => D.agg (zE k)) (fun v => D.agg ((aB 61) v)) s31_18))), (3, (.cells [(.map 0 11)])), (4, (.cells [(xi s1_8)])), (5, (.cells [(xi s21_11)])), (zc 6 (aB 61 ((zbb zD (⟨(w64 (s1_8 - 1)), s21_11⟩ : zu) s21_19).getD (fun _ => false))))]]⟩, [⟨(zWl p0 s1_8 s21_11 v3105), 0, rfP (blk TE 81 4), rfA (blk TE 81 4), rfB (blk TE 81 4), 81, .rdy⟩]⟩
noncomputable def zXE (v3105 : zt5) (s31_10 : Int) (r : (Int × Bool × Bool × Int × Int × Int × Int × Int)) : TM := [(0, (.yld 0)), (1, (.d (.pin [(di v3105.1), (dl zm v3105.2.1.1 v3105.2.1.2), (dl zo v3105.2.2.1.1 v3105.2.2.1.2), (dl zh v3105.2.2.2.1.1 v3105.2.2.2.1.2), (dl zi v3105.2.2.2.2.1.1 v3105.2.2.2.2.1.2), (di v3105.2.2.2.2.2.1), (di v3105.2.2.2.2.2.2.1)]))), (2, (.d (.pin [(di v3105.2.2.2.2.2.2.2.1)]))), (3, (.d (.pin [(di v3105.2.2.2.2.2.2.2.2)]))), (14, (xi (zL 1 (v3105.2.2.2.1.1.length : Int)))), (15, (xi s31_10)), (16, (xb true)), (5, (xi s31_10)), (20, (.d (dl zh v3105.2.2.2.1.1 v3105.2.2.2.1.2))), (21, (xi (v3105.2.2.2.1.1.length : Int))), (22, (xi r.1)), (23, (xb true)), (7, (.ptr 1 7 0)), (6, (xi r.1)), (8, (xb r.2.1)), (9, (xb r.2.2.1)), (41, (xb false)), (76, (xb true))]
noncomputable def zlg (p0 : zd) (s1_8 s21_11 : Int) (s21_19 : zt2) (v3105 : zt5) (s31_10 : Int) (s31_18 : zt2) (r : (Int × Bool × Bool × Int × Int × Int × Int × Int)) : St := ⟨(zXE v3105 s31_10 r), ⟨[(7, (.cells [(xi r.2.2.2.1), (xi r.2.2.2.2.1), (xi r.2.2.2.2.2.1), (xi r.2.2.2.2.2.2.1), (xi r.2.2.2.2.2.2.2)]))], [[(zc 1 (zp p0)), (11, (.map (em (fun k => D.agg (zE k)) (fun v => D.agg ((aB 61) v)) s31_18))), (3, (.cells [(.map 0 11)])), (4, (.cells [(xi s1_8)])), (5, (.cells [(xi s21_11)])), (zc 6 (aB 61 ((zbb zD (⟨(w64 (s1_8 - 1)), s21_11⟩ : zu) s21_19).getD (fun _ => false))))]]⟩, [⟨(zWl p0 s1_8 s21_11 v3105), 0, rfP (blk TE 81 4), rfA (blk TE 81 4), rfB (blk TE 81 4), 81, .rdy⟩]⟩
noncomputable def zgE (v3105 : zt5) (s31_10 r : Int) : TM := [(0, (.yld 0)), (1, (.d (.pin [(di v3105.1), (dl zm v3105.2.1.1 v3105.2.1.2), (dl zo v3105.2.2.1.1 v3105.2.2.1.2), (dl zh v3105.2.2.2.1.1 v3105.2.2.2.1.2), (dl zi v3105.2.2.2.2.1.1 v3105.2.2.2.2.1.2), (di v3105.2.2.2.2.2.1), (di v3105.2.2.2.2.2.2.1)]))), (2, (.d (.pin [(di v3105.2.2.2.2.2.2.2.1)]))), (3, (.d (.pin [(di v3105.2.2.2.2.2.2.2.2)]))), (14, (xi (zL 1 (v3105.2.2.2.1.1.length : Int)))), (15, (xi s31_10)), (16, (xb true)), (5, (xi s31_10)), (20, (.d (dl zh v3105.2.2.2.1.1 v3105.2.2.2.1.2))), (21, (xi (v3105.2.2.2.1.1.length : Int))), (22, (xi r)), (23, (xb false))]
noncomputable def zkg (p0 : zd) (s1_8 s21_11 : Int) (s21_19 : zt2) (v3105 : zt5) (s31_10 : Int) (s31_18 : zt2) (r : Int) : St := ⟨(zgE v3105 s31_10 r), ⟨[], [[(zc 1 (zp p0)), (11, (.map (em (fun k => D.agg (zE k)) (fun v => D.agg ((aB 61) v)) s31_18))), (3, (.cells [(.map 0 11)])), (4, (.cells [(xi s1_8)])), (5, (.cells [(xi s21_11)])), (zc 6 (aB 61 ((zbb zD (⟨(w64 (s1_8 - 1)), s21_11⟩ : zu) s21_19).getD (fun _ => false))))]]⟩, [⟨(zWl p0 s1_8 s21_11 v3105), 0, rfP (blk TE 81 4), rfA (blk TE 81 4), rfB (blk TE 81 4), 81, .rdy⟩]⟩
noncomputable def zip (p0 : zd) (s1_8 s21_11 : Int) (s21_19 : zt2) (v3105 : zt5) (s31_10 : Int) (s31_18 : zt2) : ((Int × Bool × Bool × Int × Int × Int × Int × Int) ⊕ ((Int × Bool × Bool × Int × Int × Int × Int × Int) ⊕ Int)) → Ex × St := Sum.elim (fun r => ((.exit 1), zjg p0 s1_8 s21_11 s21_19 v3105 s31_10 s31_18 r)) (Sum.elim (fun r => ((.exit 1), zlg p0 s1_8 s21_11 s21_19 v3105 s31_10 s31_18 r)) (fun r => ((.exit 2), zkg p0 s1_8 s21_11 s21_19 v3105 s31_10 s31_18 r)))
theorem zng (k : Nat) (p0 : zd) (s1_8 s21_11 : Int) (s21_19 : zt2) (v3105 : zt5) (s31_10 : Int) (s31_18 : zt2) (s36_15 : Int) (x : Int ⊕ ((Int × Bool × Bool × Int × Int × Int × Int × Int) ⊕ ((Int × Bool × Bool × Int × Int × Int × Int × Int) ⊕ Int))) (h : zXc k p0 s1_8 s21_11 s21_19 v3105 s31_10 s31_18 s36_15 = some x) : zO TE 97 (blk TE 97 2) (fun s : Int => z5o p0 s1_8 s21_11 s21_19 v3105 s31_10 s31_18 s) (zip p0 s1_8 s21_11 s21_19 v3105 s31_10 s31_18) s36_15 x := by
 unfold zXc at h
 refine zl h (fun h3801 g1 => ?_) (fun h3801 g1 => ?_)
 ·refine zk g1 (fun v3802 h3803 g2 => ?_)
  refine zl g2 (fun h3804 g3 => ?_) (fun h3804 g3 => ?_)
  ·cases g3
  ·refine zl g3 (fun h3805 g4 => ?_) (fun h3805 g4 => ?_)
   ·refine zl g4 (fun h3806 g5 => ?_) (fun h3806 g5 => ?_)
    ·exact zqo [(97, 4, 0, .q (xb true)), (97, 5, 1, .q (.d (.pin (zh v3802)))), (97, 6, 2, .q (xi (z7 v3105.2.2.2.2.2.2.2.1 s36_15))), (97, 6, 7, .q (xi (z7 s31_10 s36_15))), (97, 7, 4, .q (xb true)), (97, 8, 0, .q (xb true))] [] g5 (ob (o_b h3801) (ob (o_ia (e := zh) 5 h3803 rfl) (ob (z5e (x := v3105.2.2.2.2.2.2.2.1) h3804) (ob (z5e (x := s31_10) h3804) (ob (o_b h3805) (ob (o_b h3806) ob0)))))) (by kernel_rfl)
    ·exact zqn (w64 (s36_15 + 1)) [] [(97, 4, 0, .q (xb true)), (97, 5, 1, .q (.d (.pin (zh v3802)))), (97, 6, 2, .q (xi (z7 v3105.2.2.2.2.2.2.2.1 s36_15))), (97, 6, 7, .q (xi (z7 s31_10 s36_15))), (97, 7, 4, .q (xb true)), (97, 8, 0, .q (xb false))] [] g5 (ob (o_b h3801) (ob (o_ia (e := zh) 5 h3803 rfl) (ob (z5e (x := v3105.2.2.2.2.2.2.2.1) h3804) (ob (z5e (x := s31_10) h3804) (ob (o_b h3805) (ob (o_b h3806) ob0)))))) (by kernel_rfl)
   ·refine zk g4 (fun v3806 h3807 g5 => ?_)
    refine zl g5 (fun h3808 g6 => ?_) (fun h3808 g6 => ?_)
    ·subst h3808
     exact zqo [(97, 4, 0, .q (xb true)), (97, 5, 1, .q (.d (.pin (zh v3802)))), (97, 6, 2, .q (xi (z7 v3105.2.2.2.2.2.2.2.1 s36_15))), (97, 6, 7, .q (xi (z7 s31_10 s36_15))), (97, 7, 4, .q (xb false))] [(97, 1000009, (.nor, zY p0 s1_8 s21_11 s21_19 v3105 s31_10 s31_18 s36_15 v3802 true))] g6 (ob (o_b h3801) (ob (o_ia (e := zh) 5 h3803 rfl) (ob (z5e (x := v3105.2.2.2.2.2.2.2.1) h3804) (ob (z5e (x := s31_10) h3804) (ob (o_b h3805) (ob (zaj k p0 s1_8 s21_11 s21_19 v3105 s31_10 s31_18 s36_15 v3802 _ h3807) ob0)))))) (by kernel_rfl)
    ·subst h3808
     exact zqn (w64 (s36_15 + 1)) [] [(97, 4, 0, .q (xb true)), (97, 5, 1, .q (.d (.pin (zh v3802)))), (97, 6, 2, .q (xi (z7 v3105.2.2.2.2.2.2.2.1 s36_15))), (97, 6, 7, .q (xi (z7 s31_10 s36_15))), (97, 7, 4, .q (xb false))] [(97, 1000009, (.nor, zY p0 s1_8 s21_11 s21_19 v3105 s31_10 s31_18 s36_15 v3802 false))] g6 (ob (o_b h3801) (ob (o_ia (e := zh) 5 h3803 rfl) (ob (z5e (x := v3105.2.2.2.2.2.2.2.1) h3804) (ob (z5e (x := s31_10) h3804) (ob (o_b h3805) (ob (zaj k p0 s1_8 s21_11 s21_19 v3105 s31_10 s31_18 s36_15 v3802 _ h3807) ob0)))))) (by kernel_rfl)
 ·exact zqo [(97, 4, 0, .q (xb false))] [] g1 (ob (o_b h3801) ob0) (by kernel_rfl)
noncomputable def z4E (p0 : zd) (s1_8 s21_11 : Int) (v3105 : zt5) (s31_10 : Int) (v3606 : (SL zF)) (s39_27 : Int) : TM := zWl p0 s1_8 s21_11 v3105 ++ [(43, (xi s31_10)), (7, (xi s31_10)), (8, (.ptr 2 8 0)), (50, (.d (dl zR v3606.1 v3606.2))), (51, (xi (v3606.1.length : Int))), (52, (xi s39_27))]
noncomputable def zbp (p0 : zd) (s1_8 s21_11 : Int) (s21_19 : zt2) (v3105 : zt5) (s31_10 : Int) (s31_18 : zt2) (v3606 : (SL zF)) (s39_27 : Int) (s39_28 : zt0) : St := ⟨(z4E p0 s1_8 s21_11 v3105 s31_10 v3606 s39_27), ⟨[(zc 8 (aB 61 s39_28))], [[(zc 1 (zp p0)), (11, (.map (em (fun k => D.agg (zE k)) (fun v => D.agg ((aB 61) v)) s31_18))), (3, (.cells [(.map 0 11)])), (4, (.cells [(xi s1_8)])), (5, (.cells [(xi s21_11)])), (zc 6 (aB 61 ((zbb zD (⟨(w64 (s1_8 - 1)), s21_11⟩ : zu) s21_19).getD (fun _ => false))))], []]⟩, [⟨(zWl p0 s1_8 s21_11 v3105), 0, rfP (blk TE 81 4), rfA (blk TE 81 4), rfB (blk TE 81 4), 81, .busy⟩]⟩
noncomputable def zwE (p0 : zd) (s1_8 s21_11 : Int) (v3105 : zt5) (s31_10 : Int) (v3606 : (SL zF)) (r : zt15) : TM := zWl p0 s1_8 s21_11 v3105 ++ [(43, (xi s31_10)), (7, (xi s31_10)), (8, (.ptr 2 8 0)), (50, (.d (dl zR v3606.1 v3606.2))), (51, (xi (v3606.1.length : Int))), (52, (xi r.1)), (53, (xb false))]
noncomputable def zeg (p0 : zd) (s1_8 s21_11 : Int) (s21_19 : zt2) (v3105 : zt5) (s31_10 : Int) (s31_18 : zt2) (v3606 : (SL zF)) (r : zt15) : St := ⟨(zwE p0 s1_8 s21_11 v3105 s31_10 v3606 r), ⟨[(zc 8 (aB 61 r.2))], [[(zc 1 (zp p0)), (11, (.map (em (fun k => D.agg (zE k)) (fun v => D.agg ((aB 61) v)) s31_18))), (3, (.cells [(.map 0 11)])), (4, (.cells [(xi s1_8)])), (5, (.cells [(xi s21_11)])), (zc 6 (aB 61 ((zbb zD (⟨(w64 (s1_8 - 1)), s21_11⟩ : zu) s21_19).getD (fun _ => false))))], []]⟩, [⟨(zWl p0 s1_8 s21_11 v3105), 0, rfP (blk TE 81 4), rfA (blk TE 81 4), rfB (blk TE 81 4), 81, .busy⟩]⟩
noncomputable def zRo (p0 : zd) (s1_8 s21_11 : Int) (s21_19 : zt2) (v3105 : zt5) (s31_10 : Int) (s31_18 : zt2) (v3606 : (SL zF)) : (Int × (Nat → Bool)) → Ex × St := fun r => ((.exit 6), zeg p0 s1_8 s21_11 s21_19 v3105 s31_10 s31_18 v3606 r)
theorem zmo (k : Nat) (p0 : zd) (s1_8 s21_11 : Int) (s21_19 : zt2) (v3105 : zt5) (s31_10 : Int) (s31_18 : zt2) (v3606 : (SL zF)) (s39_27 : Int) (s39_28 : zt0) (x : (Int × (Nat → Bool)) ⊕ (Int × (Nat → Bool))) (h : zUc k p0 s1_8 s21_11 s21_19 v3105 s31_10 s31_18 v3606 s39_27 s39_28 = some x) : zO TE 81 (blk TE 81 6) (fun s : (Int × (Nat → Bool)) => zbp p0 s1_8 s21_11 s21_19 v3105 s31_10 s31_18 v3606 s.1 s.2) (zRo p0 s1_8 s21_11 s21_19 v3105 s31_10 s31_18 v3606) (s39_27, s39_28) x := by
 unfold zUc at h
 refine zl h (fun h4001 g1 => ?_) (fun h4001 g1 => ?_)
 ·refine zk g1 (fun v4002 h4003 g2 => ?_)
  refine zk g2 (fun v4004 h4005 g3 => ?_)
  exact zqn ((w64 (s39_27 + 1)), v4004) [] [(81, 14, 0, .q (xb true)), (81, 15, 0, .q (.d (.pin (zR v4002)))), (81, 16, 6, .c (.agg (aB 61 v4004)))] [] g3 (ob (o_b h4001) (ob (o_ia (e := zR) 3 h4003 rfl) (ob (zEk k p0 s39_28 v4002.way v4002.by_ _ h4005) ob0))) (by kernel_rfl)
 ·exact zqo [(81, 14, 0, .q (xb false))] [] g1 (ob (o_b h4001) ob0) (by kernel_rfl)
noncomputable def zXD (v3105 : zt5) (s31_10 : Int) : TM := [(0, (.yld 0)), (1, (.d (.pin [(di v3105.1), (dl zm v3105.2.1.1 v3105.2.1.2), (dl zo v3105.2.2.1.1 v3105.2.2.1.2), (dl zh v3105.2.2.2.1.1 v3105.2.2.2.1.2), (dl zi v3105.2.2.2.2.1.1 v3105.2.2.2.2.1.2), (di v3105.2.2.2.2.2.1), (di v3105.2.2.2.2.2.2.1)]))), (2, (.d (.pin [(di v3105.2.2.2.2.2.2.2.1)]))), (3, (.d (.pin [(di v3105.2.2.2.2.2.2.2.2)]))), (14, (xi (zL 1 (v3105.2.2.2.1.1.length : Int)))), (15, (xi s31_10))]
noncomputable def zhp (p0 : zd) (s1_8 s21_11 : Int) (s21_19 : zt2) (v3105 : zt5) (s31_10 : Int) (s31_18 : zt2) : St := ⟨(zXD v3105 s31_10), ⟨[], [[(zc 1 (zp p0)), (11, (.map (em (fun k => D.agg (zE k)) (fun v => D.agg ((aB 61) v)) s31_18))), (3, (.cells [(.map 0 11)])), (4, (.cells [(xi s1_8)])), (5, (.cells [(xi s21_11)])), (zc 6 (aB 61 ((zbb zD (⟨(w64 (s1_8 - 1)), s21_11⟩ : zu) s21_19).getD (fun _ => false))))]]⟩, [⟨(zWl p0 s1_8 s21_11 v3105), 0, rfP (blk TE 81 4), rfA (blk TE 81 4), rfB (blk TE 81 4), 81, .rdy⟩]⟩
noncomputable def zcE (v3105 : zt5) (r : zt6) : TM := [(0, (.yld 0)), (1, (.d (.pin [(di v3105.1), (dl zm v3105.2.1.1 v3105.2.1.2), (dl zo v3105.2.2.1.1 v3105.2.2.1.2), (dl zh v3105.2.2.2.1.1 v3105.2.2.2.1.2), (dl zi v3105.2.2.2.2.1.1 v3105.2.2.2.2.1.2), (di v3105.2.2.2.2.2.1), (di v3105.2.2.2.2.2.2.1)]))), (2, (.d (.pin [(di v3105.2.2.2.2.2.2.2.1)]))), (3, (.d (.pin [(di v3105.2.2.2.2.2.2.2.2)]))), (14, (xi (zL 1 (v3105.2.2.2.1.1.length : Int)))), (15, (xi r.1)), (16, (xb false))]
noncomputable def zgg (p0 : zd) (s1_8 s21_11 : Int) (s21_19 : zt2) (v3105 : zt5) (r : zt6) : St := ⟨(zcE v3105 r), ⟨[], [[(zc 1 (zp p0)), (11, (.map (em (fun k => D.agg (zE k)) (fun v => D.agg ((aB 61) v)) r.2))), (3, (.cells [(.map 0 11)])), (4, (.cells [(xi s1_8)])), (5, (.cells [(xi s21_11)])), (zc 6 (aB 61 ((zbb zD (⟨(w64 (s1_8 - 1)), s21_11⟩ : zu) s21_19).getD (fun _ => false))))]]⟩, [⟨(zWl p0 s1_8 s21_11 v3105), 0, rfP (blk TE 81 4), rfA (blk TE 81 4), rfB (blk TE 81 4), 81, .rdy⟩]⟩
noncomputable def zfp (p0 : zd) (s1_8 s21_11 : Int) (s21_19 : zt2) (v3105 : zt5) : (Int × (List (zu × (Nat → Bool)))) → Ex × St := fun r => ((.exit 0), zgg p0 s1_8 s21_11 s21_19 v3105 r)
theorem zjo (k : Nat) (p0 : zd) (s1_8 s21_11 : Int) (s21_19 : zt2) (v3105 : zt5) (s31_10 : Int) (s31_18 : zt2) (x : (Int × (List (zu × (Nat → Bool)))) ⊕ (Int × (List (zu × (Nat → Bool))))) (h : zYc k p0 s1_8 s21_11 s21_19 v3105 s31_10 s31_18 = some x) : zO TE 97 (blk TE 97 0) (fun s : (Int × (List (zu × (Nat → Bool)))) => zhp p0 s1_8 s21_11 s21_19 v3105 s.1 s.2) (zfp p0 s1_8 s21_11 s21_19 v3105) (s31_10, s31_18) x := by
 unfold zYc at h
 refine zl h (fun h3601 g1 => ?_) (fun h3601 g1 => ?_)
 ·refine zk g1 (fun v3602 h3603 g2 => ?_)
  refine zwd g2 (fun v3605 hh g3_0 => ?_) (fun w2_0 hh g3_0 => ?_)
  ·subst hh
   exact zqn ((w64 (s31_10 + 1)), s31_18) [] [(97, 1, 0, .q (xb true)), (97, 3, 3, .q (xi (v3105.2.2.2.1.1.length : Int)))] [(97, 2, ((.exit 1), zjg p0 s1_8 s21_11 s21_19 v3105 s31_10 s31_18 v3605))] g3_0 (ob (o_b h3601) (ob (zx zh v3105.2.2.2.1.1) (ob (zG (id := 2) (r' := ((.exit 1), zjg p0 s1_8 s21_11 s21_19 v3105 s31_10 s31_18 v3605)) (zEc (zng k p0 s1_8 s21_11 s21_19 v3105 s31_10 s31_18) k _ _ h3603) rfl) ob0))) (by kernel_rfl)
  ·subst hh
   refine zwd g3_0 (fun v3605 hh g3_1 => ?_) (fun v3605 hh g3_1 => ?_)
   ·subst hh
    exact zqn ((w64 (s31_10 + 1)), s31_18) [] [(97, 1, 0, .q (xb true)), (97, 3, 3, .q (xi (v3105.2.2.2.1.1.length : Int)))] [(97, 2, ((.exit 1), zlg p0 s1_8 s21_11 s21_19 v3105 s31_10 s31_18 v3605))] g3_1 (ob (o_b h3601) (ob (zx zh v3105.2.2.2.1.1) (ob (zG (id := 2) (r' := ((.exit 1), zlg p0 s1_8 s21_11 s21_19 v3105 s31_10 s31_18 v3605)) (zEc (zng k p0 s1_8 s21_11 s21_19 v3105 s31_10 s31_18) k _ _ h3603) rfl) ob0))) (by kernel_rfl)
   ·subst hh
    refine zk g3_1 (fun v3606 h3607 g4 => ?_)
    refine zk g4 (fun v3608 h3609 g5 => ?_)
    refine zk g5 (fun v3610 h3611 g6 => ?_)
    refine zk g6 (fun v3612 h3613 g7 => ?_)
    exact zqn ((w64 (s31_10 + 1)), (mset zD (⟨s1_8, s31_10⟩ : zu) v3612 s31_18)) [] [(97, 1, 0, .q (xb true)), (97, 3, 3, .q (xi (v3105.2.2.2.1.1.length : Int))), (81, 13, 5, .c (dl zR v3606.1 v3606.2)), (81, 13, 6, .q (xi (v3606.1.length : Int))), (81, 18, 8, .q (.d (.agg (aB 61 ((zbb zD (⟨s1_8, s31_10⟩ : zu) s31_18).getD (fun _ => false)))))), (81, 18, 12, .c (.agg (aB 61 v3610))), (81, 18, 13, .c (.agg (aB 61 v3612))), (81, 18, 14, .mp (em (fun k => D.agg (zE k)) (fun v => D.agg ((aB 61) v)) (mset zD (⟨s1_8, s31_10⟩ : zu) v3612 s31_18)))] [(97, 2, (.nor, zkg p0 s1_8 s21_11 s21_19 v3105 s31_10 s31_18 v3605)), (81, 6, (.nor, zeg p0 s1_8 s21_11 s21_19 v3105 s31_10 s31_18 v3606 v3608))] g7 (ob (o_b h3601) (ob (zx zh v3105.2.2.2.1.1) (ob (zG (id := 2) (r' := (.nor, zkg p0 s1_8 s21_11 s21_19 v3105 s31_10 s31_18 v3605)) (zEc (zng k p0 s1_8 s21_11 s21_19 v3105 s31_10 s31_18) k _ _ h3603) rfl) (ob (zBk k p0 s1_8 (zSk s31_10 s21_11) _ h3607) (ob (zx zR v3606.1) (ob (zG (id := 6) (r' := (.nor, zeg p0 s1_8 s21_11 s21_19 v3105 s31_10 s31_18 v3606 v3608)) (zfb (zmo k p0 s1_8 s21_11 s21_19 v3105 s31_10 s31_18 v3606) k _ _ h3609) rfl) (ob (zyk (ek := (fun k => D.agg (zE k))) (evl := (fun v => D.agg ((aB 61) v))) (q := zD) (fun _ _ => rfl) (⟨s1_8, s31_10⟩ : zu) s31_18 (fun _ => false)) (ob (z1j k p0 v3608.2 s1_8 _ h3611) (ob (zMq k ((zbb zD (⟨s1_8, s31_10⟩ : zu) s31_18).getD (fun _ => false)) v3610 _ h3613) (ob (zMt (ek := (fun k => D.agg (zE k))) (evl := (fun v => D.agg ((aB 61) v))) (q := zD) (fun _ _ => rfl) (⟨s1_8, s31_10⟩ : zu) v3612 s31_18) ob0)))))))))) (by kernel_rfl)
 ·exact zqo [(97, 1, 0, .q (xb false))] [] g1 (ob (o_b h3601) ob0) (by kernel_rfl)
noncomputable def z5E (p0 : zd) (s1_8 s21_11 : Int) : TM := [(0, (.d (.agg (zp p0)))), (zsp 1), (2, (.d .nilm)), (zsp 3), (18, (xi p0.ShelfBook.Days)), (19, (xi s1_8)), (20, (xb true)), (zsp 4), (26, (xi (zL 1 (p0.ShelfBook.Deliveries.1.length : Int)))), (27, (xi s21_11))]
noncomputable def zQo (p0 : zd) (s1_8 s21_11 : Int) (s21_19 : zt2) : St := ⟨(z5E p0 s1_8 s21_11), ⟨[(zc 1 (zp p0)), (11, (.map (em (fun k => D.agg (zE k)) (fun v => D.agg ((aB 61) v)) s21_19))), (3, (.cells [(.map 0 11)])), (4, (.cells [(xi s1_8)]))], []⟩, []⟩
noncomputable def ztE (p0 : zd) (s1_8 : Int) (r : zt6) : TM := [(0, (.d (.agg (zp p0)))), (zsp 1), (2, (.d .nilm)), (zsp 3), (18, (xi p0.ShelfBook.Days)), (19, (xi s1_8)), (20, (xb true)), (zsp 4), (26, (xi (zL 1 (p0.ShelfBook.Deliveries.1.length : Int)))), (27, (xi r.1)), (28, (xb false))]
noncomputable def zfg (p0 : zd) (s1_8 : Int) (r : zt6) : St := ⟨(ztE p0 s1_8 r), ⟨[(zc 1 (zp p0)), (11, (.map (em (fun k => D.agg (zE k)) (fun v => D.agg ((aB 61) v)) r.2))), (3, (.cells [(.map 0 11)])), (4, (.cells [(xi s1_8)]))], []⟩, []⟩
noncomputable def zMo (p0 : zd) (s1_8 : Int) : (Int × (List (zu × (Nat → Bool)))) → Ex × St := fun r => ((.exit 2), zfg p0 s1_8 r)
theorem zho (k : Nat) (p0 : zd) (s1_8 s21_11 : Int) (s21_19 : zt2) (x : (Int × (List (zu × (Nat → Bool)))) ⊕ (Int × (List (zu × (Nat → Bool))))) (h : zTc k p0 s1_8 s21_11 s21_19 = some x) : zO TE 81 (blk TE 81 2) (fun s : (Int × (List (zu × (Nat → Bool)))) => zQo p0 s1_8 s.1 s.2) (zMo p0 s1_8) (s21_11, s21_19) x := by
 unfold zTc at h
 refine zl h (fun h3101 g1 => ?_) (fun h3101 g1 => ?_)
 ·refine zk g1 (fun v3102 h3103 g2 => ?_)
  refine zl g2 (fun h3104 g3 => ?_) (fun h3104 g3 => ?_)
  ·exact zqn ((w64 (s21_11 + 1)), s21_19) [] [(81, 6, 0, .q (xb true)), (81, 8, 5, .q (.d (.agg (aB 61 ((zbb zD (⟨(w64 (s1_8 - 1)), s21_11⟩ : zu) s21_19).getD (fun _ => false)))))), (81, 9, 1, .c (.agg (aB 61 v3102))), (81, 9, 2, .q (xb true))] [] g3 (ob (o_b h3101) (ob (zyk (ek := (fun k => D.agg (zE k))) (evl := (fun v => D.agg ((aB 61) v))) (q := zD) (fun _ _ => rfl) (⟨(w64 (s1_8 - 1)), s21_11⟩ : zu) s21_19 (fun _ => false)) (ob (zQh k _ h3103) (ob (o_b h3104) ob0)))) (by kernel_rfl)
  ·refine zk g3 (fun v3105 h3106 g4 => ?_)
   refine zl g4 (fun h3107 g5 => ?_) (fun h3107 g5 => ?_)
   ·cases g5
   ·refine zk g5 (fun v3108 h3109 g6 => ?_)
    exact zqn ((w64 (s21_11 + 1)), v3108.2) [] [(81, 6, 0, .q (xb true)), (81, 8, 5, .q (.d (.agg (aB 61 ((zbb zD (⟨(w64 (s1_8 - 1)), s21_11⟩ : zu) s21_19).getD (fun _ => false)))))), (81, 9, 1, .c (.agg (aB 61 v3102))), (81, 9, 2, .q (xb false)), (81, 10, 3, .c (.fn 97 [] [(.pin [(di v3105.1), (dl zm v3105.2.1.1 v3105.2.1.2), (dl zo v3105.2.2.1.1 v3105.2.2.1.2), (dl zh v3105.2.2.2.1.1 v3105.2.2.2.1.2), (dl zi v3105.2.2.2.2.1.1 v3105.2.2.2.2.1.2), (di v3105.2.2.2.2.2.1), (di v3105.2.2.2.2.2.2.1)]), (.pin [(di v3105.2.2.2.2.2.2.2.1)]), (.pin [(di v3105.2.2.2.2.2.2.2.2)])])), (97, 0, 3, .q (xi (v3105.2.2.2.1.1.length : Int))), (97, 0, 4, .q (xi (zL 1 (v3105.2.2.2.1.1.length : Int))))] [(97, 0, (.nor, zgg p0 s1_8 s21_11 s21_19 v3105 v3108))] g6 (ob (o_b h3101) (ob (zyk (ek := (fun k => D.agg (zE k))) (evl := (fun v => D.agg ((aB 61) v))) (q := zD) (fun _ _ => rfl) (⟨(w64 (s1_8 - 1)), s21_11⟩ : zu) s21_19 (fun _ => false)) (ob (zQh k _ h3103) (ob (o_b h3104) (ob (zBl k p0 s1_8 s21_11 _ h3106) (ob (zx zh v3105.2.2.2.1.1) (ob (zYb (x := 1) h3107) (ob (zG (id := 0) (r' := (.nor, zgg p0 s1_8 s21_11 s21_19 v3105 v3108)) (zfb (zjo k p0 s1_8 s21_11 s21_19 v3105) k _ _ h3109) rfl) ob0)))))))) (by kernel_rfl)
 ·exact zqo [(81, 6, 0, .q (xb false))] [] g1 (ob (o_b h3101) ob0) (by kernel_rfl)
noncomputable def zME (p0 : zd) (s1_8 : Int) : TM := [(0, (.d (.agg (zp p0)))), (zsp 1), (2, (.d .nilm)), (zsp 3), (18, (xi p0.ShelfBook.Days)), (19, (xi s1_8))]
noncomputable def zLp (p0 : zd) (s1_8 : Int) (s1_16 : zt2) : St := ⟨(zME p0 s1_8), ⟨[(zc 1 (zp p0)), (11, (.map (em (fun k => D.agg (zE k)) (fun v => D.agg ((aB 61) v)) s1_16))), (3, (.cells [(.map 0 11)]))], []⟩, []⟩
noncomputable def zuE (p0 : zd) (r : zt6) : TM := [(0, (.d (.agg (zp p0)))), (zsp 1), (2, (.d .nilm)), (zsp 3), (18, (xi p0.ShelfBook.Days)), (19, (xi r.1)), (20, (xb false))]
noncomputable def zKg (p0 : zd) (r : zt6) : St := ⟨(zuE p0 r), ⟨[(zc 1 (zp p0)), (11, (.map (em (fun k => D.agg (zE k)) (fun v => D.agg ((aB 61) v)) r.2))), (3, (.cells [(.map 0 11)]))], []⟩, []⟩
noncomputable def zmp (p0 : zd) : (Int × (List (zu × (Nat → Bool)))) → Ex × St := fun r => ((.exit 0), zKg p0 r)
theorem zep (k : Nat) (p0 : zd) (s1_8 : Int) (s1_16 : zt2) (x : (Int × (List (zu × (Nat → Bool)))) ⊕ (Int × (List (zu × (Nat → Bool))))) (h : zue k p0 s1_8 s1_16 = some x) : zO TE 81 (blk TE 81 0) (fun s : (Int × (List (zu × (Nat → Bool)))) => zLp p0 s.1 s.2) (zmp p0) (s1_8, s1_16) x := by
 unfold zue at h
 refine zl h (fun h2101 g1 => ?_) (fun h2101 g1 => ?_)
 ·refine zl g1 (fun h2102 g2 => ?_) (fun h2102 g2 => ?_)
  ·cases g2
  ·refine zk g2 (fun v2103 h2104 g3 => ?_)
   exact zqn ((w64 (s1_8 + 1)), v2103.2) [] [(81, 3, 0, .q (xb true)), (81, 5, 3, .q (xi (p0.ShelfBook.Deliveries.1.length : Int))), (81, 5, 4, .q (xi (zL 1 (p0.ShelfBook.Deliveries.1.length : Int))))] [(81, 2, (.nor, zfg p0 s1_8 v2103))] g3 (ob (o_b h2101) (ob (zx zh p0.ShelfBook.Deliveries.1) (ob (zYb (x := 1) h2102) (ob (zG (id := 2) (r' := (.nor, zfg p0 s1_8 v2103)) (zfb (zho k p0 s1_8) k _ _ h2104) rfl) ob0)))) (by kernel_rfl)
 ·exact zqo [(81, 3, 0, .q (xb false))] [] g1 (ob (o_b h2101) ob0) (by kernel_rfl)
theorem zdi (k : Nat) (p0 : zd) (r : zt2) (h : zze k p0 = some r) : zM TE (ev TE) 81 [(.agg (zp p0))] = some (zDl r) := by
 unfold zze at h
 refine zk h (fun v1 h2 g1 => ?_)
 refine zk g1 (fun v3 h4 g2 => ?_)
 exact zK (g := zDl) g2 (zqc [(81, 1, 3, .c (.agg (aB 61 v1)))] [(81, 0, (.nor, zKg p0 v3))] (ob (zNq k p0 _ h2) (ob (zG (id := 0) (r' := (.nor, zKg p0 v3)) (zfb (zep k p0) k _ _ h4) rfl) ob0)) (by kernel_rfl))
noncomputable def zHE (p0 : zd) (v1 : zt2) (s1_10 : Int) : TM := [(0, (.d (.agg (zp p0)))), (zsp 1), (2, (xb false)), (3, (.d (.mp (em (fun k => D.agg (zE k)) (fun v => D.agg ((aB 61) v)) v1)))), (11, (xi (zL 1 (p0.ShelfBook.Deliveries.1.length : Int)))), (12, (xi s1_10))]
noncomputable def zOq (p0 : zd) (v1 : zt2) (s1_10 : Int) : St := ⟨(zHE p0 v1 s1_10), ⟨[(zc 1 (zp p0))], []⟩, []⟩
noncomputable def zjE (p0 : zd) (v1 : zt2) (r : Int) : TM := [(0, (.d (.agg (zp p0)))), (zsp 1), (2, (xb true)), (3, (.d (.mp (em (fun k => D.agg (zE k)) (fun v => D.agg ((aB 61) v)) v1)))), (11, (xi (zL 1 (p0.ShelfBook.Deliveries.1.length : Int)))), (12, (xi r)), (13, (xb true)), (4, (xi r)), (24, (xb true))]
noncomputable def zEh (p0 : zd) (v1 : zt2) (r : Int) : St := ⟨(zjE p0 v1 r), ⟨[(zc 1 (zp p0))], []⟩, []⟩
noncomputable def ziE (p0 : zd) (v1 : zt2) (r : Int) : TM := [(0, (.d (.agg (zp p0)))), (zsp 1), (2, (xb false)), (3, (.d (.mp (em (fun k => D.agg (zE k)) (fun v => D.agg ((aB 61) v)) v1)))), (11, (xi (zL 1 (p0.ShelfBook.Deliveries.1.length : Int)))), (12, (xi r)), (13, (xb false))]
noncomputable def zKh (p0 : zd) (v1 : zt2) (r : Int) : St := ⟨(ziE p0 v1 r), ⟨[(zc 1 (zp p0))], []⟩, []⟩
noncomputable def zPq (p0 : zd) (v1 : zt2) : (Int ⊕ Int) → Ex × St := Sum.elim (fun r => (.ret, zEh p0 v1 r)) (fun r => ((.exit 0), zKh p0 v1 r))
theorem zfk (k : Nat) (p0 : zd) (v1 : zt2) (s1_10 : Int) (x : Int ⊕ (Int ⊕ Int)) (h : zlf k p0 v1 s1_10 = some x) : zO TE 67 (blk TE 67 0) (fun s : Int => zOq p0 v1 s) (zPq p0 v1) s1_10 x := by
 unfold zlf at h
 refine zl h (fun h201 g1 => ?_) (fun h201 g1 => ?_)
 ·refine zk g1 (fun v202 h203 g2 => ?_)
  refine zl g2 (fun h204 g3 => ?_) (fun h204 g3 => ?_)
  ·exact zqo [(67, 3, 0, .q (xb true)), (67, 5, 7, .q (.d (.agg (aB 61 ((zbb zD (⟨(w64 (p0.ShelfBook.Days - 1)), s1_10⟩ : zu) v1).getD (fun _ => false)))))), (67, 5, 8, .c (.agg (aB 61 v202))), (67, 5, 9, .q (xb true))] [] g3 (ob (o_b h201) (ob (zyk (ek := (fun k => D.agg (zE k))) (evl := (fun v => D.agg ((aB 61) v))) (q := zD) (fun _ _ => rfl) (⟨(w64 (p0.ShelfBook.Days - 1)), s1_10⟩ : zu) v1 (fun _ => false)) (ob (zQh k _ h203) (ob (o_b h204) ob0)))) (by kernel_rfl)
  ·exact zqn (w64 (s1_10 + 1)) [] [(67, 3, 0, .q (xb true)), (67, 5, 7, .q (.d (.agg (aB 61 ((zbb zD (⟨(w64 (p0.ShelfBook.Days - 1)), s1_10⟩ : zu) v1).getD (fun _ => false)))))), (67, 5, 8, .c (.agg (aB 61 v202))), (67, 5, 9, .q (xb false))] [] g3 (ob (o_b h201) (ob (zyk (ek := (fun k => D.agg (zE k))) (evl := (fun v => D.agg ((aB 61) v))) (q := zD) (fun _ _ => rfl) (⟨(w64 (p0.ShelfBook.Days - 1)), s1_10⟩ : zu) v1 (fun _ => false)) (ob (zQh k _ h203) (ob (o_b h204) ob0)))) (by kernel_rfl)
 ·exact zqo [(67, 3, 0, .q (xb false))] [] g1 (ob (o_b h201) ob0) (by kernel_rfl)
theorem zof (k : Nat) (p0 : zd) (r : Bool) (h : zDe k p0 = some r) : zM TE (ev TE) 67 [(.agg (zp p0))] = some (zJj r) := by
 unfold zDe at h
 refine zk h (fun v1 h2 g1 => ?_)
 refine zl g1 (fun h3 g2 => ?_) (fun h3 g2 => ?_)
 ·cases g2
 ·refine zk g2 (fun v4 h5 g3 => ?_)
  refine zwd g3 (fun v7 hh g4_0 => ?_) (fun v7 hh g4_0 => ?_)
  ·subst hh
   exact zK (g := zJj) g4_0 (zqc [(67, 1, 1, .c (.mp (em (fun k => D.agg (zE k)) (fun v => D.agg ((aB 61) v)) v1))), (67, 2, 3, .q (xi (p0.ShelfBook.Deliveries.1.length : Int))), (67, 2, 4, .q (xi (zL 1 (p0.ShelfBook.Deliveries.1.length : Int))))] [(67, 0, (.ret, zEh p0 v1 v7))] (ob (zdi k p0 _ h2) (ob (zx zh p0.ShelfBook.Deliveries.1) (ob (zYb (x := 1) h3) (ob (zG (id := 0) (r' := (.ret, zEh p0 v1 v7)) (zEc (zfk k p0 v1) k _ _ h5) rfl) ob0)))) (by kernel_rfl))
  ·subst hh
   exact zK (g := zJj) g4_0 (zqc [(67, 1, 1, .c (.mp (em (fun k => D.agg (zE k)) (fun v => D.agg ((aB 61) v)) v1))), (67, 2, 3, .q (xi (p0.ShelfBook.Deliveries.1.length : Int))), (67, 2, 4, .q (xi (zL 1 (p0.ShelfBook.Deliveries.1.length : Int))))] [(67, 0, (.nor, zKh p0 v1 v7))] (ob (zdi k p0 _ h2) (ob (zx zh p0.ShelfBook.Deliveries.1) (ob (zYb (x := 1) h3) (ob (zG (id := 0) (r' := (.nor, zKh p0 v1 v7)) (zEc (zfk k p0 v1) k _ _ h5) rfl) ob0)))) (by kernel_rfl))
noncomputable def z6E (p0 : za) (p1 s1_8 : Int) : TM := [(0, (.d (.agg (zb p0)))), (1, (xi p1)), (zsp 2), (4, (xb false)), (9, (xi (p0.Shelves.1.length : Int))), (10, (xi s1_8))]
noncomputable def zKr (p0 : za) (p1 s1_8 : Int) : St := ⟨(z6E p0 p1 s1_8), ⟨[(zc 2 (zb p0))], []⟩, []⟩
noncomputable def zAE (p0 : za) (p1 r : Int) : TM := [(0, (.d (.agg (zb p0)))), (1, (xi p1)), (zsp 2), (4, (xb false)), (9, (xi (p0.Shelves.1.length : Int))), (10, (xi r)), (11, (xb true)), (5, (xi r)), (6, (.d (.fn 67 [(.agg ((zb p0) ++ [(di r), (di p1)]))] []))), (20, (xb true))]
noncomputable def zxi (p0 : za) (p1 r : Int) : St := ⟨(zAE p0 p1 r), ⟨[(zc 2 (zb p0))], []⟩, []⟩
noncomputable def z2D (p0 : za) (p1 r : Int) : TM := [(0, (.d (.agg (zb p0)))), (1, (xi p1)), (zsp 2), (4, (xb false)), (9, (xi (p0.Shelves.1.length : Int))), (10, (xi r)), (11, (xb false))]
noncomputable def zAi (p0 : za) (p1 r : Int) : St := ⟨(z2D p0 p1 r), ⟨[(zc 2 (zb p0))], []⟩, []⟩
noncomputable def zVr (p0 : za) (p1 : Int) : (Int ⊕ Int) → Ex × St := Sum.elim (fun r => (.ret, zxi p0 p1 r)) (fun r => ((.exit 0), zAi p0 p1 r))
theorem zwl (k : Nat) (p0 : za) (p1 s1_8 : Int) (x : Int ⊕ (Int ⊕ Int)) (h : zyg k p0 p1 s1_8 = some x) : zO TE 76 (blk TE 76 0) (fun s : Int => zKr p0 p1 s) (zVr p0 p1) s1_8 x := by
 unfold zyg at h
 refine zl h (fun h201 g1 => ?_) (fun h201 g1 => ?_)
 ·refine zk g1 (fun v202 h203 g2 => ?_)
  refine zl g2 (fun h204 g3 => ?_) (fun h204 g3 => ?_)
  ·exact zqo [(76, 2, 0, .q (xb true)), (76, 5, 1, .c (db v202)), (76, 5, 2, .q (xb true))] [] g3 (ob (o_b h201) (ob (zof k (⟨p0, s1_8, p1⟩ : zd) _ h203) (ob (o_b h204) ob0))) (by kernel_rfl)
  ·exact zqn (w64 (s1_8 + 1)) [] [(76, 2, 0, .q (xb true)), (76, 5, 1, .c (db v202)), (76, 5, 2, .q (xb false))] [] g3 (ob (o_b h201) (ob (zof k (⟨p0, s1_8, p1⟩ : zd) _ h203) (ob (o_b h204) ob0))) (by kernel_rfl)
 ·exact zqo [(76, 2, 0, .q (xb false))] [] g1 (ob (o_b h201) ob0) (by kernel_rfl)
theorem zUb (k : Nat) (p0 : za) (p1 : Int) (r : Bool) (h : zLb k p0 p1 = some r) : zM TE (ev TE) 76 [(.agg (zb p0)), (di p1)] = some (zYk r) := by
 unfold zLb at h
 refine zk h (fun v1 h2 g1 => ?_)
 refine zwd g1 (fun v4 hh g2_0 => ?_) (fun v4 hh g2_0 => ?_)
 ·subst hh
  exact zK (g := zYk) g2_0 (zqc [(76, 1, 2, .q (xi (p0.Shelves.1.length : Int)))] [(76, 0, (.ret, zxi p0 p1 v4))] (ob (zx zm p0.Shelves.1) (ob (zG (id := 0) (r' := (.ret, zxi p0 p1 v4)) (zEc (zwl k p0 p1) k _ _ h2) rfl) ob0)) (by kernel_rfl))
 ·subst hh
  exact zK (g := zYk) g2_0 (zqc [(76, 1, 2, .q (xi (p0.Shelves.1.length : Int)))] [(76, 0, (.nor, zAi p0 p1 v4))] (ob (zx zm p0.Shelves.1) (ob (zG (id := 0) (r' := (.nor, zAi p0 p1 v4)) (zEc (zwl k p0 p1) k _ _ h2) rfl) ob0)) (by kernel_rfl))
noncomputable def zHq (r0 : (SL Int)) (r1 r2 : Int) (r : zt4) : TM := [(0, (.d (dl eI r0.1 r0.2))), (1, (xi r1)), (2, (xi r2)), (3, (.ptr 0 1 0)), (4, (.ptr 0 5 0)), (8, (.d (.sl [] .nil))), (9, (xb false)), (17, (xb false)), (10, (xi r.1)), (24, (xb r.2))]
noncomputable def zQf (p0 : za) (r0 : (SL Int)) (r1 r2 : Int) (cb : Bool) (rc : zt3) (r : zt4) : St := ⟨(zHq r0 r1 r2 r), ⟨[], [[(zc 1 (zb p0)), (5, (.cells [(.fn 75 [] [(.ptr 0 1 0), (.ptr 0 5 0)])]))]]⟩, []⟩
noncomputable def zqq (r0 : (SL Int)) (r1 r2 : Int) (cb : Bool) : TM := [(0, (.d (dl eI r0.1 r0.2))), (1, (xi r1)), (2, (xi r2)), (3, (.ptr 0 1 0)), (4, (.ptr 0 5 0)), (8, (.d (.sl [] .nil))), (9, (xb false)), (17, (xb false)), (10, (xi 0)), (24, (xb cb))]
theorem zvm (k : Nat) (p0 : za) (r0 : (SL Int)) (r1 r2 : Int) (cb : Bool) (rc : zt3) (hrc : ∀ (f : Fr) (r0 : (SL Int)) (r1 : Int) (r2 : Int) (r : ((SL Int) × Bool)), rc r0 r1 r2 = some r → zcb TE (ev TE) 75 [(.d (dl eI r0.1 r0.2)), (xi r1), (xi r2), (.ptr 0 1 0), (.ptr 0 5 0)] ⟨f, [[(1, (.cells ((zb p0).map .d))), (5, (.cells [(.fn 75 [] [(.ptr 0 1 0), (.ptr 0 5 0)])]))]]⟩ [] = some (zC r, ⟨f, [[(1, (.cells ((zb p0).map .d))), (5, (.cells [(.fn 75 [] [(.ptr 0 1 0), (.ptr 0 5 0)])]))]]⟩, [])) (r : zt4) (h : zch k p0 r0 r1 r2 cb rc = some r) : ev TE 75 (cnd TE 75 24) ⟨(zqq r0 r1 r2 cb), ⟨[], [[(zc 1 (zb p0)), (5, (.cells [(.fn 75 [] [(.ptr 0 1 0), (.ptr 0 5 0)])]))]]⟩, []⟩ = some (.nor, zQf p0 r0 r1 r2 cb rc r) := by
 unfold zch at h
 refine zl h (fun h401 g1 => ?_) (fun h401 g1 => ?_)
 ·subst h401
  refine zk g1 (fun v402 h403 g2 => ?_)
  exact zB (g := fun r => (Ex.nor, zQf p0 r0 r1 r2 true rc r)) g2 (zqe [(75, 5, 2, .q (xi (r0.1.length : Int))), (75, 5, 4, .q (.d (.pin [(di v402)])))] [] (ob (zx eI r0.1) (ob (o_ia (e := eI) 1 h403 rfl) ob0)) (by kernel_rfl))
 ·subst h401
  exact zB (g := fun r => (Ex.nor, zQf p0 r0 r1 r2 false rc r)) g1 (zqe [] [] ob0 (by kernel_rfl))
noncomputable def zTE (r0 : (SL Int)) (r1 r2 : Int) (v302 : zt4) (s4_8 : Int) : TM := [(0, (.d (dl eI r0.1 r0.2))), (1, (xi r1)), (2, (xi r2)), (3, (.ptr 0 1 0)), (4, (.ptr 0 5 0)), (8, (.d (.sl [] .nil))), (9, (xb false)), (17, (xb false)), (10, (xi v302.1)), (24, (xb v302.2)), (11, (xi s4_8))]
noncomputable def zUs (p0 : za) (r0 : (SL Int)) (r1 r2 : Int) (v302 : zt4) (rc : zt3) (s4_8 : Int) : St := ⟨(zTE r0 r1 r2 v302 s4_8), ⟨[], [[(zc 1 (zb p0)), (5, (.cells [(.fn 75 [] [(.ptr 0 1 0), (.ptr 0 5 0)])]))]]⟩, []⟩
noncomputable def zGE (r0 : (SL Int)) (r1 r2 : Int) (r : zt18) (v302 : zt4) : TM := [(0, (.d (dl eI r0.1 r0.2))), (1, (xi r1)), (2, (xi r2)), (3, (.ptr 0 1 0)), (4, (.ptr 0 5 0)), (8, (.d (dl eI r.1.1 r.1.2))), (9, (xb true)), (17, (xb false)), (10, (xi v302.1)), (24, (xb v302.2)), (11, (xi r.2.1)), (37, (xb true)), (12, (.d (dl eI r.1.1 r.1.2))), (13, (xb r.2.2)), (59, (xb true))]
noncomputable def zij (p0 : za) (r0 : (SL Int)) (r1 r2 : Int) (v302 : zt4) (rc : zt3) (r : zt18) : St := ⟨(zGE r0 r1 r2 r v302), ⟨[], [[(zc 1 (zb p0)), (5, (.cells [(.fn 75 [] [(.ptr 0 1 0), (.ptr 0 5 0)])]))]]⟩, []⟩
noncomputable def zVE (r0 : (SL Int)) (r1 r2 : Int) (v302 : zt4) (r : Int) : TM := [(0, (.d (dl eI r0.1 r0.2))), (1, (xi r1)), (2, (xi r2)), (3, (.ptr 0 1 0)), (4, (.ptr 0 5 0)), (8, (.d (.sl [] .nil))), (9, (xb false)), (17, (xb false)), (10, (xi v302.1)), (24, (xb v302.2)), (11, (xi r)), (37, (xb false))]
noncomputable def zfj (p0 : za) (r0 : (SL Int)) (r1 r2 : Int) (v302 : zt4) (rc : zt3) (r : Int) : St := ⟨(zVE r0 r1 r2 v302 r), ⟨[], [[(zc 1 (zb p0)), (5, (.cells [(.fn 75 [] [(.ptr 0 1 0), (.ptr 0 5 0)])]))]]⟩, []⟩
noncomputable def zrs (p0 : za) (r0 : (SL Int)) (r1 r2 : Int) (v302 : zt4) (rc : zt3) : (((SL Int) × Int × Bool) ⊕ Int) → Ex × St := Sum.elim (fun r => (.ret, zij p0 r0 r1 r2 v302 rc r)) (fun r => ((.exit 0), zfj p0 r0 r1 r2 v302 rc r))
theorem zjm (k : Nat) (p0 : za) (r0 : (SL Int)) (r1 r2 : Int) (v302 : zt4) (rc : zt3) (hrc : ∀ (f : Fr) (r0 : (SL Int)) (r1 : Int) (r2 : Int) (r : ((SL Int) × Bool)), rc r0 r1 r2 = some r → zcb TE (ev TE) 75 [(.d (dl eI r0.1 r0.2)), (xi r1), (xi r2), (.ptr 0 1 0), (.ptr 0 5 0)] ⟨f, [[(1, (.cells ((zb p0).map .d))), (5, (.cells [(.fn 75 [] [(.ptr 0 1 0), (.ptr 0 5 0)])]))]]⟩ [] = some (zC r, ⟨f, [[(1, (.cells ((zb p0).map .d))), (5, (.cells [(.fn 75 [] [(.ptr 0 1 0), (.ptr 0 5 0)])]))]]⟩, [])) (s4_8 : Int) (x : Int ⊕ (((SL Int) × Int × Bool) ⊕ Int)) (h : zmh k p0 r0 r1 r2 v302 rc s4_8 = some x) : zO TE 75 (blk TE 75 0) (fun s : Int => zUs p0 r0 r1 r2 v302 rc s) (zrs p0 r0 r1 r2 v302 rc) s4_8 x := by
 unfold zmh at h
 refine zl h (fun h501 g1 => ?_) (fun h501 g1 => ?_)
 ·refine zl g1 (fun h502 g2 => ?_) (fun h502 g2 => ?_)
  ·cases g2
  ·refine zT g2 (fun h503 g3 => ?_)
   refine zl g3 (fun h504 g4 => ?_) (fun h504 g4 => ?_)
   ·cases g4
   ·refine zk g4 (fun v505 h506 g5 => ?_)
    refine zl g5 (fun h507 g6 => ?_) (fun h507 g6 => ?_)
    ·exact zqo [(75, 7, 3, .q (xi (p0.Counts.1.length : Int))), (75, 7, 4, .q (xb true)), (75, 9, 3, .q (xi (r0.1.length : Int))), (75, 9, 5, .q (xi (r0.1.length : Int))), (75, 9, 6, .q (.d (dl eI r0.1 (ccap r0.2)))), (75, 9, 9, .q (.d (dl eI (r0.1 ++ [s4_8]) .ro))), (75, 9, 12, .q (xi (zL 1 s4_8))), (75, 9, 15, .i (.tup [(dl eI v505.1.1 v505.1.2), (db v505.2)]) ⟨[], [[(1, (.cells ((zb p0).map .d))), (5, (.cells [(.fn 75 [] [(.ptr 0 1 0), (.ptr 0 5 0)])]))]]⟩ []), (75, 10, 0, .q (xb true))] [] g6 (ob (zx zi p0.Counts.1) (ob (o_b h501) (ob (zx eI r0.1) (ob (zx eI r0.1) (ob (zBf (e := eI) (z := 1) r0.1 r0.2) (ob (o_ad (P := TE.P) (φ := fun _ _ => none) (T := 42) (q := (1, [(di 0)])) (c := (ccap r0.2)) (e := eI) r0.1 s4_8 (by kernel_rfl) (fun _ => rfl) h502 h503) (ob (zYb (x := 1) h504) (ob (hrc ([] : Fr) ((r0.1 ++ [s4_8]), .ro) (or64 r1 (zL 1 s4_8)) r2 _ h506) (ob (o_b h507) ob0))))))))) (by kernel_rfl)
    ·exact zqn (w64 (s4_8 + 1)) [] [(75, 7, 3, .q (xi (p0.Counts.1.length : Int))), (75, 7, 4, .q (xb true)), (75, 9, 3, .q (xi (r0.1.length : Int))), (75, 9, 5, .q (xi (r0.1.length : Int))), (75, 9, 6, .q (.d (dl eI r0.1 (ccap r0.2)))), (75, 9, 9, .q (.d (dl eI (r0.1 ++ [s4_8]) .ro))), (75, 9, 12, .q (xi (zL 1 s4_8))), (75, 9, 15, .i (.tup [(dl eI v505.1.1 v505.1.2), (db v505.2)]) ⟨[], [[(1, (.cells ((zb p0).map .d))), (5, (.cells [(.fn 75 [] [(.ptr 0 1 0), (.ptr 0 5 0)])]))]]⟩ []), (75, 10, 0, .q (xb false))] [] g6 (ob (zx zi p0.Counts.1) (ob (o_b h501) (ob (zx eI r0.1) (ob (zx eI r0.1) (ob (zBf (e := eI) (z := 1) r0.1 r0.2) (ob (o_ad (P := TE.P) (φ := fun _ _ => none) (T := 42) (q := (1, [(di 0)])) (c := (ccap r0.2)) (e := eI) r0.1 s4_8 (by kernel_rfl) (fun _ => rfl) h502 h503) (ob (zYb (x := 1) h504) (ob (hrc ([] : Fr) ((r0.1 ++ [s4_8]), .ro) (or64 r1 (zL 1 s4_8)) r2 _ h506) (ob (o_b h507) ob0))))))))) (by kernel_rfl)
 ·exact zqo [(75, 7, 3, .q (xi (p0.Counts.1.length : Int))), (75, 7, 4, .q (xb false))] [] g1 (ob (zx zi p0.Counts.1) (ob (o_b h501) ob0)) (by kernel_rfl)
theorem z1q (k : Nat) (p0 : za) (rc : zt3) (hrc : ∀ (f : Fr) (r0 : (SL Int)) (r1 : Int) (r2 : Int) (r : ((SL Int) × Bool)), rc r0 r1 r2 = some r → zcb TE (ev TE) 75 [(.d (dl eI r0.1 r0.2)), (xi r1), (xi r2), (.ptr 0 1 0), (.ptr 0 5 0)] ⟨f, [[(1, (.cells ((zb p0).map .d))), (5, (.cells [(.fn 75 [] [(.ptr 0 1 0), (.ptr 0 5 0)])]))]]⟩ [] = some (zC r, ⟨f, [[(1, (.cells ((zb p0).map .d))), (5, (.cells [(.fn 75 [] [(.ptr 0 1 0), (.ptr 0 5 0)])]))]]⟩, [])) (r0 : (SL Int)) (r1 r2 : Int) (r : zt14) (h : zob k p0 rc r0 r1 r2 = some r) : zcb TE (ev TE) 75 [(.d (dl eI r0.1 r0.2)), (xi r1), (xi r2), (.ptr 0 1 0), (.ptr 0 5 0)] ⟨[(zc 1 (zb p0)), (5, (.cells [(.fn 75 [] [(.ptr 0 1 0), (.ptr 0 5 0)])]))], []⟩ [] = some (zC r, ⟨[(zc 1 (zb p0)), (5, (.cells [(.fn 75 [] [(.ptr 0 1 0), (.ptr 0 5 0)])]))], []⟩, []) := by
 unfold zob at h
 refine zl h (fun h301 g1 => ?_) (fun h301 g1 => ?_)
 ·refine zk g1 (fun v302 h303 g2 => ?_)
  exact zHb (g := (fun r => (zC r, ⟨[(1, (.cells ((zb p0).map .d))), (5, (.cells [(.fn 75 [] [(.ptr 0 1 0), (.ptr 0 5 0)])]))], []⟩, []))) g2 (zlb (n := 80) (V := [(75, 1, 1, .q (xi (r0.1.length : Int))), (75, 1, 3, .q (xb true)), (75, 2, 3, .c (db v302))]) (C := []) (ob (zx eI r0.1) (ob (o_b h301) (ob (zUb k p0 r1 _ h303) ob0))) (by kernel_rfl))
 ·refine zk g1 (fun v302 h303 g2 => ?_)
  refine zk g2 (fun v304 h305 g3 => ?_)
  refine zwd g3 (fun v307 hh g4_0 => ?_) (fun v307 hh g4_0 => ?_)
  ·subst hh
   exact zHb (g := (fun r => (zC r, ⟨[(1, (.cells ((zb p0).map .d))), (5, (.cells [(.fn 75 [] [(.ptr 0 1 0), (.ptr 0 5 0)])]))], []⟩, []))) g4_0 (zlb (n := 80) (V := [(75, 1, 1, .q (xi (r0.1.length : Int))), (75, 1, 3, .q (xb false)), (75, 4, 1, .q (xi (r0.1.length : Int)))]) (C := [(75, 2000024, (.nor, zQf p0 r0 r1 r2 (decide ((r0.1.length : Int) > 0)) rc v302)), (75, 0, (.ret, zij p0 r0 r1 r2 v302 rc v307))]) (ob (zx eI r0.1) (ob (o_b h301) (ob (zx eI r0.1) (ob (zvm k p0 r0 r1 r2 (decide ((r0.1.length : Int) > 0)) rc hrc _ h303) (ob (zG (id := 0) (r' := (.ret, zij p0 r0 r1 r2 v302 rc v307)) (zEc (zjm k p0 r0 r1 r2 v302 rc hrc) k _ _ h305) rfl) ob0))))) (by kernel_rfl))
  ·subst hh
   exact zHb (g := (fun r => (zC r, ⟨[(1, (.cells ((zb p0).map .d))), (5, (.cells [(.fn 75 [] [(.ptr 0 1 0), (.ptr 0 5 0)])]))], []⟩, []))) g4_0 (zlb (n := 80) (V := [(75, 1, 1, .q (xi (r0.1.length : Int))), (75, 1, 3, .q (xb false)), (75, 4, 1, .q (xi (r0.1.length : Int)))]) (C := [(75, 2000024, (.nor, zQf p0 r0 r1 r2 (decide ((r0.1.length : Int) > 0)) rc v302)), (75, 0, (.nor, zfj p0 r0 r1 r2 v302 rc v307))]) (ob (zx eI r0.1) (ob (o_b h301) (ob (zx eI r0.1) (ob (zvm k p0 r0 r1 r2 (decide ((r0.1.length : Int) > 0)) rc hrc _ h303) (ob (zG (id := 0) (r' := (.nor, zfj p0 r0 r1 r2 v302 rc v307)) (zEc (zjm k p0 r0 r1 r2 v302 rc hrc) k _ _ h305) rfl) ob0))))) (by kernel_rfl))
noncomputable def zSf (p0 : za) (r0 : (SL Int)) (r1 r2 : Int) (cb : Bool) (rc : zt3) (f1 : Fr) (r : zt4) : St := ⟨(zHq r0 r1 r2 r), ⟨[], [[(zc 1 (zb p0)), (5, (.cells [(.fn 75 [] [(.ptr 0 1 0), (.ptr 0 5 0)])]))], f1]⟩, []⟩
theorem zkm (k : Nat) (p0 : za) (r0 : (SL Int)) (r1 r2 : Int) (cb : Bool) (rc : zt3) (f1 : Fr) (hrc : ∀ (f : Fr) (r0 : (SL Int)) (r1 : Int) (r2 : Int) (r : ((SL Int) × Bool)), rc r0 r1 r2 = some r → zcb TE (ev TE) 75 [(.d (dl eI r0.1 r0.2)), (xi r1), (xi r2), (.ptr 0 1 0), (.ptr 0 5 0)] ⟨f, [[(1, (.cells ((zb p0).map .d))), (5, (.cells [(.fn 75 [] [(.ptr 0 1 0), (.ptr 0 5 0)])]))], f1]⟩ [] = some (zC r, ⟨f, [[(1, (.cells ((zb p0).map .d))), (5, (.cells [(.fn 75 [] [(.ptr 0 1 0), (.ptr 0 5 0)])]))], f1]⟩, [])) (r : zt4) (h : zZk k p0 r0 r1 r2 cb rc = some r) : ev TE 75 (cnd TE 75 24) ⟨(zqq r0 r1 r2 cb), ⟨[], [[(zc 1 (zb p0)), (5, (.cells [(.fn 75 [] [(.ptr 0 1 0), (.ptr 0 5 0)])]))], f1]⟩, []⟩ = some (.nor, zSf p0 r0 r1 r2 cb rc f1 r) := by
 unfold zZk at h
 refine zl h (fun h601 g1 => ?_) (fun h601 g1 => ?_)
 ·subst h601
  refine zk g1 (fun v602 h603 g2 => ?_)
  exact zB (g := fun r => (Ex.nor, zSf p0 r0 r1 r2 true rc f1 r)) g2 (zqe [(75, 5, 2, .q (xi (r0.1.length : Int))), (75, 5, 4, .q (.d (.pin [(di v602)])))] [] (ob (zx eI r0.1) (ob (o_ia (e := eI) 1 h603 rfl) ob0)) (by kernel_rfl))
 ·subst h601
  exact zB (g := fun r => (Ex.nor, zSf p0 r0 r1 r2 false rc f1 r)) g1 (zqe [] [] ob0 (by kernel_rfl))
noncomputable def zeF (r0 : (SL Int)) (r1 r2 : Int) (v502 : zt4) (s6_8 : Int) : TM := [(0, (.d (dl eI r0.1 r0.2))), (1, (xi r1)), (2, (xi r2)), (3, (.ptr 0 1 0)), (4, (.ptr 0 5 0)), (8, (.d (.sl [] .nil))), (9, (xb false)), (17, (xb false)), (10, (xi v502.1)), (24, (xb v502.2)), (11, (xi s6_8))]
noncomputable def zms (p0 : za) (r0 : (SL Int)) (r1 r2 : Int) (v502 : zt4) (rc : zt3) (f1 : Fr) (s6_8 : Int) : St := ⟨(zeF r0 r1 r2 v502 s6_8), ⟨[], [[(zc 1 (zb p0)), (5, (.cells [(.fn 75 [] [(.ptr 0 1 0), (.ptr 0 5 0)])]))], f1]⟩, []⟩
noncomputable def z8D (r0 : (SL Int)) (r1 r2 : Int) (r : zt18) (v502 : zt4) : TM := [(0, (.d (dl eI r0.1 r0.2))), (1, (xi r1)), (2, (xi r2)), (3, (.ptr 0 1 0)), (4, (.ptr 0 5 0)), (8, (.d (dl eI r.1.1 r.1.2))), (9, (xb true)), (17, (xb false)), (10, (xi v502.1)), (24, (xb v502.2)), (11, (xi r.2.1)), (37, (xb true)), (12, (.d (dl eI r.1.1 r.1.2))), (13, (xb r.2.2)), (59, (xb true))]
noncomputable def zcj (p0 : za) (r0 : (SL Int)) (r1 r2 : Int) (v502 : zt4) (rc : zt3) (f1 : Fr) (r : zt18) : St := ⟨(z8D r0 r1 r2 r v502), ⟨[], [[(zc 1 (zb p0)), (5, (.cells [(.fn 75 [] [(.ptr 0 1 0), (.ptr 0 5 0)])]))], f1]⟩, []⟩
noncomputable def z6D (r0 : (SL Int)) (r1 r2 : Int) (v502 : zt4) (r : Int) : TM := [(0, (.d (dl eI r0.1 r0.2))), (1, (xi r1)), (2, (xi r2)), (3, (.ptr 0 1 0)), (4, (.ptr 0 5 0)), (8, (.d (.sl [] .nil))), (9, (xb false)), (17, (xb false)), (10, (xi v502.1)), (24, (xb v502.2)), (11, (xi r)), (37, (xb false))]
noncomputable def zej (p0 : za) (r0 : (SL Int)) (r1 r2 : Int) (v502 : zt4) (rc : zt3) (f1 : Fr) (r : Int) : St := ⟨(z6D r0 r1 r2 v502 r), ⟨[], [[(zc 1 (zb p0)), (5, (.cells [(.fn 75 [] [(.ptr 0 1 0), (.ptr 0 5 0)])]))], f1]⟩, []⟩
noncomputable def zCs (p0 : za) (r0 : (SL Int)) (r1 r2 : Int) (v502 : zt4) (rc : zt3) (f1 : Fr) : (((SL Int) × Int × Bool) ⊕ Int) → Ex × St := Sum.elim (fun r => (.ret, zcj p0 r0 r1 r2 v502 rc f1 r)) (fun r => ((.exit 0), zej p0 r0 r1 r2 v502 rc f1 r))
theorem ztm (k : Nat) (p0 : za) (r0 : (SL Int)) (r1 r2 : Int) (v502 : zt4) (rc : zt3) (f1 : Fr) (hrc : ∀ (f : Fr) (r0 : (SL Int)) (r1 : Int) (r2 : Int) (r : ((SL Int) × Bool)), rc r0 r1 r2 = some r → zcb TE (ev TE) 75 [(.d (dl eI r0.1 r0.2)), (xi r1), (xi r2), (.ptr 0 1 0), (.ptr 0 5 0)] ⟨f, [[(1, (.cells ((zb p0).map .d))), (5, (.cells [(.fn 75 [] [(.ptr 0 1 0), (.ptr 0 5 0)])]))], f1]⟩ [] = some (zC r, ⟨f, [[(1, (.cells ((zb p0).map .d))), (5, (.cells [(.fn 75 [] [(.ptr 0 1 0), (.ptr 0 5 0)])]))], f1]⟩, [])) (s6_8 : Int) (x : Int ⊕ (((SL Int) × Int × Bool) ⊕ Int)) (h : zHk k p0 r0 r1 r2 v502 rc s6_8 = some x) : zO TE 75 (blk TE 75 0) (fun s : Int => zms p0 r0 r1 r2 v502 rc f1 s) (zCs p0 r0 r1 r2 v502 rc f1) s6_8 x := by
 unfold zHk at h
 refine zl h (fun h701 g1 => ?_) (fun h701 g1 => ?_)
 ·refine zl g1 (fun h702 g2 => ?_) (fun h702 g2 => ?_)
  ·cases g2
  ·refine zT g2 (fun h703 g3 => ?_)
   refine zl g3 (fun h704 g4 => ?_) (fun h704 g4 => ?_)
   ·cases g4
   ·refine zk g4 (fun v705 h706 g5 => ?_)
    refine zl g5 (fun h707 g6 => ?_) (fun h707 g6 => ?_)
    ·exact zqo [(75, 7, 3, .q (xi (p0.Counts.1.length : Int))), (75, 7, 4, .q (xb true)), (75, 9, 3, .q (xi (r0.1.length : Int))), (75, 9, 5, .q (xi (r0.1.length : Int))), (75, 9, 6, .q (.d (dl eI r0.1 (ccap r0.2)))), (75, 9, 9, .q (.d (dl eI (r0.1 ++ [s6_8]) .ro))), (75, 9, 12, .q (xi (zL 1 s6_8))), (75, 9, 15, .i (.tup [(dl eI v705.1.1 v705.1.2), (db v705.2)]) ⟨[], [[(1, (.cells ((zb p0).map .d))), (5, (.cells [(.fn 75 [] [(.ptr 0 1 0), (.ptr 0 5 0)])]))], f1]⟩ []), (75, 10, 0, .q (xb true))] [] g6 (ob (zx zi p0.Counts.1) (ob (o_b h701) (ob (zx eI r0.1) (ob (zx eI r0.1) (ob (zBf (e := eI) (z := 1) r0.1 r0.2) (ob (o_ad (P := TE.P) (φ := fun _ _ => none) (T := 42) (q := (1, [(di 0)])) (c := (ccap r0.2)) (e := eI) r0.1 s6_8 (by kernel_rfl) (fun _ => rfl) h702 h703) (ob (zYb (x := 1) h704) (ob (hrc ([] : Fr) ((r0.1 ++ [s6_8]), .ro) (or64 r1 (zL 1 s6_8)) r2 _ h706) (ob (o_b h707) ob0))))))))) (by kernel_rfl)
    ·exact zqn (w64 (s6_8 + 1)) [] [(75, 7, 3, .q (xi (p0.Counts.1.length : Int))), (75, 7, 4, .q (xb true)), (75, 9, 3, .q (xi (r0.1.length : Int))), (75, 9, 5, .q (xi (r0.1.length : Int))), (75, 9, 6, .q (.d (dl eI r0.1 (ccap r0.2)))), (75, 9, 9, .q (.d (dl eI (r0.1 ++ [s6_8]) .ro))), (75, 9, 12, .q (xi (zL 1 s6_8))), (75, 9, 15, .i (.tup [(dl eI v705.1.1 v705.1.2), (db v705.2)]) ⟨[], [[(1, (.cells ((zb p0).map .d))), (5, (.cells [(.fn 75 [] [(.ptr 0 1 0), (.ptr 0 5 0)])]))], f1]⟩ []), (75, 10, 0, .q (xb false))] [] g6 (ob (zx zi p0.Counts.1) (ob (o_b h701) (ob (zx eI r0.1) (ob (zx eI r0.1) (ob (zBf (e := eI) (z := 1) r0.1 r0.2) (ob (o_ad (P := TE.P) (φ := fun _ _ => none) (T := 42) (q := (1, [(di 0)])) (c := (ccap r0.2)) (e := eI) r0.1 s6_8 (by kernel_rfl) (fun _ => rfl) h702 h703) (ob (zYb (x := 1) h704) (ob (hrc ([] : Fr) ((r0.1 ++ [s6_8]), .ro) (or64 r1 (zL 1 s6_8)) r2 _ h706) (ob (o_b h707) ob0))))))))) (by kernel_rfl)
 ·exact zqo [(75, 7, 3, .q (xi (p0.Counts.1.length : Int))), (75, 7, 4, .q (xb false))] [] g1 (ob (zx zi p0.Counts.1) (ob (o_b h701) ob0)) (by kernel_rfl)
theorem zar (k : Nat) (p0 : za) (rc : zt3) (f1 : Fr) (hrc : ∀ (f : Fr) (r0 : (SL Int)) (r1 : Int) (r2 : Int) (r : ((SL Int) × Bool)), rc r0 r1 r2 = some r → zcb TE (ev TE) 75 [(.d (dl eI r0.1 r0.2)), (xi r1), (xi r2), (.ptr 0 1 0), (.ptr 0 5 0)] ⟨f, [[(1, (.cells ((zb p0).map .d))), (5, (.cells [(.fn 75 [] [(.ptr 0 1 0), (.ptr 0 5 0)])]))], f1]⟩ [] = some (zC r, ⟨f, [[(1, (.cells ((zb p0).map .d))), (5, (.cells [(.fn 75 [] [(.ptr 0 1 0), (.ptr 0 5 0)])]))], f1]⟩, [])) (r0 : (SL Int)) (r1 r2 : Int) (r : zt14) (h : zXg k p0 rc r0 r1 r2 = some r) : zcb TE (ev TE) 75 [(.d (dl eI r0.1 r0.2)), (xi r1), (xi r2), (.ptr 0 1 0), (.ptr 0 5 0)] ⟨f1, [[(zc 1 (zb p0)), (5, (.cells [(.fn 75 [] [(.ptr 0 1 0), (.ptr 0 5 0)])]))]]⟩ [] = some (zC r, ⟨f1, [[(zc 1 (zb p0)), (5, (.cells [(.fn 75 [] [(.ptr 0 1 0), (.ptr 0 5 0)])]))]]⟩, []) := by
 unfold zXg at h
 refine zl h (fun h501 g1 => ?_) (fun h501 g1 => ?_)
 ·refine zk g1 (fun v502 h503 g2 => ?_)
  exact zHb (g := (fun r => (zC r, ⟨f1, [[(1, (.cells ((zb p0).map .d))), (5, (.cells [(.fn 75 [] [(.ptr 0 1 0), (.ptr 0 5 0)])]))]]⟩, []))) g2 (zlb (n := 80) (V := [(75, 1, 1, .q (xi (r0.1.length : Int))), (75, 1, 3, .q (xb true)), (75, 2, 3, .c (db v502))]) (C := []) (ob (zx eI r0.1) (ob (o_b h501) (ob (zUb k p0 r1 _ h503) ob0))) (by kernel_rfl))
 ·refine zk g1 (fun v502 h503 g2 => ?_)
  refine zk g2 (fun v504 h505 g3 => ?_)
  refine zwd g3 (fun v507 hh g4_0 => ?_) (fun v507 hh g4_0 => ?_)
  ·subst hh
   exact zHb (g := (fun r => (zC r, ⟨f1, [[(1, (.cells ((zb p0).map .d))), (5, (.cells [(.fn 75 [] [(.ptr 0 1 0), (.ptr 0 5 0)])]))]]⟩, []))) g4_0 (zlb (n := 80) (V := [(75, 1, 1, .q (xi (r0.1.length : Int))), (75, 1, 3, .q (xb false)), (75, 4, 1, .q (xi (r0.1.length : Int)))]) (C := [(75, 2000024, (.nor, zSf p0 r0 r1 r2 (decide ((r0.1.length : Int) > 0)) rc f1 v502)), (75, 0, (.ret, zcj p0 r0 r1 r2 v502 rc f1 v507))]) (ob (zx eI r0.1) (ob (o_b h501) (ob (zx eI r0.1) (ob (zkm k p0 r0 r1 r2 (decide ((r0.1.length : Int) > 0)) rc f1 hrc _ h503) (ob (zG (id := 0) (r' := (.ret, zcj p0 r0 r1 r2 v502 rc f1 v507)) (zEc (ztm k p0 r0 r1 r2 v502 rc f1 hrc) k _ _ h505) rfl) ob0))))) (by kernel_rfl))
  ·subst hh
   exact zHb (g := (fun r => (zC r, ⟨f1, [[(1, (.cells ((zb p0).map .d))), (5, (.cells [(.fn 75 [] [(.ptr 0 1 0), (.ptr 0 5 0)])]))]]⟩, []))) g4_0 (zlb (n := 80) (V := [(75, 1, 1, .q (xi (r0.1.length : Int))), (75, 1, 3, .q (xb false)), (75, 4, 1, .q (xi (r0.1.length : Int)))]) (C := [(75, 2000024, (.nor, zSf p0 r0 r1 r2 (decide ((r0.1.length : Int) > 0)) rc f1 v502)), (75, 0, (.nor, zej p0 r0 r1 r2 v502 rc f1 v507))]) (ob (zx eI r0.1) (ob (o_b h501) (ob (zx eI r0.1) (ob (zkm k p0 r0 r1 r2 (decide ((r0.1.length : Int) > 0)) rc f1 hrc _ h503) (ob (zG (id := 0) (r' := (.nor, zej p0 r0 r1 r2 v502 rc f1 v507)) (zEc (ztm k p0 r0 r1 r2 v502 rc f1 hrc) k _ _ h505) rfl) ob0))))) (by kernel_rfl))
noncomputable def z4f (p0 : za) (r0 : (SL Int)) (r1 r2 : Int) (cb : Bool) (rc : zt3) (f1 f2 : Fr) (r : zt4) : St := ⟨(zHq r0 r1 r2 r), ⟨[], [[(zc 1 (zb p0)), (5, (.cells [(.fn 75 [] [(.ptr 0 1 0), (.ptr 0 5 0)])]))], f1, f2]⟩, []⟩
theorem zrm (k : Nat) (p0 : za) (r0 : (SL Int)) (r1 r2 : Int) (cb : Bool) (rc : zt3) (f1 f2 : Fr) (hrc : ∀ (f : Fr) (r0 : (SL Int)) (r1 : Int) (r2 : Int) (r : ((SL Int) × Bool)), rc r0 r1 r2 = some r → zcb TE (ev TE) 75 [(.d (dl eI r0.1 r0.2)), (xi r1), (xi r2), (.ptr 0 1 0), (.ptr 0 5 0)] ⟨f, [[(1, (.cells ((zb p0).map .d))), (5, (.cells [(.fn 75 [] [(.ptr 0 1 0), (.ptr 0 5 0)])]))], f1, f2]⟩ [] = some (zC r, ⟨f, [[(1, (.cells ((zb p0).map .d))), (5, (.cells [(.fn 75 [] [(.ptr 0 1 0), (.ptr 0 5 0)])]))], f1, f2]⟩, [])) (r : zt4) (h : zUk k p0 r0 r1 r2 cb rc = some r) : ev TE 75 (cnd TE 75 24) ⟨(zqq r0 r1 r2 cb), ⟨[], [[(zc 1 (zb p0)), (5, (.cells [(.fn 75 [] [(.ptr 0 1 0), (.ptr 0 5 0)])]))], f1, f2]⟩, []⟩ = some (.nor, z4f p0 r0 r1 r2 cb rc f1 f2 r) := by
 unfold zUk at h
 refine zl h (fun h801 g1 => ?_) (fun h801 g1 => ?_)
 ·subst h801
  refine zk g1 (fun v802 h803 g2 => ?_)
  exact zB (g := fun r => (Ex.nor, z4f p0 r0 r1 r2 true rc f1 f2 r)) g2 (zqe [(75, 5, 2, .q (xi (r0.1.length : Int))), (75, 5, 4, .q (.d (.pin [(di v802)])))] [] (ob (zx eI r0.1) (ob (o_ia (e := eI) 1 h803 rfl) ob0)) (by kernel_rfl))
 ·subst h801
  exact zB (g := fun r => (Ex.nor, z4f p0 r0 r1 r2 false rc f1 f2 r)) g1 (zqe [] [] ob0 (by kernel_rfl))
noncomputable def zbF (r0 : (SL Int)) (r1 r2 : Int) (v702 : zt4) (s8_8 : Int) : TM := [(0, (.d (dl eI r0.1 r0.2))), (1, (xi r1)), (2, (xi r2)), (3, (.ptr 0 1 0)), (4, (.ptr 0 5 0)), (8, (.d (.sl [] .nil))), (9, (xb false)), (17, (xb false)), (10, (xi v702.1)), (24, (xb v702.2)), (11, (xi s8_8))]
noncomputable def zZs (p0 : za) (r0 : (SL Int)) (r1 r2 : Int) (v702 : zt4) (rc : zt3) (f1 f2 : Fr) (s8_8 : Int) : St := ⟨(zbF r0 r1 r2 v702 s8_8), ⟨[], [[(zc 1 (zb p0)), (5, (.cells [(.fn 75 [] [(.ptr 0 1 0), (.ptr 0 5 0)])]))], f1, f2]⟩, []⟩
noncomputable def zlE (r0 : (SL Int)) (r1 r2 : Int) (r : zt18) (v702 : zt4) : TM := [(0, (.d (dl eI r0.1 r0.2))), (1, (xi r1)), (2, (xi r2)), (3, (.ptr 0 1 0)), (4, (.ptr 0 5 0)), (8, (.d (dl eI r.1.1 r.1.2))), (9, (xb true)), (17, (xb false)), (10, (xi v702.1)), (24, (xb v702.2)), (11, (xi r.2.1)), (37, (xb true)), (12, (.d (dl eI r.1.1 r.1.2))), (13, (xb r.2.2)), (59, (xb true))]
noncomputable def zjj (p0 : za) (r0 : (SL Int)) (r1 r2 : Int) (v702 : zt4) (rc : zt3) (f1 f2 : Fr) (r : zt18) : St := ⟨(zlE r0 r1 r2 r v702), ⟨[], [[(zc 1 (zb p0)), (5, (.cells [(.fn 75 [] [(.ptr 0 1 0), (.ptr 0 5 0)])]))], f1, f2]⟩, []⟩
noncomputable def zIE (r0 : (SL Int)) (r1 r2 : Int) (v702 : zt4) (r : Int) : TM := [(0, (.d (dl eI r0.1 r0.2))), (1, (xi r1)), (2, (xi r2)), (3, (.ptr 0 1 0)), (4, (.ptr 0 5 0)), (8, (.d (.sl [] .nil))), (9, (xb false)), (17, (xb false)), (10, (xi v702.1)), (24, (xb v702.2)), (11, (xi r)), (37, (xb false))]
noncomputable def zhj (p0 : za) (r0 : (SL Int)) (r1 r2 : Int) (v702 : zt4) (rc : zt3) (f1 f2 : Fr) (r : Int) : St := ⟨(zIE r0 r1 r2 v702 r), ⟨[], [[(zc 1 (zb p0)), (5, (.cells [(.fn 75 [] [(.ptr 0 1 0), (.ptr 0 5 0)])]))], f1, f2]⟩, []⟩
noncomputable def zDs (p0 : za) (r0 : (SL Int)) (r1 r2 : Int) (v702 : zt4) (rc : zt3) (f1 f2 : Fr) : (((SL Int) × Int × Bool) ⊕ Int) → Ex × St := Sum.elim (fun r => (.ret, zjj p0 r0 r1 r2 v702 rc f1 f2 r)) (fun r => ((.exit 0), zhj p0 r0 r1 r2 v702 rc f1 f2 r))
theorem zgm (k : Nat) (p0 : za) (r0 : (SL Int)) (r1 r2 : Int) (v702 : zt4) (rc : zt3) (f1 f2 : Fr) (hrc : ∀ (f : Fr) (r0 : (SL Int)) (r1 : Int) (r2 : Int) (r : ((SL Int) × Bool)), rc r0 r1 r2 = some r → zcb TE (ev TE) 75 [(.d (dl eI r0.1 r0.2)), (xi r1), (xi r2), (.ptr 0 1 0), (.ptr 0 5 0)] ⟨f, [[(1, (.cells ((zb p0).map .d))), (5, (.cells [(.fn 75 [] [(.ptr 0 1 0), (.ptr 0 5 0)])]))], f1, f2]⟩ [] = some (zC r, ⟨f, [[(1, (.cells ((zb p0).map .d))), (5, (.cells [(.fn 75 [] [(.ptr 0 1 0), (.ptr 0 5 0)])]))], f1, f2]⟩, [])) (s8_8 : Int) (x : Int ⊕ (((SL Int) × Int × Bool) ⊕ Int)) (h : zNk k p0 r0 r1 r2 v702 rc s8_8 = some x) : zO TE 75 (blk TE 75 0) (fun s : Int => zZs p0 r0 r1 r2 v702 rc f1 f2 s) (zDs p0 r0 r1 r2 v702 rc f1 f2) s8_8 x := by
 unfold zNk at h
 refine zl h (fun h901 g1 => ?_) (fun h901 g1 => ?_)
 ·refine zl g1 (fun h902 g2 => ?_) (fun h902 g2 => ?_)
  ·cases g2
  ·refine zT g2 (fun h903 g3 => ?_)
   refine zl g3 (fun h904 g4 => ?_) (fun h904 g4 => ?_)
   ·cases g4
   ·refine zk g4 (fun v905 h906 g5 => ?_)
    refine zl g5 (fun h907 g6 => ?_) (fun h907 g6 => ?_)
    ·exact zqo [(75, 7, 3, .q (xi (p0.Counts.1.length : Int))), (75, 7, 4, .q (xb true)), (75, 9, 3, .q (xi (r0.1.length : Int))), (75, 9, 5, .q (xi (r0.1.length : Int))), (75, 9, 6, .q (.d (dl eI r0.1 (ccap r0.2)))), (75, 9, 9, .q (.d (dl eI (r0.1 ++ [s8_8]) .ro))), (75, 9, 12, .q (xi (zL 1 s8_8))), (75, 9, 15, .i (.tup [(dl eI v905.1.1 v905.1.2), (db v905.2)]) ⟨[], [[(1, (.cells ((zb p0).map .d))), (5, (.cells [(.fn 75 [] [(.ptr 0 1 0), (.ptr 0 5 0)])]))], f1, f2]⟩ []), (75, 10, 0, .q (xb true))] [] g6 (ob (zx zi p0.Counts.1) (ob (o_b h901) (ob (zx eI r0.1) (ob (zx eI r0.1) (ob (zBf (e := eI) (z := 1) r0.1 r0.2) (ob (o_ad (P := TE.P) (φ := fun _ _ => none) (T := 42) (q := (1, [(di 0)])) (c := (ccap r0.2)) (e := eI) r0.1 s8_8 (by kernel_rfl) (fun _ => rfl) h902 h903) (ob (zYb (x := 1) h904) (ob (hrc ([] : Fr) ((r0.1 ++ [s8_8]), .ro) (or64 r1 (zL 1 s8_8)) r2 _ h906) (ob (o_b h907) ob0))))))))) (by kernel_rfl)
    ·exact zqn (w64 (s8_8 + 1)) [] [(75, 7, 3, .q (xi (p0.Counts.1.length : Int))), (75, 7, 4, .q (xb true)), (75, 9, 3, .q (xi (r0.1.length : Int))), (75, 9, 5, .q (xi (r0.1.length : Int))), (75, 9, 6, .q (.d (dl eI r0.1 (ccap r0.2)))), (75, 9, 9, .q (.d (dl eI (r0.1 ++ [s8_8]) .ro))), (75, 9, 12, .q (xi (zL 1 s8_8))), (75, 9, 15, .i (.tup [(dl eI v905.1.1 v905.1.2), (db v905.2)]) ⟨[], [[(1, (.cells ((zb p0).map .d))), (5, (.cells [(.fn 75 [] [(.ptr 0 1 0), (.ptr 0 5 0)])]))], f1, f2]⟩ []), (75, 10, 0, .q (xb false))] [] g6 (ob (zx zi p0.Counts.1) (ob (o_b h901) (ob (zx eI r0.1) (ob (zx eI r0.1) (ob (zBf (e := eI) (z := 1) r0.1 r0.2) (ob (o_ad (P := TE.P) (φ := fun _ _ => none) (T := 42) (q := (1, [(di 0)])) (c := (ccap r0.2)) (e := eI) r0.1 s8_8 (by kernel_rfl) (fun _ => rfl) h902 h903) (ob (zYb (x := 1) h904) (ob (hrc ([] : Fr) ((r0.1 ++ [s8_8]), .ro) (or64 r1 (zL 1 s8_8)) r2 _ h906) (ob (o_b h907) ob0))))))))) (by kernel_rfl)
 ·exact zqo [(75, 7, 3, .q (xi (p0.Counts.1.length : Int))), (75, 7, 4, .q (xb false))] [] g1 (ob (zx zi p0.Counts.1) (ob (o_b h901) ob0)) (by kernel_rfl)
theorem zkr (k : Nat) (p0 : za) (rc : zt3) (f1 f2 : Fr) (hrc : ∀ (f : Fr) (r0 : (SL Int)) (r1 : Int) (r2 : Int) (r : ((SL Int) × Bool)), rc r0 r1 r2 = some r → zcb TE (ev TE) 75 [(.d (dl eI r0.1 r0.2)), (xi r1), (xi r2), (.ptr 0 1 0), (.ptr 0 5 0)] ⟨f, [[(1, (.cells ((zb p0).map .d))), (5, (.cells [(.fn 75 [] [(.ptr 0 1 0), (.ptr 0 5 0)])]))], f1, f2]⟩ [] = some (zC r, ⟨f, [[(1, (.cells ((zb p0).map .d))), (5, (.cells [(.fn 75 [] [(.ptr 0 1 0), (.ptr 0 5 0)])]))], f1, f2]⟩, [])) (r0 : (SL Int)) (r1 r2 : Int) (r : zt14) (h : z1g k p0 rc r0 r1 r2 = some r) : zcb TE (ev TE) 75 [(.d (dl eI r0.1 r0.2)), (xi r1), (xi r2), (.ptr 0 1 0), (.ptr 0 5 0)] ⟨f2, [[(zc 1 (zb p0)), (5, (.cells [(.fn 75 [] [(.ptr 0 1 0), (.ptr 0 5 0)])]))], f1]⟩ [] = some (zC r, ⟨f2, [[(zc 1 (zb p0)), (5, (.cells [(.fn 75 [] [(.ptr 0 1 0), (.ptr 0 5 0)])]))], f1]⟩, []) := by
 unfold z1g at h
 refine zl h (fun h701 g1 => ?_) (fun h701 g1 => ?_)
 ·refine zk g1 (fun v702 h703 g2 => ?_)
  exact zHb (g := (fun r => (zC r, ⟨f2, [[(1, (.cells ((zb p0).map .d))), (5, (.cells [(.fn 75 [] [(.ptr 0 1 0), (.ptr 0 5 0)])]))], f1]⟩, []))) g2 (zlb (n := 80) (V := [(75, 1, 1, .q (xi (r0.1.length : Int))), (75, 1, 3, .q (xb true)), (75, 2, 3, .c (db v702))]) (C := []) (ob (zx eI r0.1) (ob (o_b h701) (ob (zUb k p0 r1 _ h703) ob0))) (by kernel_rfl))
 ·refine zk g1 (fun v702 h703 g2 => ?_)
  refine zk g2 (fun v704 h705 g3 => ?_)
  refine zwd g3 (fun v707 hh g4_0 => ?_) (fun v707 hh g4_0 => ?_)
  ·subst hh
   exact zHb (g := (fun r => (zC r, ⟨f2, [[(1, (.cells ((zb p0).map .d))), (5, (.cells [(.fn 75 [] [(.ptr 0 1 0), (.ptr 0 5 0)])]))], f1]⟩, []))) g4_0 (zlb (n := 80) (V := [(75, 1, 1, .q (xi (r0.1.length : Int))), (75, 1, 3, .q (xb false)), (75, 4, 1, .q (xi (r0.1.length : Int)))]) (C := [(75, 2000024, (.nor, z4f p0 r0 r1 r2 (decide ((r0.1.length : Int) > 0)) rc f1 f2 v702)), (75, 0, (.ret, zjj p0 r0 r1 r2 v702 rc f1 f2 v707))]) (ob (zx eI r0.1) (ob (o_b h701) (ob (zx eI r0.1) (ob (zrm k p0 r0 r1 r2 (decide ((r0.1.length : Int) > 0)) rc f1 f2 hrc _ h703) (ob (zG (id := 0) (r' := (.ret, zjj p0 r0 r1 r2 v702 rc f1 f2 v707)) (zEc (zgm k p0 r0 r1 r2 v702 rc f1 f2 hrc) k _ _ h705) rfl) ob0))))) (by kernel_rfl))
  ·subst hh
   exact zHb (g := (fun r => (zC r, ⟨f2, [[(1, (.cells ((zb p0).map .d))), (5, (.cells [(.fn 75 [] [(.ptr 0 1 0), (.ptr 0 5 0)])]))], f1]⟩, []))) g4_0 (zlb (n := 80) (V := [(75, 1, 1, .q (xi (r0.1.length : Int))), (75, 1, 3, .q (xb false)), (75, 4, 1, .q (xi (r0.1.length : Int)))]) (C := [(75, 2000024, (.nor, z4f p0 r0 r1 r2 (decide ((r0.1.length : Int) > 0)) rc f1 f2 v702)), (75, 0, (.nor, zhj p0 r0 r1 r2 v702 rc f1 f2 v707))]) (ob (zx eI r0.1) (ob (o_b h701) (ob (zx eI r0.1) (ob (zrm k p0 r0 r1 r2 (decide ((r0.1.length : Int) > 0)) rc f1 f2 hrc _ h703) (ob (zG (id := 0) (r' := (.nor, zhj p0 r0 r1 r2 v702 rc f1 f2 v707)) (zEc (zgm k p0 r0 r1 r2 v702 rc f1 f2 hrc) k _ _ h705) rfl) ob0))))) (by kernel_rfl))
noncomputable def zZf (p0 : za) (r0 : (SL Int)) (r1 r2 : Int) (cb : Bool) (rc : zt3) (f1 f2 f3 : Fr) (r : zt4) : St := ⟨(zHq r0 r1 r2 r), ⟨[], [[(zc 1 (zb p0)), (5, (.cells [(.fn 75 [] [(.ptr 0 1 0), (.ptr 0 5 0)])]))], f1, f2, f3]⟩, []⟩
theorem zpm (k : Nat) (p0 : za) (r0 : (SL Int)) (r1 r2 : Int) (cb : Bool) (rc : zt3) (f1 f2 f3 : Fr) (hrc : ∀ (f : Fr) (r0 : (SL Int)) (r1 : Int) (r2 : Int) (r : ((SL Int) × Bool)), rc r0 r1 r2 = some r → zcb TE (ev TE) 75 [(.d (dl eI r0.1 r0.2)), (xi r1), (xi r2), (.ptr 0 1 0), (.ptr 0 5 0)] ⟨f, [[(1, (.cells ((zb p0).map .d))), (5, (.cells [(.fn 75 [] [(.ptr 0 1 0), (.ptr 0 5 0)])]))], f1, f2, f3]⟩ [] = some (zC r, ⟨f, [[(1, (.cells ((zb p0).map .d))), (5, (.cells [(.fn 75 [] [(.ptr 0 1 0), (.ptr 0 5 0)])]))], f1, f2, f3]⟩, [])) (r : zt4) (h : zXk k p0 r0 r1 r2 cb rc = some r) : ev TE 75 (cnd TE 75 24) ⟨(zqq r0 r1 r2 cb), ⟨[], [[(zc 1 (zb p0)), (5, (.cells [(.fn 75 [] [(.ptr 0 1 0), (.ptr 0 5 0)])]))], f1, f2, f3]⟩, []⟩ = some (.nor, zZf p0 r0 r1 r2 cb rc f1 f2 f3 r) := by
 unfold zXk at h
 refine zl h (fun h1001 g1 => ?_) (fun h1001 g1 => ?_)
 ·subst h1001
  refine zk g1 (fun v1002 h1003 g2 => ?_)
  exact zB (g := fun r => (Ex.nor, zZf p0 r0 r1 r2 true rc f1 f2 f3 r)) g2 (zqe [(75, 5, 2, .q (xi (r0.1.length : Int))), (75, 5, 4, .q (.d (.pin [(di v1002)])))] [] (ob (zx eI r0.1) (ob (o_ia (e := eI) 1 h1003 rfl) ob0)) (by kernel_rfl))
 ·subst h1001
  exact zB (g := fun r => (Ex.nor, zZf p0 r0 r1 r2 false rc f1 f2 f3 r)) g1 (zqe [] [] ob0 (by kernel_rfl))
noncomputable def zYD (r0 : (SL Int)) (r1 r2 : Int) (v902 : zt4) (s10_8 : Int) : TM := [(0, (.d (dl eI r0.1 r0.2))), (1, (xi r1)), (2, (xi r2)), (3, (.ptr 0 1 0)), (4, (.ptr 0 5 0)), (8, (.d (.sl [] .nil))), (9, (xb false)), (17, (xb false)), (10, (xi v902.1)), (24, (xb v902.2)), (11, (xi s10_8))]
noncomputable def zYr (p0 : za) (r0 : (SL Int)) (r1 r2 : Int) (v902 : zt4) (rc : zt3) (f1 f2 f3 : Fr) (s10_8 : Int) : St := ⟨(zYD r0 r1 r2 v902 s10_8), ⟨[], [[(zc 1 (zb p0)), (5, (.cells [(.fn 75 [] [(.ptr 0 1 0), (.ptr 0 5 0)])]))], f1, f2, f3]⟩, []⟩
noncomputable def zqE (r0 : (SL Int)) (r1 r2 : Int) (r : zt18) (v902 : zt4) : TM := [(0, (.d (dl eI r0.1 r0.2))), (1, (xi r1)), (2, (xi r2)), (3, (.ptr 0 1 0)), (4, (.ptr 0 5 0)), (8, (.d (dl eI r.1.1 r.1.2))), (9, (xb true)), (17, (xb false)), (10, (xi v902.1)), (24, (xb v902.2)), (11, (xi r.2.1)), (37, (xb true)), (12, (.d (dl eI r.1.1 r.1.2))), (13, (xb r.2.2)), (59, (xb true))]
noncomputable def zMi (p0 : za) (r0 : (SL Int)) (r1 r2 : Int) (v902 : zt4) (rc : zt3) (f1 f2 f3 : Fr) (r : zt18) : St := ⟨(zqE r0 r1 r2 r v902), ⟨[], [[(zc 1 (zb p0)), (5, (.cells [(.fn 75 [] [(.ptr 0 1 0), (.ptr 0 5 0)])]))], f1, f2, f3]⟩, []⟩
noncomputable def zWD (r0 : (SL Int)) (r1 r2 : Int) (v902 : zt4) (r : Int) : TM := [(0, (.d (dl eI r0.1 r0.2))), (1, (xi r1)), (2, (xi r2)), (3, (.ptr 0 1 0)), (4, (.ptr 0 5 0)), (8, (.d (.sl [] .nil))), (9, (xb false)), (17, (xb false)), (10, (xi v902.1)), (24, (xb v902.2)), (11, (xi r)), (37, (xb false))]
noncomputable def zHi (p0 : za) (r0 : (SL Int)) (r1 r2 : Int) (v902 : zt4) (rc : zt3) (f1 f2 f3 : Fr) (r : Int) : St := ⟨(zWD r0 r1 r2 v902 r), ⟨[], [[(zc 1 (zb p0)), (5, (.cells [(.fn 75 [] [(.ptr 0 1 0), (.ptr 0 5 0)])]))], f1, f2, f3]⟩, []⟩
noncomputable def zMr (p0 : za) (r0 : (SL Int)) (r1 r2 : Int) (v902 : zt4) (rc : zt3) (f1 f2 f3 : Fr) : (((SL Int) × Int × Bool) ⊕ Int) → Ex × St := Sum.elim (fun r => (.ret, zMi p0 r0 r1 r2 v902 rc f1 f2 f3 r)) (fun r => ((.exit 0), zHi p0 r0 r1 r2 v902 rc f1 f2 f3 r))
theorem zKl (k : Nat) (p0 : za) (r0 : (SL Int)) (r1 r2 : Int) (v902 : zt4) (rc : zt3) (f1 f2 f3 : Fr) (hrc : ∀ (f : Fr) (r0 : (SL Int)) (r1 : Int) (r2 : Int) (r : ((SL Int) × Bool)), rc r0 r1 r2 = some r → zcb TE (ev TE) 75 [(.d (dl eI r0.1 r0.2)), (xi r1), (xi r2), (.ptr 0 1 0), (.ptr 0 5 0)] ⟨f, [[(1, (.cells ((zb p0).map .d))), (5, (.cells [(.fn 75 [] [(.ptr 0 1 0), (.ptr 0 5 0)])]))], f1, f2, f3]⟩ [] = some (zC r, ⟨f, [[(1, (.cells ((zb p0).map .d))), (5, (.cells [(.fn 75 [] [(.ptr 0 1 0), (.ptr 0 5 0)])]))], f1, f2, f3]⟩, [])) (s10_8 : Int) (x : Int ⊕ (((SL Int) × Int × Bool) ⊕ Int)) (h : zpk k p0 r0 r1 r2 v902 rc s10_8 = some x) : zO TE 75 (blk TE 75 0) (fun s : Int => zYr p0 r0 r1 r2 v902 rc f1 f2 f3 s) (zMr p0 r0 r1 r2 v902 rc f1 f2 f3) s10_8 x := by
 unfold zpk at h
 refine zl h (fun h1101 g1 => ?_) (fun h1101 g1 => ?_)
 ·refine zl g1 (fun h1102 g2 => ?_) (fun h1102 g2 => ?_)
  ·cases g2
  ·refine zT g2 (fun h1103 g3 => ?_)
   refine zl g3 (fun h1104 g4 => ?_) (fun h1104 g4 => ?_)
   ·cases g4
   ·refine zk g4 (fun v1105 h1106 g5 => ?_)
    refine zl g5 (fun h1107 g6 => ?_) (fun h1107 g6 => ?_)
    ·exact zqo [(75, 7, 3, .q (xi (p0.Counts.1.length : Int))), (75, 7, 4, .q (xb true)), (75, 9, 3, .q (xi (r0.1.length : Int))), (75, 9, 5, .q (xi (r0.1.length : Int))), (75, 9, 6, .q (.d (dl eI r0.1 (ccap r0.2)))), (75, 9, 9, .q (.d (dl eI (r0.1 ++ [s10_8]) .ro))), (75, 9, 12, .q (xi (zL 1 s10_8))), (75, 9, 15, .i (.tup [(dl eI v1105.1.1 v1105.1.2), (db v1105.2)]) ⟨[], [[(1, (.cells ((zb p0).map .d))), (5, (.cells [(.fn 75 [] [(.ptr 0 1 0), (.ptr 0 5 0)])]))], f1, f2, f3]⟩ []), (75, 10, 0, .q (xb true))] [] g6 (ob (zx zi p0.Counts.1) (ob (o_b h1101) (ob (zx eI r0.1) (ob (zx eI r0.1) (ob (zBf (e := eI) (z := 1) r0.1 r0.2) (ob (o_ad (P := TE.P) (φ := fun _ _ => none) (T := 42) (q := (1, [(di 0)])) (c := (ccap r0.2)) (e := eI) r0.1 s10_8 (by kernel_rfl) (fun _ => rfl) h1102 h1103) (ob (zYb (x := 1) h1104) (ob (hrc ([] : Fr) ((r0.1 ++ [s10_8]), .ro) (or64 r1 (zL 1 s10_8)) r2 _ h1106) (ob (o_b h1107) ob0))))))))) (by kernel_rfl)
    ·exact zqn (w64 (s10_8 + 1)) [] [(75, 7, 3, .q (xi (p0.Counts.1.length : Int))), (75, 7, 4, .q (xb true)), (75, 9, 3, .q (xi (r0.1.length : Int))), (75, 9, 5, .q (xi (r0.1.length : Int))), (75, 9, 6, .q (.d (dl eI r0.1 (ccap r0.2)))), (75, 9, 9, .q (.d (dl eI (r0.1 ++ [s10_8]) .ro))), (75, 9, 12, .q (xi (zL 1 s10_8))), (75, 9, 15, .i (.tup [(dl eI v1105.1.1 v1105.1.2), (db v1105.2)]) ⟨[], [[(1, (.cells ((zb p0).map .d))), (5, (.cells [(.fn 75 [] [(.ptr 0 1 0), (.ptr 0 5 0)])]))], f1, f2, f3]⟩ []), (75, 10, 0, .q (xb false))] [] g6 (ob (zx zi p0.Counts.1) (ob (o_b h1101) (ob (zx eI r0.1) (ob (zx eI r0.1) (ob (zBf (e := eI) (z := 1) r0.1 r0.2) (ob (o_ad (P := TE.P) (φ := fun _ _ => none) (T := 42) (q := (1, [(di 0)])) (c := (ccap r0.2)) (e := eI) r0.1 s10_8 (by kernel_rfl) (fun _ => rfl) h1102 h1103) (ob (zYb (x := 1) h1104) (ob (hrc ([] : Fr) ((r0.1 ++ [s10_8]), .ro) (or64 r1 (zL 1 s10_8)) r2 _ h1106) (ob (o_b h1107) ob0))))))))) (by kernel_rfl)
 ·exact zqo [(75, 7, 3, .q (xi (p0.Counts.1.length : Int))), (75, 7, 4, .q (xb false))] [] g1 (ob (zx zi p0.Counts.1) (ob (o_b h1101) ob0)) (by kernel_rfl)
theorem znr (k : Nat) (p0 : za) (rc : zt3) (f1 f2 f3 : Fr) (hrc : ∀ (f : Fr) (r0 : (SL Int)) (r1 : Int) (r2 : Int) (r : ((SL Int) × Bool)), rc r0 r1 r2 = some r → zcb TE (ev TE) 75 [(.d (dl eI r0.1 r0.2)), (xi r1), (xi r2), (.ptr 0 1 0), (.ptr 0 5 0)] ⟨f, [[(1, (.cells ((zb p0).map .d))), (5, (.cells [(.fn 75 [] [(.ptr 0 1 0), (.ptr 0 5 0)])]))], f1, f2, f3]⟩ [] = some (zC r, ⟨f, [[(1, (.cells ((zb p0).map .d))), (5, (.cells [(.fn 75 [] [(.ptr 0 1 0), (.ptr 0 5 0)])]))], f1, f2, f3]⟩, [])) (r0 : (SL Int)) (r1 r2 : Int) (r : zt14) (h : z7g k p0 rc r0 r1 r2 = some r) : zcb TE (ev TE) 75 [(.d (dl eI r0.1 r0.2)), (xi r1), (xi r2), (.ptr 0 1 0), (.ptr 0 5 0)] ⟨f3, [[(zc 1 (zb p0)), (5, (.cells [(.fn 75 [] [(.ptr 0 1 0), (.ptr 0 5 0)])]))], f1, f2]⟩ [] = some (zC r, ⟨f3, [[(zc 1 (zb p0)), (5, (.cells [(.fn 75 [] [(.ptr 0 1 0), (.ptr 0 5 0)])]))], f1, f2]⟩, []) := by
 unfold z7g at h
 refine zl h (fun h901 g1 => ?_) (fun h901 g1 => ?_)
 ·refine zk g1 (fun v902 h903 g2 => ?_)
  exact zHb (g := (fun r => (zC r, ⟨f3, [[(1, (.cells ((zb p0).map .d))), (5, (.cells [(.fn 75 [] [(.ptr 0 1 0), (.ptr 0 5 0)])]))], f1, f2]⟩, []))) g2 (zlb (n := 80) (V := [(75, 1, 1, .q (xi (r0.1.length : Int))), (75, 1, 3, .q (xb true)), (75, 2, 3, .c (db v902))]) (C := []) (ob (zx eI r0.1) (ob (o_b h901) (ob (zUb k p0 r1 _ h903) ob0))) (by kernel_rfl))
 ·refine zk g1 (fun v902 h903 g2 => ?_)
  refine zk g2 (fun v904 h905 g3 => ?_)
  refine zwd g3 (fun v907 hh g4_0 => ?_) (fun v907 hh g4_0 => ?_)
  ·subst hh
   exact zHb (g := (fun r => (zC r, ⟨f3, [[(1, (.cells ((zb p0).map .d))), (5, (.cells [(.fn 75 [] [(.ptr 0 1 0), (.ptr 0 5 0)])]))], f1, f2]⟩, []))) g4_0 (zlb (n := 80) (V := [(75, 1, 1, .q (xi (r0.1.length : Int))), (75, 1, 3, .q (xb false)), (75, 4, 1, .q (xi (r0.1.length : Int)))]) (C := [(75, 2000024, (.nor, zZf p0 r0 r1 r2 (decide ((r0.1.length : Int) > 0)) rc f1 f2 f3 v902)), (75, 0, (.ret, zMi p0 r0 r1 r2 v902 rc f1 f2 f3 v907))]) (ob (zx eI r0.1) (ob (o_b h901) (ob (zx eI r0.1) (ob (zpm k p0 r0 r1 r2 (decide ((r0.1.length : Int) > 0)) rc f1 f2 f3 hrc _ h903) (ob (zG (id := 0) (r' := (.ret, zMi p0 r0 r1 r2 v902 rc f1 f2 f3 v907)) (zEc (zKl k p0 r0 r1 r2 v902 rc f1 f2 f3 hrc) k _ _ h905) rfl) ob0))))) (by kernel_rfl))
  ·subst hh
   exact zHb (g := (fun r => (zC r, ⟨f3, [[(1, (.cells ((zb p0).map .d))), (5, (.cells [(.fn 75 [] [(.ptr 0 1 0), (.ptr 0 5 0)])]))], f1, f2]⟩, []))) g4_0 (zlb (n := 80) (V := [(75, 1, 1, .q (xi (r0.1.length : Int))), (75, 1, 3, .q (xb false)), (75, 4, 1, .q (xi (r0.1.length : Int)))]) (C := [(75, 2000024, (.nor, zZf p0 r0 r1 r2 (decide ((r0.1.length : Int) > 0)) rc f1 f2 f3 v902)), (75, 0, (.nor, zHi p0 r0 r1 r2 v902 rc f1 f2 f3 v907))]) (ob (zx eI r0.1) (ob (o_b h901) (ob (zx eI r0.1) (ob (zpm k p0 r0 r1 r2 (decide ((r0.1.length : Int) > 0)) rc f1 f2 f3 hrc _ h903) (ob (zG (id := 0) (r' := (.nor, zHi p0 r0 r1 r2 v902 rc f1 f2 f3 v907)) (zEc (zKl k p0 r0 r1 r2 v902 rc f1 f2 f3 hrc) k _ _ h905) rfl) ob0))))) (by kernel_rfl))
noncomputable def zpf (p0 : za) (r0 : (SL Int)) (r1 r2 : Int) (cb : Bool) (rc : zt3) (f1 f2 f3 f4 : Fr) (r : zt4) : St := ⟨(zHq r0 r1 r2 r), ⟨[], [[(zc 1 (zb p0)), (5, (.cells [(.fn 75 [] [(.ptr 0 1 0), (.ptr 0 5 0)])]))], f1, f2, f3, f4]⟩, []⟩
theorem zIl (k : Nat) (p0 : za) (r0 : (SL Int)) (r1 r2 : Int) (cb : Bool) (rc : zt3) (f1 f2 f3 f4 : Fr) (hrc : ∀ (f : Fr) (r0 : (SL Int)) (r1 : Int) (r2 : Int) (r : ((SL Int) × Bool)), rc r0 r1 r2 = some r → zcb TE (ev TE) 75 [(.d (dl eI r0.1 r0.2)), (xi r1), (xi r2), (.ptr 0 1 0), (.ptr 0 5 0)] ⟨f, [[(1, (.cells ((zb p0).map .d))), (5, (.cells [(.fn 75 [] [(.ptr 0 1 0), (.ptr 0 5 0)])]))], f1, f2, f3, f4]⟩ [] = some (zC r, ⟨f, [[(1, (.cells ((zb p0).map .d))), (5, (.cells [(.fn 75 [] [(.ptr 0 1 0), (.ptr 0 5 0)])]))], f1, f2, f3, f4]⟩, [])) (r : zt4) (h : zzk k p0 r0 r1 r2 cb rc = some r) : ev TE 75 (cnd TE 75 24) ⟨(zqq r0 r1 r2 cb), ⟨[], [[(zc 1 (zb p0)), (5, (.cells [(.fn 75 [] [(.ptr 0 1 0), (.ptr 0 5 0)])]))], f1, f2, f3, f4]⟩, []⟩ = some (.nor, zpf p0 r0 r1 r2 cb rc f1 f2 f3 f4 r) := by
 unfold zzk at h
 refine zl h (fun h1201 g1 => ?_) (fun h1201 g1 => ?_)
 ·subst h1201
  refine zk g1 (fun v1202 h1203 g2 => ?_)
  exact zB (g := fun r => (Ex.nor, zpf p0 r0 r1 r2 true rc f1 f2 f3 f4 r)) g2 (zqe [(75, 5, 2, .q (xi (r0.1.length : Int))), (75, 5, 4, .q (.d (.pin [(di v1202)])))] [] (ob (zx eI r0.1) (ob (o_ia (e := eI) 1 h1203 rfl) ob0)) (by kernel_rfl))
 ·subst h1201
  exact zB (g := fun r => (Ex.nor, zpf p0 r0 r1 r2 false rc f1 f2 f3 f4 r)) g1 (zqe [] [] ob0 (by kernel_rfl))
noncomputable def zCE (r0 : (SL Int)) (r1 r2 : Int) (v1102 : zt4) (s12_8 : Int) : TM := [(0, (.d (dl eI r0.1 r0.2))), (1, (xi r1)), (2, (xi r2)), (3, (.ptr 0 1 0)), (4, (.ptr 0 5 0)), (8, (.d (.sl [] .nil))), (9, (xb false)), (17, (xb false)), (10, (xi v1102.1)), (24, (xb v1102.2)), (11, (xi s12_8))]
noncomputable def zZr (p0 : za) (r0 : (SL Int)) (r1 r2 : Int) (v1102 : zt4) (rc : zt3) (f1 f2 f3 f4 : Fr) (s12_8 : Int) : St := ⟨(zCE r0 r1 r2 v1102 s12_8), ⟨[], [[(zc 1 (zb p0)), (5, (.cells [(.fn 75 [] [(.ptr 0 1 0), (.ptr 0 5 0)])]))], f1, f2, f3, f4]⟩, []⟩
noncomputable def zaE (r0 : (SL Int)) (r1 r2 : Int) (r : zt18) (v1102 : zt4) : TM := [(0, (.d (dl eI r0.1 r0.2))), (1, (xi r1)), (2, (xi r2)), (3, (.ptr 0 1 0)), (4, (.ptr 0 5 0)), (8, (.d (dl eI r.1.1 r.1.2))), (9, (xb true)), (17, (xb false)), (10, (xi v1102.1)), (24, (xb v1102.2)), (11, (xi r.2.1)), (37, (xb true)), (12, (.d (dl eI r.1.1 r.1.2))), (13, (xb r.2.2)), (59, (xb true))]
noncomputable def zFi (p0 : za) (r0 : (SL Int)) (r1 r2 : Int) (v1102 : zt4) (rc : zt3) (f1 f2 f3 f4 : Fr) (r : zt18) : St := ⟨(zaE r0 r1 r2 r v1102), ⟨[], [[(zc 1 (zb p0)), (5, (.cells [(.fn 75 [] [(.ptr 0 1 0), (.ptr 0 5 0)])]))], f1, f2, f3, f4]⟩, []⟩
noncomputable def z8E (r0 : (SL Int)) (r1 r2 : Int) (v1102 : zt4) (r : Int) : TM := [(0, (.d (dl eI r0.1 r0.2))), (1, (xi r1)), (2, (xi r2)), (3, (.ptr 0 1 0)), (4, (.ptr 0 5 0)), (8, (.d (.sl [] .nil))), (9, (xb false)), (17, (xb false)), (10, (xi v1102.1)), (24, (xb v1102.2)), (11, (xi r)), (37, (xb false))]
noncomputable def zvi (p0 : za) (r0 : (SL Int)) (r1 r2 : Int) (v1102 : zt4) (rc : zt3) (f1 f2 f3 f4 : Fr) (r : Int) : St := ⟨(z8E r0 r1 r2 v1102 r), ⟨[], [[(zc 1 (zb p0)), (5, (.cells [(.fn 75 [] [(.ptr 0 1 0), (.ptr 0 5 0)])]))], f1, f2, f3, f4]⟩, []⟩
noncomputable def z0r (p0 : za) (r0 : (SL Int)) (r1 r2 : Int) (v1102 : zt4) (rc : zt3) (f1 f2 f3 f4 : Fr) : (((SL Int) × Int × Bool) ⊕ Int) → Ex × St := Sum.elim (fun r => (.ret, zFi p0 r0 r1 r2 v1102 rc f1 f2 f3 f4 r)) (fun r => ((.exit 0), zvi p0 r0 r1 r2 v1102 rc f1 f2 f3 f4 r))
theorem zzl (k : Nat) (p0 : za) (r0 : (SL Int)) (r1 r2 : Int) (v1102 : zt4) (rc : zt3) (f1 f2 f3 f4 : Fr) (hrc : ∀ (f : Fr) (r0 : (SL Int)) (r1 : Int) (r2 : Int) (r : ((SL Int) × Bool)), rc r0 r1 r2 = some r → zcb TE (ev TE) 75 [(.d (dl eI r0.1 r0.2)), (xi r1), (xi r2), (.ptr 0 1 0), (.ptr 0 5 0)] ⟨f, [[(1, (.cells ((zb p0).map .d))), (5, (.cells [(.fn 75 [] [(.ptr 0 1 0), (.ptr 0 5 0)])]))], f1, f2, f3, f4]⟩ [] = some (zC r, ⟨f, [[(1, (.cells ((zb p0).map .d))), (5, (.cells [(.fn 75 [] [(.ptr 0 1 0), (.ptr 0 5 0)])]))], f1, f2, f3, f4]⟩, [])) (s12_8 : Int) (x : Int ⊕ (((SL Int) × Int × Bool) ⊕ Int)) (h : zdk k p0 r0 r1 r2 v1102 rc s12_8 = some x) : zO TE 75 (blk TE 75 0) (fun s : Int => zZr p0 r0 r1 r2 v1102 rc f1 f2 f3 f4 s) (z0r p0 r0 r1 r2 v1102 rc f1 f2 f3 f4) s12_8 x := by
 unfold zdk at h
 refine zl h (fun h1301 g1 => ?_) (fun h1301 g1 => ?_)
 ·refine zl g1 (fun h1302 g2 => ?_) (fun h1302 g2 => ?_)
  ·cases g2
  ·refine zT g2 (fun h1303 g3 => ?_)
   refine zl g3 (fun h1304 g4 => ?_) (fun h1304 g4 => ?_)
   ·cases g4
   ·refine zk g4 (fun v1305 h1306 g5 => ?_)
    refine zl g5 (fun h1307 g6 => ?_) (fun h1307 g6 => ?_)
    ·exact zqo [(75, 7, 3, .q (xi (p0.Counts.1.length : Int))), (75, 7, 4, .q (xb true)), (75, 9, 3, .q (xi (r0.1.length : Int))), (75, 9, 5, .q (xi (r0.1.length : Int))), (75, 9, 6, .q (.d (dl eI r0.1 (ccap r0.2)))), (75, 9, 9, .q (.d (dl eI (r0.1 ++ [s12_8]) .ro))), (75, 9, 12, .q (xi (zL 1 s12_8))), (75, 9, 15, .i (.tup [(dl eI v1305.1.1 v1305.1.2), (db v1305.2)]) ⟨[], [[(1, (.cells ((zb p0).map .d))), (5, (.cells [(.fn 75 [] [(.ptr 0 1 0), (.ptr 0 5 0)])]))], f1, f2, f3, f4]⟩ []), (75, 10, 0, .q (xb true))] [] g6 (ob (zx zi p0.Counts.1) (ob (o_b h1301) (ob (zx eI r0.1) (ob (zx eI r0.1) (ob (zBf (e := eI) (z := 1) r0.1 r0.2) (ob (o_ad (P := TE.P) (φ := fun _ _ => none) (T := 42) (q := (1, [(di 0)])) (c := (ccap r0.2)) (e := eI) r0.1 s12_8 (by kernel_rfl) (fun _ => rfl) h1302 h1303) (ob (zYb (x := 1) h1304) (ob (hrc ([] : Fr) ((r0.1 ++ [s12_8]), .ro) (or64 r1 (zL 1 s12_8)) r2 _ h1306) (ob (o_b h1307) ob0))))))))) (by kernel_rfl)
    ·exact zqn (w64 (s12_8 + 1)) [] [(75, 7, 3, .q (xi (p0.Counts.1.length : Int))), (75, 7, 4, .q (xb true)), (75, 9, 3, .q (xi (r0.1.length : Int))), (75, 9, 5, .q (xi (r0.1.length : Int))), (75, 9, 6, .q (.d (dl eI r0.1 (ccap r0.2)))), (75, 9, 9, .q (.d (dl eI (r0.1 ++ [s12_8]) .ro))), (75, 9, 12, .q (xi (zL 1 s12_8))), (75, 9, 15, .i (.tup [(dl eI v1305.1.1 v1305.1.2), (db v1305.2)]) ⟨[], [[(1, (.cells ((zb p0).map .d))), (5, (.cells [(.fn 75 [] [(.ptr 0 1 0), (.ptr 0 5 0)])]))], f1, f2, f3, f4]⟩ []), (75, 10, 0, .q (xb false))] [] g6 (ob (zx zi p0.Counts.1) (ob (o_b h1301) (ob (zx eI r0.1) (ob (zx eI r0.1) (ob (zBf (e := eI) (z := 1) r0.1 r0.2) (ob (o_ad (P := TE.P) (φ := fun _ _ => none) (T := 42) (q := (1, [(di 0)])) (c := (ccap r0.2)) (e := eI) r0.1 s12_8 (by kernel_rfl) (fun _ => rfl) h1302 h1303) (ob (zYb (x := 1) h1304) (ob (hrc ([] : Fr) ((r0.1 ++ [s12_8]), .ro) (or64 r1 (zL 1 s12_8)) r2 _ h1306) (ob (o_b h1307) ob0))))))))) (by kernel_rfl)
 ·exact zqo [(75, 7, 3, .q (xi (p0.Counts.1.length : Int))), (75, 7, 4, .q (xb false))] [] g1 (ob (zx zi p0.Counts.1) (ob (o_b h1301) ob0)) (by kernel_rfl)
theorem zcr (k : Nat) (p0 : za) (rc : zt3) (f1 f2 f3 f4 : Fr) (hrc : ∀ (f : Fr) (r0 : (SL Int)) (r1 : Int) (r2 : Int) (r : ((SL Int) × Bool)), rc r0 r1 r2 = some r → zcb TE (ev TE) 75 [(.d (dl eI r0.1 r0.2)), (xi r1), (xi r2), (.ptr 0 1 0), (.ptr 0 5 0)] ⟨f, [[(1, (.cells ((zb p0).map .d))), (5, (.cells [(.fn 75 [] [(.ptr 0 1 0), (.ptr 0 5 0)])]))], f1, f2, f3, f4]⟩ [] = some (zC r, ⟨f, [[(1, (.cells ((zb p0).map .d))), (5, (.cells [(.fn 75 [] [(.ptr 0 1 0), (.ptr 0 5 0)])]))], f1, f2, f3, f4]⟩, [])) (r0 : (SL Int)) (r1 r2 : Int) (r : zt14) (h : z2g k p0 rc r0 r1 r2 = some r) : zcb TE (ev TE) 75 [(.d (dl eI r0.1 r0.2)), (xi r1), (xi r2), (.ptr 0 1 0), (.ptr 0 5 0)] ⟨f4, [[(zc 1 (zb p0)), (5, (.cells [(.fn 75 [] [(.ptr 0 1 0), (.ptr 0 5 0)])]))], f1, f2, f3]⟩ [] = some (zC r, ⟨f4, [[(zc 1 (zb p0)), (5, (.cells [(.fn 75 [] [(.ptr 0 1 0), (.ptr 0 5 0)])]))], f1, f2, f3]⟩, []) := by
 unfold z2g at h
 refine zl h (fun h1101 g1 => ?_) (fun h1101 g1 => ?_)
 ·refine zk g1 (fun v1102 h1103 g2 => ?_)
  exact zHb (g := (fun r => (zC r, ⟨f4, [[(1, (.cells ((zb p0).map .d))), (5, (.cells [(.fn 75 [] [(.ptr 0 1 0), (.ptr 0 5 0)])]))], f1, f2, f3]⟩, []))) g2 (zlb (n := 80) (V := [(75, 1, 1, .q (xi (r0.1.length : Int))), (75, 1, 3, .q (xb true)), (75, 2, 3, .c (db v1102))]) (C := []) (ob (zx eI r0.1) (ob (o_b h1101) (ob (zUb k p0 r1 _ h1103) ob0))) (by kernel_rfl))
 ·refine zk g1 (fun v1102 h1103 g2 => ?_)
  refine zk g2 (fun v1104 h1105 g3 => ?_)
  refine zwd g3 (fun v1107 hh g4_0 => ?_) (fun v1107 hh g4_0 => ?_)
  ·subst hh
   exact zHb (g := (fun r => (zC r, ⟨f4, [[(1, (.cells ((zb p0).map .d))), (5, (.cells [(.fn 75 [] [(.ptr 0 1 0), (.ptr 0 5 0)])]))], f1, f2, f3]⟩, []))) g4_0 (zlb (n := 80) (V := [(75, 1, 1, .q (xi (r0.1.length : Int))), (75, 1, 3, .q (xb false)), (75, 4, 1, .q (xi (r0.1.length : Int)))]) (C := [(75, 2000024, (.nor, zpf p0 r0 r1 r2 (decide ((r0.1.length : Int) > 0)) rc f1 f2 f3 f4 v1102)), (75, 0, (.ret, zFi p0 r0 r1 r2 v1102 rc f1 f2 f3 f4 v1107))]) (ob (zx eI r0.1) (ob (o_b h1101) (ob (zx eI r0.1) (ob (zIl k p0 r0 r1 r2 (decide ((r0.1.length : Int) > 0)) rc f1 f2 f3 f4 hrc _ h1103) (ob (zG (id := 0) (r' := (.ret, zFi p0 r0 r1 r2 v1102 rc f1 f2 f3 f4 v1107)) (zEc (zzl k p0 r0 r1 r2 v1102 rc f1 f2 f3 f4 hrc) k _ _ h1105) rfl) ob0))))) (by kernel_rfl))
  ·subst hh
   exact zHb (g := (fun r => (zC r, ⟨f4, [[(1, (.cells ((zb p0).map .d))), (5, (.cells [(.fn 75 [] [(.ptr 0 1 0), (.ptr 0 5 0)])]))], f1, f2, f3]⟩, []))) g4_0 (zlb (n := 80) (V := [(75, 1, 1, .q (xi (r0.1.length : Int))), (75, 1, 3, .q (xb false)), (75, 4, 1, .q (xi (r0.1.length : Int)))]) (C := [(75, 2000024, (.nor, zpf p0 r0 r1 r2 (decide ((r0.1.length : Int) > 0)) rc f1 f2 f3 f4 v1102)), (75, 0, (.nor, zvi p0 r0 r1 r2 v1102 rc f1 f2 f3 f4 v1107))]) (ob (zx eI r0.1) (ob (o_b h1101) (ob (zx eI r0.1) (ob (zIl k p0 r0 r1 r2 (decide ((r0.1.length : Int) > 0)) rc f1 f2 f3 f4 hrc _ h1103) (ob (zG (id := 0) (r' := (.nor, zvi p0 r0 r1 r2 v1102 rc f1 f2 f3 f4 v1107)) (zEc (zzl k p0 r0 r1 r2 v1102 rc f1 f2 f3 f4 hrc) k _ _ h1105) rfl) ob0))))) (by kernel_rfl))
noncomputable def zwf (p0 : za) (r0 : (SL Int)) (r1 r2 : Int) (cb : Bool) (rc : zt3) (f1 f2 f3 f4 f5 : Fr) (r : zt4) : St := ⟨(zHq r0 r1 r2 r), ⟨[], [[(zc 1 (zb p0)), (5, (.cells [(.fn 75 [] [(.ptr 0 1 0), (.ptr 0 5 0)])]))], f1, f2, f3, f4, f5]⟩, []⟩
theorem zvl (k : Nat) (p0 : za) (r0 : (SL Int)) (r1 r2 : Int) (cb : Bool) (rc : zt3) (f1 f2 f3 f4 f5 : Fr) (hrc : ∀ (f : Fr) (r0 : (SL Int)) (r1 : Int) (r2 : Int) (r : ((SL Int) × Bool)), rc r0 r1 r2 = some r → zcb TE (ev TE) 75 [(.d (dl eI r0.1 r0.2)), (xi r1), (xi r2), (.ptr 0 1 0), (.ptr 0 5 0)] ⟨f, [[(1, (.cells ((zb p0).map .d))), (5, (.cells [(.fn 75 [] [(.ptr 0 1 0), (.ptr 0 5 0)])]))], f1, f2, f3, f4, f5]⟩ [] = some (zC r, ⟨f, [[(1, (.cells ((zb p0).map .d))), (5, (.cells [(.fn 75 [] [(.ptr 0 1 0), (.ptr 0 5 0)])]))], f1, f2, f3, f4, f5]⟩, [])) (r : zt4) (h : zsk k p0 r0 r1 r2 cb rc = some r) : ev TE 75 (cnd TE 75 24) ⟨(zqq r0 r1 r2 cb), ⟨[], [[(zc 1 (zb p0)), (5, (.cells [(.fn 75 [] [(.ptr 0 1 0), (.ptr 0 5 0)])]))], f1, f2, f3, f4, f5]⟩, []⟩ = some (.nor, zwf p0 r0 r1 r2 cb rc f1 f2 f3 f4 f5 r) := by
 unfold zsk at h
 refine zl h (fun h1401 g1 => ?_) (fun h1401 g1 => ?_)
 ·subst h1401
  refine zk g1 (fun v1402 h1403 g2 => ?_)
  exact zB (g := fun r => (Ex.nor, zwf p0 r0 r1 r2 true rc f1 f2 f3 f4 f5 r)) g2 (zqe [(75, 5, 2, .q (xi (r0.1.length : Int))), (75, 5, 4, .q (.d (.pin [(di v1402)])))] [] (ob (zx eI r0.1) (ob (o_ia (e := eI) 1 h1403 rfl) ob0)) (by kernel_rfl))
 ·subst h1401
  exact zB (g := fun r => (Ex.nor, zwf p0 r0 r1 r2 false rc f1 f2 f3 f4 f5 r)) g1 (zqe [] [] ob0 (by kernel_rfl))
noncomputable def zdF (r0 : (SL Int)) (r1 r2 : Int) (v1302 : zt4) (s14_8 : Int) : TM := [(0, (.d (dl eI r0.1 r0.2))), (1, (xi r1)), (2, (xi r2)), (3, (.ptr 0 1 0)), (4, (.ptr 0 5 0)), (8, (.d (.sl [] .nil))), (9, (xb false)), (17, (xb false)), (10, (xi v1302.1)), (24, (xb v1302.2)), (11, (xi s14_8))]
noncomputable def zWr (p0 : za) (r0 : (SL Int)) (r1 r2 : Int) (v1302 : zt4) (rc : zt3) (f1 f2 f3 f4 f5 : Fr) (s14_8 : Int) : St := ⟨(zdF r0 r1 r2 v1302 s14_8), ⟨[], [[(zc 1 (zb p0)), (5, (.cells [(.fn 75 [] [(.ptr 0 1 0), (.ptr 0 5 0)])]))], f1, f2, f3, f4, f5]⟩, []⟩
noncomputable def zrE (r0 : (SL Int)) (r1 r2 : Int) (r : zt18) (v1302 : zt4) : TM := [(0, (.d (dl eI r0.1 r0.2))), (1, (xi r1)), (2, (xi r2)), (3, (.ptr 0 1 0)), (4, (.ptr 0 5 0)), (8, (.d (dl eI r.1.1 r.1.2))), (9, (xb true)), (17, (xb false)), (10, (xi v1302.1)), (24, (xb v1302.2)), (11, (xi r.2.1)), (37, (xb true)), (12, (.d (dl eI r.1.1 r.1.2))), (13, (xb r.2.2)), (59, (xb true))]
noncomputable def zCi (p0 : za) (r0 : (SL Int)) (r1 r2 : Int) (v1302 : zt4) (rc : zt3) (f1 f2 f3 f4 f5 : Fr) (r : zt18) : St := ⟨(zrE r0 r1 r2 r v1302), ⟨[], [[(zc 1 (zb p0)), (5, (.cells [(.fn 75 [] [(.ptr 0 1 0), (.ptr 0 5 0)])]))], f1, f2, f3, f4, f5]⟩, []⟩
noncomputable def z3E (r0 : (SL Int)) (r1 r2 : Int) (v1302 : zt4) (r : Int) : TM := [(0, (.d (dl eI r0.1 r0.2))), (1, (xi r1)), (2, (xi r2)), (3, (.ptr 0 1 0)), (4, (.ptr 0 5 0)), (8, (.d (.sl [] .nil))), (9, (xb false)), (17, (xb false)), (10, (xi v1302.1)), (24, (xb v1302.2)), (11, (xi r)), (37, (xb false))]
noncomputable def zLi (p0 : za) (r0 : (SL Int)) (r1 r2 : Int) (v1302 : zt4) (rc : zt3) (f1 f2 f3 f4 f5 : Fr) (r : Int) : St := ⟨(z3E r0 r1 r2 v1302 r), ⟨[], [[(zc 1 (zb p0)), (5, (.cells [(.fn 75 [] [(.ptr 0 1 0), (.ptr 0 5 0)])]))], f1, f2, f3, f4, f5]⟩, []⟩
noncomputable def zUr (p0 : za) (r0 : (SL Int)) (r1 r2 : Int) (v1302 : zt4) (rc : zt3) (f1 f2 f3 f4 f5 : Fr) : (((SL Int) × Int × Bool) ⊕ Int) → Ex × St := Sum.elim (fun r => (.ret, zCi p0 r0 r1 r2 v1302 rc f1 f2 f3 f4 f5 r)) (fun r => ((.exit 0), zLi p0 r0 r1 r2 v1302 rc f1 f2 f3 f4 f5 r))
theorem zRl (k : Nat) (p0 : za) (r0 : (SL Int)) (r1 r2 : Int) (v1302 : zt4) (rc : zt3) (f1 f2 f3 f4 f5 : Fr) (hrc : ∀ (f : Fr) (r0 : (SL Int)) (r1 : Int) (r2 : Int) (r : ((SL Int) × Bool)), rc r0 r1 r2 = some r → zcb TE (ev TE) 75 [(.d (dl eI r0.1 r0.2)), (xi r1), (xi r2), (.ptr 0 1 0), (.ptr 0 5 0)] ⟨f, [[(1, (.cells ((zb p0).map .d))), (5, (.cells [(.fn 75 [] [(.ptr 0 1 0), (.ptr 0 5 0)])]))], f1, f2, f3, f4, f5]⟩ [] = some (zC r, ⟨f, [[(1, (.cells ((zb p0).map .d))), (5, (.cells [(.fn 75 [] [(.ptr 0 1 0), (.ptr 0 5 0)])]))], f1, f2, f3, f4, f5]⟩, [])) (s14_8 : Int) (x : Int ⊕ (((SL Int) × Int × Bool) ⊕ Int)) (h : zok k p0 r0 r1 r2 v1302 rc s14_8 = some x) : zO TE 75 (blk TE 75 0) (fun s : Int => zWr p0 r0 r1 r2 v1302 rc f1 f2 f3 f4 f5 s) (zUr p0 r0 r1 r2 v1302 rc f1 f2 f3 f4 f5) s14_8 x := by
 unfold zok at h
 refine zl h (fun h1501 g1 => ?_) (fun h1501 g1 => ?_)
 ·refine zl g1 (fun h1502 g2 => ?_) (fun h1502 g2 => ?_)
  ·cases g2
  ·refine zT g2 (fun h1503 g3 => ?_)
   refine zl g3 (fun h1504 g4 => ?_) (fun h1504 g4 => ?_)
   ·cases g4
   ·refine zk g4 (fun v1505 h1506 g5 => ?_)
    refine zl g5 (fun h1507 g6 => ?_) (fun h1507 g6 => ?_)
    ·exact zqo [(75, 7, 3, .q (xi (p0.Counts.1.length : Int))), (75, 7, 4, .q (xb true)), (75, 9, 3, .q (xi (r0.1.length : Int))), (75, 9, 5, .q (xi (r0.1.length : Int))), (75, 9, 6, .q (.d (dl eI r0.1 (ccap r0.2)))), (75, 9, 9, .q (.d (dl eI (r0.1 ++ [s14_8]) .ro))), (75, 9, 12, .q (xi (zL 1 s14_8))), (75, 9, 15, .i (.tup [(dl eI v1505.1.1 v1505.1.2), (db v1505.2)]) ⟨[], [[(1, (.cells ((zb p0).map .d))), (5, (.cells [(.fn 75 [] [(.ptr 0 1 0), (.ptr 0 5 0)])]))], f1, f2, f3, f4, f5]⟩ []), (75, 10, 0, .q (xb true))] [] g6 (ob (zx zi p0.Counts.1) (ob (o_b h1501) (ob (zx eI r0.1) (ob (zx eI r0.1) (ob (zBf (e := eI) (z := 1) r0.1 r0.2) (ob (o_ad (P := TE.P) (φ := fun _ _ => none) (T := 42) (q := (1, [(di 0)])) (c := (ccap r0.2)) (e := eI) r0.1 s14_8 (by kernel_rfl) (fun _ => rfl) h1502 h1503) (ob (zYb (x := 1) h1504) (ob (hrc ([] : Fr) ((r0.1 ++ [s14_8]), .ro) (or64 r1 (zL 1 s14_8)) r2 _ h1506) (ob (o_b h1507) ob0))))))))) (by kernel_rfl)
    ·exact zqn (w64 (s14_8 + 1)) [] [(75, 7, 3, .q (xi (p0.Counts.1.length : Int))), (75, 7, 4, .q (xb true)), (75, 9, 3, .q (xi (r0.1.length : Int))), (75, 9, 5, .q (xi (r0.1.length : Int))), (75, 9, 6, .q (.d (dl eI r0.1 (ccap r0.2)))), (75, 9, 9, .q (.d (dl eI (r0.1 ++ [s14_8]) .ro))), (75, 9, 12, .q (xi (zL 1 s14_8))), (75, 9, 15, .i (.tup [(dl eI v1505.1.1 v1505.1.2), (db v1505.2)]) ⟨[], [[(1, (.cells ((zb p0).map .d))), (5, (.cells [(.fn 75 [] [(.ptr 0 1 0), (.ptr 0 5 0)])]))], f1, f2, f3, f4, f5]⟩ []), (75, 10, 0, .q (xb false))] [] g6 (ob (zx zi p0.Counts.1) (ob (o_b h1501) (ob (zx eI r0.1) (ob (zx eI r0.1) (ob (zBf (e := eI) (z := 1) r0.1 r0.2) (ob (o_ad (P := TE.P) (φ := fun _ _ => none) (T := 42) (q := (1, [(di 0)])) (c := (ccap r0.2)) (e := eI) r0.1 s14_8 (by kernel_rfl) (fun _ => rfl) h1502 h1503) (ob (zYb (x := 1) h1504) (ob (hrc ([] : Fr) ((r0.1 ++ [s14_8]), .ro) (or64 r1 (zL 1 s14_8)) r2 _ h1506) (ob (o_b h1507) ob0))))))))) (by kernel_rfl)
 ·exact zqo [(75, 7, 3, .q (xi (p0.Counts.1.length : Int))), (75, 7, 4, .q (xb false))] [] g1 (ob (zx zi p0.Counts.1) (ob (o_b h1501) ob0)) (by kernel_rfl)
theorem zhr (k : Nat) (p0 : za) (rc : zt3) (f1 f2 f3 f4 f5 : Fr) (hrc : ∀ (f : Fr) (r0 : (SL Int)) (r1 : Int) (r2 : Int) (r : ((SL Int) × Bool)), rc r0 r1 r2 = some r → zcb TE (ev TE) 75 [(.d (dl eI r0.1 r0.2)), (xi r1), (xi r2), (.ptr 0 1 0), (.ptr 0 5 0)] ⟨f, [[(1, (.cells ((zb p0).map .d))), (5, (.cells [(.fn 75 [] [(.ptr 0 1 0), (.ptr 0 5 0)])]))], f1, f2, f3, f4, f5]⟩ [] = some (zC r, ⟨f, [[(1, (.cells ((zb p0).map .d))), (5, (.cells [(.fn 75 [] [(.ptr 0 1 0), (.ptr 0 5 0)])]))], f1, f2, f3, f4, f5]⟩, [])) (r0 : (SL Int)) (r1 r2 : Int) (r : zt14) (h : z6g k p0 rc r0 r1 r2 = some r) : zcb TE (ev TE) 75 [(.d (dl eI r0.1 r0.2)), (xi r1), (xi r2), (.ptr 0 1 0), (.ptr 0 5 0)] ⟨f5, [[(zc 1 (zb p0)), (5, (.cells [(.fn 75 [] [(.ptr 0 1 0), (.ptr 0 5 0)])]))], f1, f2, f3, f4]⟩ [] = some (zC r, ⟨f5, [[(zc 1 (zb p0)), (5, (.cells [(.fn 75 [] [(.ptr 0 1 0), (.ptr 0 5 0)])]))], f1, f2, f3, f4]⟩, []) := by
 unfold z6g at h
 refine zl h (fun h1301 g1 => ?_) (fun h1301 g1 => ?_)
 ·refine zk g1 (fun v1302 h1303 g2 => ?_)
  exact zHb (g := (fun r => (zC r, ⟨f5, [[(1, (.cells ((zb p0).map .d))), (5, (.cells [(.fn 75 [] [(.ptr 0 1 0), (.ptr 0 5 0)])]))], f1, f2, f3, f4]⟩, []))) g2 (zlb (n := 80) (V := [(75, 1, 1, .q (xi (r0.1.length : Int))), (75, 1, 3, .q (xb true)), (75, 2, 3, .c (db v1302))]) (C := []) (ob (zx eI r0.1) (ob (o_b h1301) (ob (zUb k p0 r1 _ h1303) ob0))) (by kernel_rfl))
 ·refine zk g1 (fun v1302 h1303 g2 => ?_)
  refine zk g2 (fun v1304 h1305 g3 => ?_)
  refine zwd g3 (fun v1307 hh g4_0 => ?_) (fun v1307 hh g4_0 => ?_)
  ·subst hh
   exact zHb (g := (fun r => (zC r, ⟨f5, [[(1, (.cells ((zb p0).map .d))), (5, (.cells [(.fn 75 [] [(.ptr 0 1 0), (.ptr 0 5 0)])]))], f1, f2, f3, f4]⟩, []))) g4_0 (zlb (n := 80) (V := [(75, 1, 1, .q (xi (r0.1.length : Int))), (75, 1, 3, .q (xb false)), (75, 4, 1, .q (xi (r0.1.length : Int)))]) (C := [(75, 2000024, (.nor, zwf p0 r0 r1 r2 (decide ((r0.1.length : Int) > 0)) rc f1 f2 f3 f4 f5 v1302)), (75, 0, (.ret, zCi p0 r0 r1 r2 v1302 rc f1 f2 f3 f4 f5 v1307))]) (ob (zx eI r0.1) (ob (o_b h1301) (ob (zx eI r0.1) (ob (zvl k p0 r0 r1 r2 (decide ((r0.1.length : Int) > 0)) rc f1 f2 f3 f4 f5 hrc _ h1303) (ob (zG (id := 0) (r' := (.ret, zCi p0 r0 r1 r2 v1302 rc f1 f2 f3 f4 f5 v1307)) (zEc (zRl k p0 r0 r1 r2 v1302 rc f1 f2 f3 f4 f5 hrc) k _ _ h1305) rfl) ob0))))) (by kernel_rfl))
  ·subst hh
   exact zHb (g := (fun r => (zC r, ⟨f5, [[(1, (.cells ((zb p0).map .d))), (5, (.cells [(.fn 75 [] [(.ptr 0 1 0), (.ptr 0 5 0)])]))], f1, f2, f3, f4]⟩, []))) g4_0 (zlb (n := 80) (V := [(75, 1, 1, .q (xi (r0.1.length : Int))), (75, 1, 3, .q (xb false)), (75, 4, 1, .q (xi (r0.1.length : Int)))]) (C := [(75, 2000024, (.nor, zwf p0 r0 r1 r2 (decide ((r0.1.length : Int) > 0)) rc f1 f2 f3 f4 f5 v1302)), (75, 0, (.nor, zLi p0 r0 r1 r2 v1302 rc f1 f2 f3 f4 f5 v1307))]) (ob (zx eI r0.1) (ob (o_b h1301) (ob (zx eI r0.1) (ob (zvl k p0 r0 r1 r2 (decide ((r0.1.length : Int) > 0)) rc f1 f2 f3 f4 f5 hrc _ h1303) (ob (zG (id := 0) (r' := (.nor, zLi p0 r0 r1 r2 v1302 rc f1 f2 f3 f4 f5 v1307)) (zEc (zRl k p0 r0 r1 r2 v1302 rc f1 f2 f3 f4 f5 hrc) k _ _ h1305) rfl) ob0))))) (by kernel_rfl))
noncomputable def ztf (p0 : za) (r0 : (SL Int)) (r1 r2 : Int) (cb : Bool) (rc : zt3) (f1 f2 f3 f4 f5 f6 : Fr) (r : zt4) : St := ⟨(zHq r0 r1 r2 r), ⟨[], [[(zc 1 (zb p0)), (5, (.cells [(.fn 75 [] [(.ptr 0 1 0), (.ptr 0 5 0)])]))], f1, f2, f3, f4, f5, f6]⟩, []⟩
theorem zol (k : Nat) (p0 : za) (r0 : (SL Int)) (r1 r2 : Int) (cb : Bool) (rc : zt3) (f1 f2 f3 f4 f5 f6 : Fr) (hrc : ∀ (f : Fr) (r0 : (SL Int)) (r1 : Int) (r2 : Int) (r : ((SL Int) × Bool)), rc r0 r1 r2 = some r → zcb TE (ev TE) 75 [(.d (dl eI r0.1 r0.2)), (xi r1), (xi r2), (.ptr 0 1 0), (.ptr 0 5 0)] ⟨f, [[(1, (.cells ((zb p0).map .d))), (5, (.cells [(.fn 75 [] [(.ptr 0 1 0), (.ptr 0 5 0)])]))], f1, f2, f3, f4, f5, f6]⟩ [] = some (zC r, ⟨f, [[(1, (.cells ((zb p0).map .d))), (5, (.cells [(.fn 75 [] [(.ptr 0 1 0), (.ptr 0 5 0)])]))], f1, f2, f3, f4, f5, f6]⟩, [])) (r : zt4) (h : z7j k p0 r0 r1 r2 cb rc = some r) : ev TE 75 (cnd TE 75 24) ⟨(zqq r0 r1 r2 cb), ⟨[], [[(zc 1 (zb p0)), (5, (.cells [(.fn 75 [] [(.ptr 0 1 0), (.ptr 0 5 0)])]))], f1, f2, f3, f4, f5, f6]⟩, []⟩ = some (.nor, ztf p0 r0 r1 r2 cb rc f1 f2 f3 f4 f5 f6 r) := by
 unfold z7j at h
 refine zl h (fun h1601 g1 => ?_) (fun h1601 g1 => ?_)
 ·subst h1601
  refine zk g1 (fun v1602 h1603 g2 => ?_)
  exact zB (g := fun r => (Ex.nor, ztf p0 r0 r1 r2 true rc f1 f2 f3 f4 f5 f6 r)) g2 (zqe [(75, 5, 2, .q (xi (r0.1.length : Int))), (75, 5, 4, .q (.d (.pin [(di v1602)])))] [] (ob (zx eI r0.1) (ob (o_ia (e := eI) 1 h1603 rfl) ob0)) (by kernel_rfl))
 ·subst h1601
  exact zB (g := fun r => (Ex.nor, ztf p0 r0 r1 r2 false rc f1 f2 f3 f4 f5 f6 r)) g1 (zqe [] [] ob0 (by kernel_rfl))
noncomputable def zpE (r0 : (SL Int)) (r1 r2 : Int) (v1502 : zt4) (s16_8 : Int) : TM := [(0, (.d (dl eI r0.1 r0.2))), (1, (xi r1)), (2, (xi r2)), (3, (.ptr 0 1 0)), (4, (.ptr 0 5 0)), (8, (.d (.sl [] .nil))), (9, (xb false)), (17, (xb false)), (10, (xi v1502.1)), (24, (xb v1502.2)), (11, (xi s16_8))]
noncomputable def zQr (p0 : za) (r0 : (SL Int)) (r1 r2 : Int) (v1502 : zt4) (rc : zt3) (f1 f2 f3 f4 f5 f6 : Fr) (s16_8 : Int) : St := ⟨(zpE r0 r1 r2 v1502 s16_8), ⟨[], [[(zc 1 (zb p0)), (5, (.cells [(.fn 75 [] [(.ptr 0 1 0), (.ptr 0 5 0)])]))], f1, f2, f3, f4, f5, f6]⟩, []⟩
noncomputable def zJE (r0 : (SL Int)) (r1 r2 : Int) (r : zt18) (v1502 : zt4) : TM := [(0, (.d (dl eI r0.1 r0.2))), (1, (xi r1)), (2, (xi r2)), (3, (.ptr 0 1 0)), (4, (.ptr 0 5 0)), (8, (.d (dl eI r.1.1 r.1.2))), (9, (xb true)), (17, (xb false)), (10, (xi v1502.1)), (24, (xb v1502.2)), (11, (xi r.2.1)), (37, (xb true)), (12, (.d (dl eI r.1.1 r.1.2))), (13, (xb r.2.2)), (59, (xb true))]
noncomputable def zEi (p0 : za) (r0 : (SL Int)) (r1 r2 : Int) (v1502 : zt4) (rc : zt3) (f1 f2 f3 f4 f5 f6 : Fr) (r : zt18) : St := ⟨(zJE r0 r1 r2 r v1502), ⟨[], [[(zc 1 (zb p0)), (5, (.cells [(.fn 75 [] [(.ptr 0 1 0), (.ptr 0 5 0)])]))], f1, f2, f3, f4, f5, f6]⟩, []⟩
noncomputable def zUE (r0 : (SL Int)) (r1 r2 : Int) (v1502 : zt4) (r : Int) : TM := [(0, (.d (dl eI r0.1 r0.2))), (1, (xi r1)), (2, (xi r2)), (3, (.ptr 0 1 0)), (4, (.ptr 0 5 0)), (8, (.d (.sl [] .nil))), (9, (xb false)), (17, (xb false)), (10, (xi v1502.1)), (24, (xb v1502.2)), (11, (xi r)), (37, (xb false))]
noncomputable def zUi (p0 : za) (r0 : (SL Int)) (r1 r2 : Int) (v1502 : zt4) (rc : zt3) (f1 f2 f3 f4 f5 f6 : Fr) (r : Int) : St := ⟨(zUE r0 r1 r2 v1502 r), ⟨[], [[(zc 1 (zb p0)), (5, (.cells [(.fn 75 [] [(.ptr 0 1 0), (.ptr 0 5 0)])]))], f1, f2, f3, f4, f5, f6]⟩, []⟩
noncomputable def zRr (p0 : za) (r0 : (SL Int)) (r1 r2 : Int) (v1502 : zt4) (rc : zt3) (f1 f2 f3 f4 f5 f6 : Fr) : (((SL Int) × Int × Bool) ⊕ Int) → Ex × St := Sum.elim (fun r => (.ret, zEi p0 r0 r1 r2 v1502 rc f1 f2 f3 f4 f5 f6 r)) (fun r => ((.exit 0), zUi p0 r0 r1 r2 v1502 rc f1 f2 f3 f4 f5 f6 r))
theorem zhl (k : Nat) (p0 : za) (r0 : (SL Int)) (r1 r2 : Int) (v1502 : zt4) (rc : zt3) (f1 f2 f3 f4 f5 f6 : Fr) (hrc : ∀ (f : Fr) (r0 : (SL Int)) (r1 : Int) (r2 : Int) (r : ((SL Int) × Bool)), rc r0 r1 r2 = some r → zcb TE (ev TE) 75 [(.d (dl eI r0.1 r0.2)), (xi r1), (xi r2), (.ptr 0 1 0), (.ptr 0 5 0)] ⟨f, [[(1, (.cells ((zb p0).map .d))), (5, (.cells [(.fn 75 [] [(.ptr 0 1 0), (.ptr 0 5 0)])]))], f1, f2, f3, f4, f5, f6]⟩ [] = some (zC r, ⟨f, [[(1, (.cells ((zb p0).map .d))), (5, (.cells [(.fn 75 [] [(.ptr 0 1 0), (.ptr 0 5 0)])]))], f1, f2, f3, f4, f5, f6]⟩, [])) (s16_8 : Int) (x : Int ⊕ (((SL Int) × Int × Bool) ⊕ Int)) (h : zAk k p0 r0 r1 r2 v1502 rc s16_8 = some x) : zO TE 75 (blk TE 75 0) (fun s : Int => zQr p0 r0 r1 r2 v1502 rc f1 f2 f3 f4 f5 f6 s) (zRr p0 r0 r1 r2 v1502 rc f1 f2 f3 f4 f5 f6) s16_8 x := by
 unfold zAk at h
 refine zl h (fun h1701 g1 => ?_) (fun h1701 g1 => ?_)
 ·refine zl g1 (fun h1702 g2 => ?_) (fun h1702 g2 => ?_)
  ·cases g2
  ·refine zT g2 (fun h1703 g3 => ?_)
   refine zl g3 (fun h1704 g4 => ?_) (fun h1704 g4 => ?_)
   ·cases g4
   ·refine zk g4 (fun v1705 h1706 g5 => ?_)
    refine zl g5 (fun h1707 g6 => ?_) (fun h1707 g6 => ?_)
    ·exact zqo [(75, 7, 3, .q (xi (p0.Counts.1.length : Int))), (75, 7, 4, .q (xb true)), (75, 9, 3, .q (xi (r0.1.length : Int))), (75, 9, 5, .q (xi (r0.1.length : Int))), (75, 9, 6, .q (.d (dl eI r0.1 (ccap r0.2)))), (75, 9, 9, .q (.d (dl eI (r0.1 ++ [s16_8]) .ro))), (75, 9, 12, .q (xi (zL 1 s16_8))), (75, 9, 15, .i (.tup [(dl eI v1705.1.1 v1705.1.2), (db v1705.2)]) ⟨[], [[(1, (.cells ((zb p0).map .d))), (5, (.cells [(.fn 75 [] [(.ptr 0 1 0), (.ptr 0 5 0)])]))], f1, f2, f3, f4, f5, f6]⟩ []), (75, 10, 0, .q (xb true))] [] g6 (ob (zx zi p0.Counts.1) (ob (o_b h1701) (ob (zx eI r0.1) (ob (zx eI r0.1) (ob (zBf (e := eI) (z := 1) r0.1 r0.2) (ob (o_ad (P := TE.P) (φ := fun _ _ => none) (T := 42) (q := (1, [(di 0)])) (c := (ccap r0.2)) (e := eI) r0.1 s16_8 (by kernel_rfl) (fun _ => rfl) h1702 h1703) (ob (zYb (x := 1) h1704) (ob (hrc ([] : Fr) ((r0.1 ++ [s16_8]), .ro) (or64 r1 (zL 1 s16_8)) r2 _ h1706) (ob (o_b h1707) ob0))))))))) (by kernel_rfl)
    ·exact zqn (w64 (s16_8 + 1)) [] [(75, 7, 3, .q (xi (p0.Counts.1.length : Int))), (75, 7, 4, .q (xb true)), (75, 9, 3, .q (xi (r0.1.length : Int))), (75, 9, 5, .q (xi (r0.1.length : Int))), (75, 9, 6, .q (.d (dl eI r0.1 (ccap r0.2)))), (75, 9, 9, .q (.d (dl eI (r0.1 ++ [s16_8]) .ro))), (75, 9, 12, .q (xi (zL 1 s16_8))), (75, 9, 15, .i (.tup [(dl eI v1705.1.1 v1705.1.2), (db v1705.2)]) ⟨[], [[(1, (.cells ((zb p0).map .d))), (5, (.cells [(.fn 75 [] [(.ptr 0 1 0), (.ptr 0 5 0)])]))], f1, f2, f3, f4, f5, f6]⟩ []), (75, 10, 0, .q (xb false))] [] g6 (ob (zx zi p0.Counts.1) (ob (o_b h1701) (ob (zx eI r0.1) (ob (zx eI r0.1) (ob (zBf (e := eI) (z := 1) r0.1 r0.2) (ob (o_ad (P := TE.P) (φ := fun _ _ => none) (T := 42) (q := (1, [(di 0)])) (c := (ccap r0.2)) (e := eI) r0.1 s16_8 (by kernel_rfl) (fun _ => rfl) h1702 h1703) (ob (zYb (x := 1) h1704) (ob (hrc ([] : Fr) ((r0.1 ++ [s16_8]), .ro) (or64 r1 (zL 1 s16_8)) r2 _ h1706) (ob (o_b h1707) ob0))))))))) (by kernel_rfl)
 ·exact zqo [(75, 7, 3, .q (xi (p0.Counts.1.length : Int))), (75, 7, 4, .q (xb false))] [] g1 (ob (zx zi p0.Counts.1) (ob (o_b h1701) ob0)) (by kernel_rfl)
theorem zbr (k : Nat) (p0 : za) (rc : zt3) (f1 f2 f3 f4 f5 f6 : Fr) (hrc : ∀ (f : Fr) (r0 : (SL Int)) (r1 : Int) (r2 : Int) (r : ((SL Int) × Bool)), rc r0 r1 r2 = some r → zcb TE (ev TE) 75 [(.d (dl eI r0.1 r0.2)), (xi r1), (xi r2), (.ptr 0 1 0), (.ptr 0 5 0)] ⟨f, [[(1, (.cells ((zb p0).map .d))), (5, (.cells [(.fn 75 [] [(.ptr 0 1 0), (.ptr 0 5 0)])]))], f1, f2, f3, f4, f5, f6]⟩ [] = some (zC r, ⟨f, [[(1, (.cells ((zb p0).map .d))), (5, (.cells [(.fn 75 [] [(.ptr 0 1 0), (.ptr 0 5 0)])]))], f1, f2, f3, f4, f5, f6]⟩, [])) (r0 : (SL Int)) (r1 r2 : Int) (r : zt14) (h : z4g k p0 rc r0 r1 r2 = some r) : zcb TE (ev TE) 75 [(.d (dl eI r0.1 r0.2)), (xi r1), (xi r2), (.ptr 0 1 0), (.ptr 0 5 0)] ⟨f6, [[(zc 1 (zb p0)), (5, (.cells [(.fn 75 [] [(.ptr 0 1 0), (.ptr 0 5 0)])]))], f1, f2, f3, f4, f5]⟩ [] = some (zC r, ⟨f6, [[(zc 1 (zb p0)), (5, (.cells [(.fn 75 [] [(.ptr 0 1 0), (.ptr 0 5 0)])]))], f1, f2, f3, f4, f5]⟩, []) := by
 unfold z4g at h
 refine zl h (fun h1501 g1 => ?_) (fun h1501 g1 => ?_)
 ·refine zk g1 (fun v1502 h1503 g2 => ?_)
  exact zHb (g := (fun r => (zC r, ⟨f6, [[(1, (.cells ((zb p0).map .d))), (5, (.cells [(.fn 75 [] [(.ptr 0 1 0), (.ptr 0 5 0)])]))], f1, f2, f3, f4, f5]⟩, []))) g2 (zlb (n := 80) (V := [(75, 1, 1, .q (xi (r0.1.length : Int))), (75, 1, 3, .q (xb true)), (75, 2, 3, .c (db v1502))]) (C := []) (ob (zx eI r0.1) (ob (o_b h1501) (ob (zUb k p0 r1 _ h1503) ob0))) (by kernel_rfl))
 ·refine zk g1 (fun v1502 h1503 g2 => ?_)
  refine zk g2 (fun v1504 h1505 g3 => ?_)
  refine zwd g3 (fun v1507 hh g4_0 => ?_) (fun v1507 hh g4_0 => ?_)
  ·subst hh
   exact zHb (g := (fun r => (zC r, ⟨f6, [[(1, (.cells ((zb p0).map .d))), (5, (.cells [(.fn 75 [] [(.ptr 0 1 0), (.ptr 0 5 0)])]))], f1, f2, f3, f4, f5]⟩, []))) g4_0 (zlb (n := 80) (V := [(75, 1, 1, .q (xi (r0.1.length : Int))), (75, 1, 3, .q (xb false)), (75, 4, 1, .q (xi (r0.1.length : Int)))]) (C := [(75, 2000024, (.nor, ztf p0 r0 r1 r2 (decide ((r0.1.length : Int) > 0)) rc f1 f2 f3 f4 f5 f6 v1502)), (75, 0, (.ret, zEi p0 r0 r1 r2 v1502 rc f1 f2 f3 f4 f5 f6 v1507))]) (ob (zx eI r0.1) (ob (o_b h1501) (ob (zx eI r0.1) (ob (zol k p0 r0 r1 r2 (decide ((r0.1.length : Int) > 0)) rc f1 f2 f3 f4 f5 f6 hrc _ h1503) (ob (zG (id := 0) (r' := (.ret, zEi p0 r0 r1 r2 v1502 rc f1 f2 f3 f4 f5 f6 v1507)) (zEc (zhl k p0 r0 r1 r2 v1502 rc f1 f2 f3 f4 f5 f6 hrc) k _ _ h1505) rfl) ob0))))) (by kernel_rfl))
  ·subst hh
   exact zHb (g := (fun r => (zC r, ⟨f6, [[(1, (.cells ((zb p0).map .d))), (5, (.cells [(.fn 75 [] [(.ptr 0 1 0), (.ptr 0 5 0)])]))], f1, f2, f3, f4, f5]⟩, []))) g4_0 (zlb (n := 80) (V := [(75, 1, 1, .q (xi (r0.1.length : Int))), (75, 1, 3, .q (xb false)), (75, 4, 1, .q (xi (r0.1.length : Int)))]) (C := [(75, 2000024, (.nor, ztf p0 r0 r1 r2 (decide ((r0.1.length : Int) > 0)) rc f1 f2 f3 f4 f5 f6 v1502)), (75, 0, (.nor, zUi p0 r0 r1 r2 v1502 rc f1 f2 f3 f4 f5 f6 v1507))]) (ob (zx eI r0.1) (ob (o_b h1501) (ob (zx eI r0.1) (ob (zol k p0 r0 r1 r2 (decide ((r0.1.length : Int) > 0)) rc f1 f2 f3 f4 f5 f6 hrc _ h1503) (ob (zG (id := 0) (r' := (.nor, zUi p0 r0 r1 r2 v1502 rc f1 f2 f3 f4 f5 f6 v1507)) (zEc (zhl k p0 r0 r1 r2 v1502 rc f1 f2 f3 f4 f5 f6 hrc) k _ _ h1505) rfl) ob0))))) (by kernel_rfl))
noncomputable def zrf (p0 : za) (r0 : (SL Int)) (r1 r2 : Int) (cb : Bool) (rc : zt3) (f1 f2 f3 f4 f5 f6 f7 : Fr) (r : zt4) : St := ⟨(zHq r0 r1 r2 r), ⟨[], [[(zc 1 (zb p0)), (5, (.cells [(.fn 75 [] [(.ptr 0 1 0), (.ptr 0 5 0)])]))], f1, f2, f3, f4, f5, f6, f7]⟩, []⟩
theorem zrl (k : Nat) (p0 : za) (r0 : (SL Int)) (r1 r2 : Int) (cb : Bool) (rc : zt3) (f1 f2 f3 f4 f5 f6 f7 : Fr) (hrc : ∀ (f : Fr) (r0 : (SL Int)) (r1 : Int) (r2 : Int) (r : ((SL Int) × Bool)), rc r0 r1 r2 = some r → zcb TE (ev TE) 75 [(.d (dl eI r0.1 r0.2)), (xi r1), (xi r2), (.ptr 0 1 0), (.ptr 0 5 0)] ⟨f, [[(1, (.cells ((zb p0).map .d))), (5, (.cells [(.fn 75 [] [(.ptr 0 1 0), (.ptr 0 5 0)])]))], f1, f2, f3, f4, f5, f6, f7]⟩ [] = some (zC r, ⟨f, [[(1, (.cells ((zb p0).map .d))), (5, (.cells [(.fn 75 [] [(.ptr 0 1 0), (.ptr 0 5 0)])]))], f1, f2, f3, f4, f5, f6, f7]⟩, [])) (r : zt4) (h : znk k p0 r0 r1 r2 cb rc = some r) : ev TE 75 (cnd TE 75 24) ⟨(zqq r0 r1 r2 cb), ⟨[], [[(zc 1 (zb p0)), (5, (.cells [(.fn 75 [] [(.ptr 0 1 0), (.ptr 0 5 0)])]))], f1, f2, f3, f4, f5, f6, f7]⟩, []⟩ = some (.nor, zrf p0 r0 r1 r2 cb rc f1 f2 f3 f4 f5 f6 f7 r) := by
 unfold znk at h
 refine zl h (fun h1801 g1 => ?_) (fun h1801 g1 => ?_)
 ·subst h1801
  refine zk g1 (fun v1802 h1803 g2 => ?_)
  exact zB (g := fun r => (Ex.nor, zrf p0 r0 r1 r2 true rc f1 f2 f3 f4 f5 f6 f7 r)) g2 (zqe [(75, 5, 2, .q (xi (r0.1.length : Int))), (75, 5, 4, .q (.d (.pin [(di v1802)])))] [] (ob (zx eI r0.1) (ob (o_ia (e := eI) 1 h1803 rfl) ob0)) (by kernel_rfl))
 ·subst h1801
  exact zB (g := fun r => (Ex.nor, zrf p0 r0 r1 r2 false rc f1 f2 f3 f4 f5 f6 f7 r)) g1 (zqe [] [] ob0 (by kernel_rfl))
noncomputable def znE (r0 : (SL Int)) (r1 r2 : Int) (v1702 : zt4) (s18_8 : Int) : TM := [(0, (.d (dl eI r0.1 r0.2))), (1, (xi r1)), (2, (xi r2)), (3, (.ptr 0 1 0)), (4, (.ptr 0 5 0)), (8, (.d (.sl [] .nil))), (9, (xb false)), (17, (xb false)), (10, (xi v1702.1)), (24, (xb v1702.2)), (11, (xi s18_8))]
noncomputable def zNr (p0 : za) (r0 : (SL Int)) (r1 r2 : Int) (v1702 : zt4) (rc : zt3) (f1 f2 f3 f4 f5 f6 f7 : Fr) (s18_8 : Int) : St := ⟨(znE r0 r1 r2 v1702 s18_8), ⟨[], [[(zc 1 (zb p0)), (5, (.cells [(.fn 75 [] [(.ptr 0 1 0), (.ptr 0 5 0)])]))], f1, f2, f3, f4, f5, f6, f7]⟩, []⟩
noncomputable def z7E (r0 : (SL Int)) (r1 r2 : Int) (r : zt18) (v1702 : zt4) : TM := [(0, (.d (dl eI r0.1 r0.2))), (1, (xi r1)), (2, (xi r2)), (3, (.ptr 0 1 0)), (4, (.ptr 0 5 0)), (8, (.d (dl eI r.1.1 r.1.2))), (9, (xb true)), (17, (xb false)), (10, (xi v1702.1)), (24, (xb v1702.2)), (11, (xi r.2.1)), (37, (xb true)), (12, (.d (dl eI r.1.1 r.1.2))), (13, (xb r.2.2)), (59, (xb true))]
noncomputable def zPi (p0 : za) (r0 : (SL Int)) (r1 r2 : Int) (v1702 : zt4) (rc : zt3) (f1 f2 f3 f4 f5 f6 f7 : Fr) (r : zt18) : St := ⟨(z7E r0 r1 r2 r v1702), ⟨[], [[(zc 1 (zb p0)), (5, (.cells [(.fn 75 [] [(.ptr 0 1 0), (.ptr 0 5 0)])]))], f1, f2, f3, f4, f5, f6, f7]⟩, []⟩
noncomputable def z0E (r0 : (SL Int)) (r1 r2 : Int) (v1702 : zt4) (r : Int) : TM := [(0, (.d (dl eI r0.1 r0.2))), (1, (xi r1)), (2, (xi r2)), (3, (.ptr 0 1 0)), (4, (.ptr 0 5 0)), (8, (.d (.sl [] .nil))), (9, (xb false)), (17, (xb false)), (10, (xi v1702.1)), (24, (xb v1702.2)), (11, (xi r)), (37, (xb false))]
noncomputable def zBi (p0 : za) (r0 : (SL Int)) (r1 r2 : Int) (v1702 : zt4) (rc : zt3) (f1 f2 f3 f4 f5 f6 f7 : Fr) (r : Int) : St := ⟨(z0E r0 r1 r2 v1702 r), ⟨[], [[(zc 1 (zb p0)), (5, (.cells [(.fn 75 [] [(.ptr 0 1 0), (.ptr 0 5 0)])]))], f1, f2, f3, f4, f5, f6, f7]⟩, []⟩
noncomputable def zOr (p0 : za) (r0 : (SL Int)) (r1 r2 : Int) (v1702 : zt4) (rc : zt3) (f1 f2 f3 f4 f5 f6 f7 : Fr) : (((SL Int) × Int × Bool) ⊕ Int) → Ex × St := Sum.elim (fun r => (.ret, zPi p0 r0 r1 r2 v1702 rc f1 f2 f3 f4 f5 f6 f7 r)) (fun r => ((.exit 0), zBi p0 r0 r1 r2 v1702 rc f1 f2 f3 f4 f5 f6 f7 r))
theorem zOl (k : Nat) (p0 : za) (r0 : (SL Int)) (r1 r2 : Int) (v1702 : zt4) (rc : zt3) (f1 f2 f3 f4 f5 f6 f7 : Fr) (hrc : ∀ (f : Fr) (r0 : (SL Int)) (r1 : Int) (r2 : Int) (r : ((SL Int) × Bool)), rc r0 r1 r2 = some r → zcb TE (ev TE) 75 [(.d (dl eI r0.1 r0.2)), (xi r1), (xi r2), (.ptr 0 1 0), (.ptr 0 5 0)] ⟨f, [[(1, (.cells ((zb p0).map .d))), (5, (.cells [(.fn 75 [] [(.ptr 0 1 0), (.ptr 0 5 0)])]))], f1, f2, f3, f4, f5, f6, f7]⟩ [] = some (zC r, ⟨f, [[(1, (.cells ((zb p0).map .d))), (5, (.cells [(.fn 75 [] [(.ptr 0 1 0), (.ptr 0 5 0)])]))], f1, f2, f3, f4, f5, f6, f7]⟩, [])) (s18_8 : Int) (x : Int ⊕ (((SL Int) × Int × Bool) ⊕ Int)) (h : zwk k p0 r0 r1 r2 v1702 rc s18_8 = some x) : zO TE 75 (blk TE 75 0) (fun s : Int => zNr p0 r0 r1 r2 v1702 rc f1 f2 f3 f4 f5 f6 f7 s) (zOr p0 r0 r1 r2 v1702 rc f1 f2 f3 f4 f5 f6 f7) s18_8 x := by
 unfold zwk at h
 refine zl h (fun h1901 g1 => ?_) (fun h1901 g1 => ?_)
 ·refine zl g1 (fun h1902 g2 => ?_) (fun h1902 g2 => ?_)
  ·cases g2
  ·refine zT g2 (fun h1903 g3 => ?_)
   refine zl g3 (fun h1904 g4 => ?_) (fun h1904 g4 => ?_)
   ·cases g4
   ·refine zk g4 (fun v1905 h1906 g5 => ?_)
    refine zl g5 (fun h1907 g6 => ?_) (fun h1907 g6 => ?_)
    ·exact zqo [(75, 7, 3, .q (xi (p0.Counts.1.length : Int))), (75, 7, 4, .q (xb true)), (75, 9, 3, .q (xi (r0.1.length : Int))), (75, 9, 5, .q (xi (r0.1.length : Int))), (75, 9, 6, .q (.d (dl eI r0.1 (ccap r0.2)))), (75, 9, 9, .q (.d (dl eI (r0.1 ++ [s18_8]) .ro))), (75, 9, 12, .q (xi (zL 1 s18_8))), (75, 9, 15, .i (.tup [(dl eI v1905.1.1 v1905.1.2), (db v1905.2)]) ⟨[], [[(1, (.cells ((zb p0).map .d))), (5, (.cells [(.fn 75 [] [(.ptr 0 1 0), (.ptr 0 5 0)])]))], f1, f2, f3, f4, f5, f6, f7]⟩ []), (75, 10, 0, .q (xb true))] [] g6 (ob (zx zi p0.Counts.1) (ob (o_b h1901) (ob (zx eI r0.1) (ob (zx eI r0.1) (ob (zBf (e := eI) (z := 1) r0.1 r0.2) (ob (o_ad (P := TE.P) (φ := fun _ _ => none) (T := 42) (q := (1, [(di 0)])) (c := (ccap r0.2)) (e := eI) r0.1 s18_8 (by kernel_rfl) (fun _ => rfl) h1902 h1903) (ob (zYb (x := 1) h1904) (ob (hrc ([] : Fr) ((r0.1 ++ [s18_8]), .ro) (or64 r1 (zL 1 s18_8)) r2 _ h1906) (ob (o_b h1907) ob0))))))))) (by kernel_rfl)
    ·exact zqn (w64 (s18_8 + 1)) [] [(75, 7, 3, .q (xi (p0.Counts.1.length : Int))), (75, 7, 4, .q (xb true)), (75, 9, 3, .q (xi (r0.1.length : Int))), (75, 9, 5, .q (xi (r0.1.length : Int))), (75, 9, 6, .q (.d (dl eI r0.1 (ccap r0.2)))), (75, 9, 9, .q (.d (dl eI (r0.1 ++ [s18_8]) .ro))), (75, 9, 12, .q (xi (zL 1 s18_8))), (75, 9, 15, .i (.tup [(dl eI v1905.1.1 v1905.1.2), (db v1905.2)]) ⟨[], [[(1, (.cells ((zb p0).map .d))), (5, (.cells [(.fn 75 [] [(.ptr 0 1 0), (.ptr 0 5 0)])]))], f1, f2, f3, f4, f5, f6, f7]⟩ []), (75, 10, 0, .q (xb false))] [] g6 (ob (zx zi p0.Counts.1) (ob (o_b h1901) (ob (zx eI r0.1) (ob (zx eI r0.1) (ob (zBf (e := eI) (z := 1) r0.1 r0.2) (ob (o_ad (P := TE.P) (φ := fun _ _ => none) (T := 42) (q := (1, [(di 0)])) (c := (ccap r0.2)) (e := eI) r0.1 s18_8 (by kernel_rfl) (fun _ => rfl) h1902 h1903) (ob (zYb (x := 1) h1904) (ob (hrc ([] : Fr) ((r0.1 ++ [s18_8]), .ro) (or64 r1 (zL 1 s18_8)) r2 _ h1906) (ob (o_b h1907) ob0))))))))) (by kernel_rfl)
 ·exact zqo [(75, 7, 3, .q (xi (p0.Counts.1.length : Int))), (75, 7, 4, .q (xb false))] [] g1 (ob (zx zi p0.Counts.1) (ob (o_b h1901) ob0)) (by kernel_rfl)
theorem zTq (k : Nat) (p0 : za) (rc : zt3) (f1 f2 f3 f4 f5 f6 f7 : Fr) (hrc : ∀ (f : Fr) (r0 : (SL Int)) (r1 : Int) (r2 : Int) (r : ((SL Int) × Bool)), rc r0 r1 r2 = some r → zcb TE (ev TE) 75 [(.d (dl eI r0.1 r0.2)), (xi r1), (xi r2), (.ptr 0 1 0), (.ptr 0 5 0)] ⟨f, [[(1, (.cells ((zb p0).map .d))), (5, (.cells [(.fn 75 [] [(.ptr 0 1 0), (.ptr 0 5 0)])]))], f1, f2, f3, f4, f5, f6, f7]⟩ [] = some (zC r, ⟨f, [[(1, (.cells ((zb p0).map .d))), (5, (.cells [(.fn 75 [] [(.ptr 0 1 0), (.ptr 0 5 0)])]))], f1, f2, f3, f4, f5, f6, f7]⟩, [])) (r0 : (SL Int)) (r1 r2 : Int) (r : zt14) (h : z5g k p0 rc r0 r1 r2 = some r) : zcb TE (ev TE) 75 [(.d (dl eI r0.1 r0.2)), (xi r1), (xi r2), (.ptr 0 1 0), (.ptr 0 5 0)] ⟨f7, [[(zc 1 (zb p0)), (5, (.cells [(.fn 75 [] [(.ptr 0 1 0), (.ptr 0 5 0)])]))], f1, f2, f3, f4, f5, f6]⟩ [] = some (zC r, ⟨f7, [[(zc 1 (zb p0)), (5, (.cells [(.fn 75 [] [(.ptr 0 1 0), (.ptr 0 5 0)])]))], f1, f2, f3, f4, f5, f6]⟩, []) := by
 unfold z5g at h
 refine zl h (fun h1701 g1 => ?_) (fun h1701 g1 => ?_)
 ·refine zk g1 (fun v1702 h1703 g2 => ?_)
  exact zHb (g := (fun r => (zC r, ⟨f7, [[(1, (.cells ((zb p0).map .d))), (5, (.cells [(.fn 75 [] [(.ptr 0 1 0), (.ptr 0 5 0)])]))], f1, f2, f3, f4, f5, f6]⟩, []))) g2 (zlb (n := 80) (V := [(75, 1, 1, .q (xi (r0.1.length : Int))), (75, 1, 3, .q (xb true)), (75, 2, 3, .c (db v1702))]) (C := []) (ob (zx eI r0.1) (ob (o_b h1701) (ob (zUb k p0 r1 _ h1703) ob0))) (by kernel_rfl))
 ·refine zk g1 (fun v1702 h1703 g2 => ?_)
  refine zk g2 (fun v1704 h1705 g3 => ?_)
  refine zwd g3 (fun v1707 hh g4_0 => ?_) (fun v1707 hh g4_0 => ?_)
  ·subst hh
   exact zHb (g := (fun r => (zC r, ⟨f7, [[(1, (.cells ((zb p0).map .d))), (5, (.cells [(.fn 75 [] [(.ptr 0 1 0), (.ptr 0 5 0)])]))], f1, f2, f3, f4, f5, f6]⟩, []))) g4_0 (zlb (n := 80) (V := [(75, 1, 1, .q (xi (r0.1.length : Int))), (75, 1, 3, .q (xb false)), (75, 4, 1, .q (xi (r0.1.length : Int)))]) (C := [(75, 2000024, (.nor, zrf p0 r0 r1 r2 (decide ((r0.1.length : Int) > 0)) rc f1 f2 f3 f4 f5 f6 f7 v1702)), (75, 0, (.ret, zPi p0 r0 r1 r2 v1702 rc f1 f2 f3 f4 f5 f6 f7 v1707))]) (ob (zx eI r0.1) (ob (o_b h1701) (ob (zx eI r0.1) (ob (zrl k p0 r0 r1 r2 (decide ((r0.1.length : Int) > 0)) rc f1 f2 f3 f4 f5 f6 f7 hrc _ h1703) (ob (zG (id := 0) (r' := (.ret, zPi p0 r0 r1 r2 v1702 rc f1 f2 f3 f4 f5 f6 f7 v1707)) (zEc (zOl k p0 r0 r1 r2 v1702 rc f1 f2 f3 f4 f5 f6 f7 hrc) k _ _ h1705) rfl) ob0))))) (by kernel_rfl))
  ·subst hh
   exact zHb (g := (fun r => (zC r, ⟨f7, [[(1, (.cells ((zb p0).map .d))), (5, (.cells [(.fn 75 [] [(.ptr 0 1 0), (.ptr 0 5 0)])]))], f1, f2, f3, f4, f5, f6]⟩, []))) g4_0 (zlb (n := 80) (V := [(75, 1, 1, .q (xi (r0.1.length : Int))), (75, 1, 3, .q (xb false)), (75, 4, 1, .q (xi (r0.1.length : Int)))]) (C := [(75, 2000024, (.nor, zrf p0 r0 r1 r2 (decide ((r0.1.length : Int) > 0)) rc f1 f2 f3 f4 f5 f6 f7 v1702)), (75, 0, (.nor, zBi p0 r0 r1 r2 v1702 rc f1 f2 f3 f4 f5 f6 f7 v1707))]) (ob (zx eI r0.1) (ob (o_b h1701) (ob (zx eI r0.1) (ob (zrl k p0 r0 r1 r2 (decide ((r0.1.length : Int) > 0)) rc f1 f2 f3 f4 f5 f6 f7 hrc _ h1703) (ob (zG (id := 0) (r' := (.nor, zBi p0 r0 r1 r2 v1702 rc f1 f2 f3 f4 f5 f6 f7 v1707)) (zEc (zOl k p0 r0 r1 r2 v1702 rc f1 f2 f3 f4 f5 f6 f7 hrc) k _ _ h1705) rfl) ob0))))) (by kernel_rfl))
noncomputable def zuf (p0 : za) (r0 : (SL Int)) (r1 r2 : Int) (cb : Bool) (rc : zt3) (f1 f2 f3 f4 f5 f6 f7 f8 : Fr) (r : zt4) : St := ⟨(zHq r0 r1 r2 r), ⟨[], [[(zc 1 (zb p0)), (5, (.cells [(.fn 75 [] [(.ptr 0 1 0), (.ptr 0 5 0)])]))], f1, f2, f3, f4, f5, f6, f7, f8]⟩, []⟩
theorem zMl (k : Nat) (p0 : za) (r0 : (SL Int)) (r1 r2 : Int) (cb : Bool) (rc : zt3) (f1 f2 f3 f4 f5 f6 f7 f8 : Fr) (hrc : ∀ (f : Fr) (r0 : (SL Int)) (r1 : Int) (r2 : Int) (r : ((SL Int) × Bool)), rc r0 r1 r2 = some r → zcb TE (ev TE) 75 [(.d (dl eI r0.1 r0.2)), (xi r1), (xi r2), (.ptr 0 1 0), (.ptr 0 5 0)] ⟨f, [[(1, (.cells ((zb p0).map .d))), (5, (.cells [(.fn 75 [] [(.ptr 0 1 0), (.ptr 0 5 0)])]))], f1, f2, f3, f4, f5, f6, f7, f8]⟩ [] = some (zC r, ⟨f, [[(1, (.cells ((zb p0).map .d))), (5, (.cells [(.fn 75 [] [(.ptr 0 1 0), (.ptr 0 5 0)])]))], f1, f2, f3, f4, f5, f6, f7, f8]⟩, [])) (r : zt4) (h : zkk k p0 r0 r1 r2 cb rc = some r) : ev TE 75 (cnd TE 75 24) ⟨(zqq r0 r1 r2 cb), ⟨[], [[(zc 1 (zb p0)), (5, (.cells [(.fn 75 [] [(.ptr 0 1 0), (.ptr 0 5 0)])]))], f1, f2, f3, f4, f5, f6, f7, f8]⟩, []⟩ = some (.nor, zuf p0 r0 r1 r2 cb rc f1 f2 f3 f4 f5 f6 f7 f8 r) := by
 unfold zkk at h
 refine zl h (fun h2001 g1 => ?_) (fun h2001 g1 => ?_)
 ·subst h2001
  refine zk g1 (fun v2002 h2003 g2 => ?_)
  exact zB (g := fun r => (Ex.nor, zuf p0 r0 r1 r2 true rc f1 f2 f3 f4 f5 f6 f7 f8 r)) g2 (zqe [(75, 5, 2, .q (xi (r0.1.length : Int))), (75, 5, 4, .q (.d (.pin [(di v2002)])))] [] (ob (zx eI r0.1) (ob (o_ia (e := eI) 1 h2003 rfl) ob0)) (by kernel_rfl))
 ·subst h2001
  exact zB (g := fun r => (Ex.nor, zuf p0 r0 r1 r2 false rc f1 f2 f3 f4 f5 f6 f7 f8 r)) g1 (zqe [] [] ob0 (by kernel_rfl))
noncomputable def zeE (r0 : (SL Int)) (r1 r2 : Int) (v1902 : zt4) (s20_8 : Int) : TM := [(0, (.d (dl eI r0.1 r0.2))), (1, (xi r1)), (2, (xi r2)), (3, (.ptr 0 1 0)), (4, (.ptr 0 5 0)), (8, (.d (.sl [] .nil))), (9, (xb false)), (17, (xb false)), (10, (xi v1902.1)), (24, (xb v1902.2)), (11, (xi s20_8))]
noncomputable def zLr (p0 : za) (r0 : (SL Int)) (r1 r2 : Int) (v1902 : zt4) (rc : zt3) (f1 f2 f3 f4 f5 f6 f7 f8 : Fr) (s20_8 : Int) : St := ⟨(zeE r0 r1 r2 v1902 s20_8), ⟨[], [[(zc 1 (zb p0)), (5, (.cells [(.fn 75 [] [(.ptr 0 1 0), (.ptr 0 5 0)])]))], f1, f2, f3, f4, f5, f6, f7, f8]⟩, []⟩
noncomputable def zNE (r0 : (SL Int)) (r1 r2 : Int) (r : zt18) (v1902 : zt4) : TM := [(0, (.d (dl eI r0.1 r0.2))), (1, (xi r1)), (2, (xi r2)), (3, (.ptr 0 1 0)), (4, (.ptr 0 5 0)), (8, (.d (dl eI r.1.1 r.1.2))), (9, (xb true)), (17, (xb false)), (10, (xi v1902.1)), (24, (xb v1902.2)), (11, (xi r.2.1)), (37, (xb true)), (12, (.d (dl eI r.1.1 r.1.2))), (13, (xb r.2.2)), (59, (xb true))]
noncomputable def zNi (p0 : za) (r0 : (SL Int)) (r1 r2 : Int) (v1902 : zt4) (rc : zt3) (f1 f2 f3 f4 f5 f6 f7 f8 : Fr) (r : zt18) : St := ⟨(zNE r0 r1 r2 r v1902), ⟨[], [[(zc 1 (zb p0)), (5, (.cells [(.fn 75 [] [(.ptr 0 1 0), (.ptr 0 5 0)])]))], f1, f2, f3, f4, f5, f6, f7, f8]⟩, []⟩
noncomputable def zYE (r0 : (SL Int)) (r1 r2 : Int) (v1902 : zt4) (r : Int) : TM := [(0, (.d (dl eI r0.1 r0.2))), (1, (xi r1)), (2, (xi r2)), (3, (.ptr 0 1 0)), (4, (.ptr 0 5 0)), (8, (.d (.sl [] .nil))), (9, (xb false)), (17, (xb false)), (10, (xi v1902.1)), (24, (xb v1902.2)), (11, (xi r)), (37, (xb false))]
noncomputable def zTi (p0 : za) (r0 : (SL Int)) (r1 r2 : Int) (v1902 : zt4) (rc : zt3) (f1 f2 f3 f4 f5 f6 f7 f8 : Fr) (r : Int) : St := ⟨(zYE r0 r1 r2 v1902 r), ⟨[], [[(zc 1 (zb p0)), (5, (.cells [(.fn 75 [] [(.ptr 0 1 0), (.ptr 0 5 0)])]))], f1, f2, f3, f4, f5, f6, f7, f8]⟩, []⟩
noncomputable def zXr (p0 : za) (r0 : (SL Int)) (r1 r2 : Int) (v1902 : zt4) (rc : zt3) (f1 f2 f3 f4 f5 f6 f7 f8 : Fr) : (((SL Int) × Int × Bool) ⊕ Int) → Ex × St := Sum.elim (fun r => (.ret, zNi p0 r0 r1 r2 v1902 rc f1 f2 f3 f4 f5 f6 f7 f8 r)) (fun r => ((.exit 0), zTi p0 r0 r1 r2 v1902 rc f1 f2 f3 f4 f5 f6 f7 f8 r))
theorem zjl (k : Nat) (p0 : za) (r0 : (SL Int)) (r1 r2 : Int) (v1902 : zt4) (rc : zt3) (f1 f2 f3 f4 f5 f6 f7 f8 : Fr) (hrc : ∀ (f : Fr) (r0 : (SL Int)) (r1 : Int) (r2 : Int) (r : ((SL Int) × Bool)), rc r0 r1 r2 = some r → zcb TE (ev TE) 75 [(.d (dl eI r0.1 r0.2)), (xi r1), (xi r2), (.ptr 0 1 0), (.ptr 0 5 0)] ⟨f, [[(1, (.cells ((zb p0).map .d))), (5, (.cells [(.fn 75 [] [(.ptr 0 1 0), (.ptr 0 5 0)])]))], f1, f2, f3, f4, f5, f6, f7, f8]⟩ [] = some (zC r, ⟨f, [[(1, (.cells ((zb p0).map .d))), (5, (.cells [(.fn 75 [] [(.ptr 0 1 0), (.ptr 0 5 0)])]))], f1, f2, f3, f4, f5, f6, f7, f8]⟩, [])) (s20_8 : Int) (x : Int ⊕ (((SL Int) × Int × Bool) ⊕ Int)) (h : zmk k p0 r0 r1 r2 v1902 rc s20_8 = some x) : zO TE 75 (blk TE 75 0) (fun s : Int => zLr p0 r0 r1 r2 v1902 rc f1 f2 f3 f4 f5 f6 f7 f8 s) (zXr p0 r0 r1 r2 v1902 rc f1 f2 f3 f4 f5 f6 f7 f8) s20_8 x := by
 unfold zmk at h
 refine zl h (fun h2101 g1 => ?_) (fun h2101 g1 => ?_)
 ·refine zl g1 (fun h2102 g2 => ?_) (fun h2102 g2 => ?_)
  ·cases g2
  ·refine zT g2 (fun h2103 g3 => ?_)
   refine zl g3 (fun h2104 g4 => ?_) (fun h2104 g4 => ?_)
   ·cases g4
   ·refine zk g4 (fun v2105 h2106 g5 => ?_)
    refine zl g5 (fun h2107 g6 => ?_) (fun h2107 g6 => ?_)
    ·exact zqo [(75, 7, 3, .q (xi (p0.Counts.1.length : Int))), (75, 7, 4, .q (xb true)), (75, 9, 3, .q (xi (r0.1.length : Int))), (75, 9, 5, .q (xi (r0.1.length : Int))), (75, 9, 6, .q (.d (dl eI r0.1 (ccap r0.2)))), (75, 9, 9, .q (.d (dl eI (r0.1 ++ [s20_8]) .ro))), (75, 9, 12, .q (xi (zL 1 s20_8))), (75, 9, 15, .i (.tup [(dl eI v2105.1.1 v2105.1.2), (db v2105.2)]) ⟨[], [[(1, (.cells ((zb p0).map .d))), (5, (.cells [(.fn 75 [] [(.ptr 0 1 0), (.ptr 0 5 0)])]))], f1, f2, f3, f4, f5, f6, f7, f8]⟩ []), (75, 10, 0, .q (xb true))] [] g6 (ob (zx zi p0.Counts.1) (ob (o_b h2101) (ob (zx eI r0.1) (ob (zx eI r0.1) (ob (zBf (e := eI) (z := 1) r0.1 r0.2) (ob (o_ad (P := TE.P) (φ := fun _ _ => none) (T := 42) (q := (1, [(di 0)])) (c := (ccap r0.2)) (e := eI) r0.1 s20_8 (by kernel_rfl) (fun _ => rfl) h2102 h2103) (ob (zYb (x := 1) h2104) (ob (hrc ([] : Fr) ((r0.1 ++ [s20_8]), .ro) (or64 r1 (zL 1 s20_8)) r2 _ h2106) (ob (o_b h2107) ob0))))))))) (by kernel_rfl)
    ·exact zqn (w64 (s20_8 + 1)) [] [(75, 7, 3, .q (xi (p0.Counts.1.length : Int))), (75, 7, 4, .q (xb true)), (75, 9, 3, .q (xi (r0.1.length : Int))), (75, 9, 5, .q (xi (r0.1.length : Int))), (75, 9, 6, .q (.d (dl eI r0.1 (ccap r0.2)))), (75, 9, 9, .q (.d (dl eI (r0.1 ++ [s20_8]) .ro))), (75, 9, 12, .q (xi (zL 1 s20_8))), (75, 9, 15, .i (.tup [(dl eI v2105.1.1 v2105.1.2), (db v2105.2)]) ⟨[], [[(1, (.cells ((zb p0).map .d))), (5, (.cells [(.fn 75 [] [(.ptr 0 1 0), (.ptr 0 5 0)])]))], f1, f2, f3, f4, f5, f6, f7, f8]⟩ []), (75, 10, 0, .q (xb false))] [] g6 (ob (zx zi p0.Counts.1) (ob (o_b h2101) (ob (zx eI r0.1) (ob (zx eI r0.1) (ob (zBf (e := eI) (z := 1) r0.1 r0.2) (ob (o_ad (P := TE.P) (φ := fun _ _ => none) (T := 42) (q := (1, [(di 0)])) (c := (ccap r0.2)) (e := eI) r0.1 s20_8 (by kernel_rfl) (fun _ => rfl) h2102 h2103) (ob (zYb (x := 1) h2104) (ob (hrc ([] : Fr) ((r0.1 ++ [s20_8]), .ro) (or64 r1 (zL 1 s20_8)) r2 _ h2106) (ob (o_b h2107) ob0))))))))) (by kernel_rfl)
 ·exact zqo [(75, 7, 3, .q (xi (p0.Counts.1.length : Int))), (75, 7, 4, .q (xb false))] [] g1 (ob (zx zi p0.Counts.1) (ob (o_b h2101) ob0)) (by kernel_rfl)
theorem zpr (k : Nat) (p0 : za) (rc : zt3) (f1 f2 f3 f4 f5 f6 f7 f8 : Fr) (hrc : ∀ (f : Fr) (r0 : (SL Int)) (r1 : Int) (r2 : Int) (r : ((SL Int) × Bool)), rc r0 r1 r2 = some r → zcb TE (ev TE) 75 [(.d (dl eI r0.1 r0.2)), (xi r1), (xi r2), (.ptr 0 1 0), (.ptr 0 5 0)] ⟨f, [[(1, (.cells ((zb p0).map .d))), (5, (.cells [(.fn 75 [] [(.ptr 0 1 0), (.ptr 0 5 0)])]))], f1, f2, f3, f4, f5, f6, f7, f8]⟩ [] = some (zC r, ⟨f, [[(1, (.cells ((zb p0).map .d))), (5, (.cells [(.fn 75 [] [(.ptr 0 1 0), (.ptr 0 5 0)])]))], f1, f2, f3, f4, f5, f6, f7, f8]⟩, [])) (r0 : (SL Int)) (r1 r2 : Int) (r : zt14) (h : z0g k p0 rc r0 r1 r2 = some r) : zcb TE (ev TE) 75 [(.d (dl eI r0.1 r0.2)), (xi r1), (xi r2), (.ptr 0 1 0), (.ptr 0 5 0)] ⟨f8, [[(zc 1 (zb p0)), (5, (.cells [(.fn 75 [] [(.ptr 0 1 0), (.ptr 0 5 0)])]))], f1, f2, f3, f4, f5, f6, f7]⟩ [] = some (zC r, ⟨f8, [[(zc 1 (zb p0)), (5, (.cells [(.fn 75 [] [(.ptr 0 1 0), (.ptr 0 5 0)])]))], f1, f2, f3, f4, f5, f6, f7]⟩, []) := by
 unfold z0g at h
 refine zl h (fun h1901 g1 => ?_) (fun h1901 g1 => ?_)
 ·refine zk g1 (fun v1902 h1903 g2 => ?_)
  exact zHb (g := (fun r => (zC r, ⟨f8, [[(1, (.cells ((zb p0).map .d))), (5, (.cells [(.fn 75 [] [(.ptr 0 1 0), (.ptr 0 5 0)])]))], f1, f2, f3, f4, f5, f6, f7]⟩, []))) g2 (zlb (n := 80) (V := [(75, 1, 1, .q (xi (r0.1.length : Int))), (75, 1, 3, .q (xb true)), (75, 2, 3, .c (db v1902))]) (C := []) (ob (zx eI r0.1) (ob (o_b h1901) (ob (zUb k p0 r1 _ h1903) ob0))) (by kernel_rfl))
 ·refine zk g1 (fun v1902 h1903 g2 => ?_)
  refine zk g2 (fun v1904 h1905 g3 => ?_)
  refine zwd g3 (fun v1907 hh g4_0 => ?_) (fun v1907 hh g4_0 => ?_)
  ·subst hh
   exact zHb (g := (fun r => (zC r, ⟨f8, [[(1, (.cells ((zb p0).map .d))), (5, (.cells [(.fn 75 [] [(.ptr 0 1 0), (.ptr 0 5 0)])]))], f1, f2, f3, f4, f5, f6, f7]⟩, []))) g4_0 (zlb (n := 80) (V := [(75, 1, 1, .q (xi (r0.1.length : Int))), (75, 1, 3, .q (xb false)), (75, 4, 1, .q (xi (r0.1.length : Int)))]) (C := [(75, 2000024, (.nor, zuf p0 r0 r1 r2 (decide ((r0.1.length : Int) > 0)) rc f1 f2 f3 f4 f5 f6 f7 f8 v1902)), (75, 0, (.ret, zNi p0 r0 r1 r2 v1902 rc f1 f2 f3 f4 f5 f6 f7 f8 v1907))]) (ob (zx eI r0.1) (ob (o_b h1901) (ob (zx eI r0.1) (ob (zMl k p0 r0 r1 r2 (decide ((r0.1.length : Int) > 0)) rc f1 f2 f3 f4 f5 f6 f7 f8 hrc _ h1903) (ob (zG (id := 0) (r' := (.ret, zNi p0 r0 r1 r2 v1902 rc f1 f2 f3 f4 f5 f6 f7 f8 v1907)) (zEc (zjl k p0 r0 r1 r2 v1902 rc f1 f2 f3 f4 f5 f6 f7 f8 hrc) k _ _ h1905) rfl) ob0))))) (by kernel_rfl))
  ·subst hh
   exact zHb (g := (fun r => (zC r, ⟨f8, [[(1, (.cells ((zb p0).map .d))), (5, (.cells [(.fn 75 [] [(.ptr 0 1 0), (.ptr 0 5 0)])]))], f1, f2, f3, f4, f5, f6, f7]⟩, []))) g4_0 (zlb (n := 80) (V := [(75, 1, 1, .q (xi (r0.1.length : Int))), (75, 1, 3, .q (xb false)), (75, 4, 1, .q (xi (r0.1.length : Int)))]) (C := [(75, 2000024, (.nor, zuf p0 r0 r1 r2 (decide ((r0.1.length : Int) > 0)) rc f1 f2 f3 f4 f5 f6 f7 f8 v1902)), (75, 0, (.nor, zTi p0 r0 r1 r2 v1902 rc f1 f2 f3 f4 f5 f6 f7 f8 v1907))]) (ob (zx eI r0.1) (ob (o_b h1901) (ob (zx eI r0.1) (ob (zMl k p0 r0 r1 r2 (decide ((r0.1.length : Int) > 0)) rc f1 f2 f3 f4 f5 f6 f7 f8 hrc _ h1903) (ob (zG (id := 0) (r' := (.nor, zTi p0 r0 r1 r2 v1902 rc f1 f2 f3 f4 f5 f6 f7 f8 v1907)) (zEc (zjl k p0 r0 r1 r2 v1902 rc f1 f2 f3 f4 f5 f6 f7 f8 hrc) k _ _ h1905) rfl) ob0))))) (by kernel_rfl))
theorem zum (k : Nat) (p0 : za) (r0 : (SL Int)) (r1 r2 : Int) (r : zt14) (h : zbh k p0 9 r0 r1 r2 = some r) : zcb TE (ev TE) 75 [(.d (dl eI r0.1 r0.2)), (xi r1), (xi r2), (.ptr 0 1 0), (.ptr 0 5 0)] ⟨[(zc 1 (zb p0)), (5, (.cells [(.fn 75 [] [(.ptr 0 1 0), (.ptr 0 5 0)])]))], []⟩ [] = some (zC r, ⟨[(zc 1 (zb p0)), (5, (.cells [(.fn 75 [] [(.ptr 0 1 0), (.ptr 0 5 0)])]))], []⟩, []) := by
 unfold zbh at h
 exact z1q k p0 _ (fun f1 r0 r1 r2 r h => zar k p0 _ f1 (fun f2 r0 r1 r2 r h => zkr k p0 _ f1 f2 (fun f3 r0 r1 r2 r h => znr k p0 _ f1 f2 f3 (fun f4 r0 r1 r2 r h => zcr k p0 _ f1 f2 f3 f4 (fun f5 r0 r1 r2 r h => zhr k p0 _ f1 f2 f3 f4 f5 (fun f6 r0 r1 r2 r h => zbr k p0 _ f1 f2 f3 f4 f5 f6 (fun f7 r0 r1 r2 r h => zTq k p0 _ f1 f2 f3 f4 f5 f6 f7 (fun f8 r0 r1 r2 r h => zpr k p0 _ f1 f2 f3 f4 f5 f6 f7 f8 (fun f r0 r1 r2 r h => by cases h) r0 r1 r2 r h) r0 r1 r2 r h) r0 r1 r2 r h) r0 r1 r2 r h) r0 r1 r2 r h) r0 r1 r2 r h) r0 r1 r2 r h) r0 r1 r2 r h) r0 r1 r2 r h
noncomputable def zvE (p0 : za) (v1 s1_10 : Int) : TM := [(0, (.d (.agg (zb p0)))), (zsp 1), (2, (.d (.sl [] .nil))), (3, (xi 0)), (4, (xi v1)), (12, (xb false)), (zsp 5), (18, (xi (w64 ((p0.Counts.1.length : Int) + 1)))), (19, (xi s1_10))]
noncomputable def zWs (p0 : za) (v1 s1_10 : Int) : St := ⟨(zvE p0 v1 s1_10), ⟨[(zc 1 (zb p0)), (5, (.cells [(.fn 75 [] [(.ptr 0 1 0), (.ptr 0 5 0)])]))], []⟩, []⟩
noncomputable def zKE (p0 : za) (r : ((SL Int) × Int × (SL Int) × Bool)) (v1 : Int) : TM := [(0, (.d (.agg (zb p0)))), (zsp 1), (2, (.d (dl eI r.1.1 r.1.2))), (3, (xi 0)), (4, (xi v1)), (12, (xb false)), (zsp 5), (18, (xi (w64 ((p0.Counts.1.length : Int) + 1)))), (19, (xi r.2.1)), (20, (xb true)), (6, (xi r.2.1)), (7, (.d (dl eI r.2.2.1.1 r.2.2.1.2))), (8, (xb r.2.2.2)), (28, (xb true))]
noncomputable def zgj (p0 : za) (v1 : Int) (r : ((SL Int) × Int × (SL Int) × Bool)) : St := ⟨(zKE p0 r v1), ⟨[(zc 1 (zb p0)), (5, (.cells [(.fn 75 [] [(.ptr 0 1 0), (.ptr 0 5 0)])]))], []⟩, []⟩
noncomputable def z9E (p0 : za) (v1 r : Int) : TM := [(0, (.d (.agg (zb p0)))), (zsp 1), (2, (.d (.sl [] .nil))), (3, (xi 0)), (4, (xi v1)), (12, (xb false)), (zsp 5), (18, (xi (w64 ((p0.Counts.1.length : Int) + 1)))), (19, (xi r)), (20, (xb false))]
noncomputable def zbj (p0 : za) (v1 r : Int) : St := ⟨(z9E p0 v1 r), ⟨[(zc 1 (zb p0)), (5, (.cells [(.fn 75 [] [(.ptr 0 1 0), (.ptr 0 5 0)])]))], []⟩, []⟩
noncomputable def zhs (p0 : za) (v1 : Int) : (((SL Int) × Int × (SL Int) × Bool) ⊕ Int) → Ex × St := Sum.elim (fun r => (.ret, zgj p0 v1 r)) (fun r => ((.exit 0), zbj p0 v1 r))
theorem znm (k : Nat) (p0 : za) (v1 s1_10 : Int) (x : Int ⊕ (((SL Int) × Int × (SL Int) × Bool) ⊕ Int)) (h : zhh k p0 v1 s1_10 = some x) : zO TE 33 (blk TE 33 0) (fun s : Int => zWs p0 v1 s) (zhs p0 v1) s1_10 x := by
 unfold zhh at h
 refine zl h (fun h2101 g1 => ?_) (fun h2101 g1 => ?_)
 ·refine zk g1 (fun v2102 h2103 g2 => ?_)
  refine zl g2 (fun h2104 g3 => ?_) (fun h2104 g3 => ?_)
  ·exact zqo [(33, 7, 0, .q (xb true)), (33, 9, 2, .i (.tup [(dl eI v2102.1.1 v2102.1.2), (db v2102.2)]) ⟨[(1, (.cells ((zb p0).map .d))), (5, (.cells [(.fn 75 [] [(.ptr 0 1 0), (.ptr 0 5 0)])]))], []⟩ []), (33, 10, 0, .q (xb true)), (33, 11, 2, .q (xi (v2102.1.1.length : Int))), (33, 11, 4, .q (xi (v2102.1.1.length : Int))), (33, 11, 5, .q (.d (dl eI v2102.1.1 (ccap v2102.1.2))))] [] g3 (ob (o_b h2101) (ob (zum k p0 ([], .nil) 0 s1_10 _ h2103) (ob (o_b h2104) (ob (zx eI v2102.1.1) (ob (zx eI v2102.1.1) (ob (zBf (e := eI) (z := 1) v2102.1.1 v2102.1.2) ob0)))))) (by kernel_rfl)
  ·exact zqn (w64 (s1_10 + 1)) [] [(33, 7, 0, .q (xb true)), (33, 9, 2, .i (.tup [(dl eI v2102.1.1 v2102.1.2), (db v2102.2)]) ⟨[(1, (.cells ((zb p0).map .d))), (5, (.cells [(.fn 75 [] [(.ptr 0 1 0), (.ptr 0 5 0)])]))], []⟩ []), (33, 10, 0, .q (xb false))] [] g3 (ob (o_b h2101) (ob (zum k p0 ([], .nil) 0 s1_10 _ h2103) (ob (o_b h2104) ob0))) (by kernel_rfl)
 ·exact zqo [(33, 7, 0, .q (xb false))] [] g1 (ob (o_b h2101) ob0) (by kernel_rfl)
theorem zJb (k : Nat) (p0 : za) (r : zt9) (h : z7h k p0 = some r) : zM TE (ev TE) 33 [(.agg (zb p0))] = some (zvj r) := by
 unfold z7h at h
 refine zk h (fun v1 h2 g1 => ?_)
 refine zl g1 (fun h3 g2 => ?_) (fun h3 g2 => ?_)
 ·exact zK (g := zvj) g2 (zqc [(33, 1, 1, .c (di v1)), (33, 2, 1, .q (xb true))] [] (ob (zxe k p0 _ h2) (ob (o_b h3) ob0)) (by kernel_rfl))
 ·refine zk g2 (fun v4 h5 g3 => ?_)
  refine zwd g3 (fun v7 hh g4_0 => ?_) (fun v7 hh g4_0 => ?_)
  ·subst hh
   exact zK (g := zvj) g4_0 (zqc [(33, 1, 1, .c (di v1)), (33, 2, 1, .q (xb false)), (33, 6, 2, .q (xi (p0.Counts.1.length : Int)))] [(33, 0, (.ret, zgj p0 v1 v7))] (ob (zxe k p0 _ h2) (ob (o_b h3) (ob (zx zi p0.Counts.1) (ob (zG (id := 0) (r' := (.ret, zgj p0 v1 v7)) (zEc (znm k p0 v1) k _ _ h5) rfl) ob0)))) (by kernel_rfl))
  ·subst hh
   exact zK (g := zvj) g4_0 (zqc [(33, 1, 1, .c (di v1)), (33, 2, 1, .q (xb false)), (33, 6, 2, .q (xi (p0.Counts.1.length : Int)))] [(33, 0, (.nor, zbj p0 v1 v7))] (ob (zxe k p0 _ h2) (ob (o_b h3) (ob (zx zi p0.Counts.1) (ob (zG (id := 0) (r' := (.nor, zbj p0 v1 v7)) (zEc (znm k p0 v1) k _ _ h5) rfl) ob0)))) (by kernel_rfl))
theorem zN (k : Nat) (p0 p1 p2 : Int) (r : Bool) (h : zhb k p0 p1 p2 = some r) : zM TE (ev TE) 62 [(di p0), (di p1), (di p2)] = some (zfh r) := by
 unfold zhb at h
 refine zl h (fun h1 g1 => ?_) (fun h1 g1 => ?_)
 ·exact zK (g := zfh) g1 (zqc [(62, 1, 3, .q (xb true))] [] (ob (o_b h1) ob0) (by kernel_rfl))
 ·exact zK (g := zfh) g1 (zqc [(62, 1, 3, .q (xb false))] [] (ob (o_b h1) ob0) (by kernel_rfl))
theorem z8c (k : Nat) (p0 : zj) (p1 p2 : Int) (r : Bool) (h : zSb k p0 p1 p2 = some r) : zM TE (ev TE) 43 [(.agg [(di p0.Low), (di p0.High)]), (di p1), (di p2)] = some (zEe r) := by
 unfold zSb at h
 refine zl h (fun h1 g1 => ?_) (fun h1 g1 => ?_)
 ·refine zl g1 (fun h2 g2 => ?_) (fun h2 g2 => ?_)
  ·exact zK (g := zEe) g2 (zqc [(43, 1, 4, .q (xb true)), (43, 1, 11, .q (xb true))] [] (ob (o_b h1) (ob (o_b h2) ob0)) (by kernel_rfl))
  ·exact zK (g := zEe) g2 (zqc [(43, 1, 4, .q (xb true)), (43, 1, 11, .q (xb false))] [] (ob (o_b h1) (ob (o_b h2) ob0)) (by kernel_rfl))
 ·exact zK (g := zEe) g1 (zqc [(43, 1, 4, .q (xb false))] [] (ob (o_b h1) ob0) (by kernel_rfl))
theorem zub (k : Nat) (p0 : za) (p1 : Int) (r : Bool) (h : z6b k p0 p1 = some r) : zM TE (ev TE) 63 [(.agg (zb p0)), (di p1)] = some (z7i r) := by
 unfold z6b at h
 refine zk h (fun v1 h2 g1 => ?_)
 exact zK (g := z7i) g1 (zqc [(63, 1, 3, .q (xi (p0.Shelves.1.length : Int))), (63, 1, 5, .c (db v1))] [] (ob (zx zm p0.Shelves.1) (ob (zN k p1 0 (w64 ((p0.Shelves.1.length : Int) - 1)) _ h2) ob0)) (by kernel_rfl))
noncomputable def zew (p0 : za) (r : Bool) : TM := [(0, (.d (.agg (zb p0)))), (zsp 1), (2, (xi 0)), (3, (xb r))]
noncomputable def ztb (p0 : za) (r : Bool) : St := ⟨(zew p0 r), ⟨[(zc 1 (zb p0))], []⟩, []⟩
theorem zhi (k : Nat) (p0 : za) (r : Bool) (h : zsd k p0 = some r) : ev TE 19 (rgn TE 19 1) ⟨[(0, (.d (.agg (zb p0)))), (zsp 1), (2, (xi 0))], ⟨[(zc 1 (zb p0))], []⟩, []⟩ = some (.nor, ztb p0 r) := by
 unfold zsd at h
 refine zk h (fun v201 h202 g1 => ?_)
 refine zl g1 (fun h203 g2 => ?_) (fun h203 g2 => ?_)
 ·refine zk g2 (fun v204 h205 g3 => ?_)
  refine zl g3 (fun h206 g4 => ?_) (fun h206 g4 => ?_)
  ·refine zl g4 (fun h207 g5 => ?_) (fun h207 g5 => ?_)
   ·refine zl g5 (fun h208 g6 => ?_) (fun h208 g6 => ?_)
    ·exact zB (g := fun r => (Ex.nor, ztb p0 r)) g6 (zqe [(19, 1, 2, .c (db v201)), (19, 1, 3, .q (xb true)), (19, 1, 6, .q (xi (p0.Shelves.1.length : Int))), (19, 1, 7, .c (db v204)), (19, 1, 9, .q (xb true)), (19, 1, 12, .q (xi (p0.Moves.1.length : Int))), (19, 1, 15, .q (xb true)), (19, 1, 18, .q (xi (p0.Deliveries.1.length : Int))), (19, 1, 21, .q (xb true)), (19, 1, 24, .q (xi (p0.Counts.1.length : Int)))] [] (ob (zN k p0.Days 1 12 _ h202) (ob (o_b h203) (ob (zx zm p0.Shelves.1) (ob (zN k (p0.Shelves.1.length : Int) 1 4 _ h205) (ob (o_b h206) (ob (zx zo p0.Moves.1) (ob (o_b h207) (ob (zx zh p0.Deliveries.1) (ob (o_b h208) (ob (zx zi p0.Counts.1) ob0)))))))))) (by kernel_rfl))
    ·exact zB (g := fun r => (Ex.nor, ztb p0 r)) g6 (zqe [(19, 1, 2, .c (db v201)), (19, 1, 3, .q (xb true)), (19, 1, 6, .q (xi (p0.Shelves.1.length : Int))), (19, 1, 7, .c (db v204)), (19, 1, 9, .q (xb true)), (19, 1, 12, .q (xi (p0.Moves.1.length : Int))), (19, 1, 15, .q (xb true)), (19, 1, 18, .q (xi (p0.Deliveries.1.length : Int))), (19, 1, 21, .q (xb false))] [] (ob (zN k p0.Days 1 12 _ h202) (ob (o_b h203) (ob (zx zm p0.Shelves.1) (ob (zN k (p0.Shelves.1.length : Int) 1 4 _ h205) (ob (o_b h206) (ob (zx zo p0.Moves.1) (ob (o_b h207) (ob (zx zh p0.Deliveries.1) (ob (o_b h208) ob0))))))))) (by kernel_rfl))
   ·exact zB (g := fun r => (Ex.nor, ztb p0 r)) g5 (zqe [(19, 1, 2, .c (db v201)), (19, 1, 3, .q (xb true)), (19, 1, 6, .q (xi (p0.Shelves.1.length : Int))), (19, 1, 7, .c (db v204)), (19, 1, 9, .q (xb true)), (19, 1, 12, .q (xi (p0.Moves.1.length : Int))), (19, 1, 15, .q (xb false))] [] (ob (zN k p0.Days 1 12 _ h202) (ob (o_b h203) (ob (zx zm p0.Shelves.1) (ob (zN k (p0.Shelves.1.length : Int) 1 4 _ h205) (ob (o_b h206) (ob (zx zo p0.Moves.1) (ob (o_b h207) ob0))))))) (by kernel_rfl))
  ·exact zB (g := fun r => (Ex.nor, ztb p0 r)) g4 (zqe [(19, 1, 2, .c (db v201)), (19, 1, 3, .q (xb true)), (19, 1, 6, .q (xi (p0.Shelves.1.length : Int))), (19, 1, 7, .c (db v204)), (19, 1, 9, .q (xb false))] [] (ob (zN k p0.Days 1 12 _ h202) (ob (o_b h203) (ob (zx zm p0.Shelves.1) (ob (zN k (p0.Shelves.1.length : Int) 1 4 _ h205) (ob (o_b h206) ob0))))) (by kernel_rfl))
 ·exact zB (g := fun r => (Ex.nor, ztb p0 r)) g2 (zqe [(19, 1, 2, .c (db v201)), (19, 1, 3, .q (xb false))] [] (ob (zN k p0.Days 1 12 _ h202) (ob (o_b h203) ob0)) (by kernel_rfl))
noncomputable def zEE (p0 : za) (s2_6 : Bool) (s2_7 : Int) (r : Bool) : TM := [(0, (.d (.agg (zb p0)))), (zsp 1), (2, (xi 0)), (3, (xb s2_6)), (4, (xi s2_7)), (46, (xb r))]
noncomputable def zNc (p0 : za) (s2_6 : Bool) (s2_7 : Int) (r : Bool) : St := ⟨(zEE p0 s2_6 s2_7 r), ⟨[(zc 1 (zb p0))], []⟩, []⟩
noncomputable def znz (p0 : za) (s2_6 : Bool) (s2_7 : Int) : TM := [(0, (.d (.agg (zb p0)))), (zsp 1), (2, (xi 0)), (3, (xb s2_6)), (4, (xi s2_7))]
theorem zgi (k : Nat) (p0 : za) (s2_6 : Bool) (s2_7 : Int) (r : Bool) (h : zWb k p0 s2_6 s2_7 = some r) : ev TE 19 (rgn TE 19 3) ⟨(znz p0 s2_6 s2_7), ⟨[(zc 1 (zb p0))], []⟩, []⟩ = some (.nor, zNc p0 s2_6 s2_7 r) := by
 unfold zWb at h
 refine zl h (fun h601 g1 => ?_) (fun h601 g1 => ?_)
 ·exact zB (g := fun r => (Ex.nor, zNc p0 s2_6 s2_7 r)) g1 (zqe [(19, 3, 1, .q (xb true)), (19, 3, 5, .q (xi (p0.Shelves.1.length : Int)))] [] (ob (o_b h601) (ob (zx zm p0.Shelves.1) ob0)) (by kernel_rfl))
 ·exact zB (g := fun r => (Ex.nor, zNc p0 s2_6 s2_7 r)) g1 (zqe [(19, 3, 1, .q (xb false))] [] (ob (o_b h601) ob0) (by kernel_rfl))
noncomputable def z4d (p0 : za) (s2_6 : Bool) (s2_7 : Int) (v504 : zV) (r : Bool) : St := ⟨(zew p0 r ++ [(4, (xi s2_7)), (46, (xb true)), (zsp 5)]), ⟨[(zc 1 (zb p0)), (zc 5 (zm v504))], []⟩, []⟩
theorem zZm (k : Nat) (p0 : za) (s2_6 : Bool) (s2_7 : Int) (v504 : zV) (r : Bool) (h : zqd k p0 s2_6 s2_7 v504 = some r) : ev TE 19 (rgn TE 19 6) ⟨(znz p0 s2_6 s2_7 ++ [(46, (xb true)), (zsp 5)]), ⟨[(zc 1 (zb p0)), (zc 5 (zm v504))], []⟩, []⟩ = some (.nor, z4d p0 s2_6 s2_7 v504 r) := by
 unfold zqd at h
 refine zk h (fun v701 h702 g1 => ?_)
 refine zl g1 (fun h703 g2 => ?_) (fun h703 g2 => ?_)
 ·refine zk g2 (fun v704 h705 g3 => ?_)
  exact zB (g := fun r => (Ex.nor, z4d p0 s2_6 s2_7 v504 r)) g3 (zqe [(19, 6, 2, .c (db v701)), (19, 6, 3, .q (xb true)), (19, 6, 8, .c (db v704))] [] (ob (zN k v504.Room 1 60 _ h702) (ob (o_b h703) (ob (z8c k v504.Begin 0 v504.Room _ h705) ob0))) (by kernel_rfl))
 ·exact zB (g := fun r => (Ex.nor, z4d p0 s2_6 s2_7 v504 r)) g2 (zqe [(19, 6, 2, .c (db v701)), (19, 6, 3, .q (xb false))] [] (ob (zN k v504.Room 1 60 _ h702) (ob (o_b h703) ob0)) (by kernel_rfl))
noncomputable def zen (p0 : za) (s2_6 : Bool) (s2_7 : Int) : St := ⟨(znz p0 s2_6 s2_7), ⟨[(zc 1 (zb p0))], []⟩, []⟩
noncomputable def zUD (p0 : za) (r : zt1) : TM := [(0, (.d (.agg (zb p0)))), (zsp 1), (2, (xi 0)), (3, (xb r.1)), (4, (xi r.2)), (46, (xb false))]
noncomputable def zyc (p0 : za) (r : zt1) : St := ⟨(zUD p0 r), ⟨[(zc 1 (zb p0))], []⟩, []⟩
noncomputable def zQn (p0 : za) : (Bool × Int) → Ex × St := fun r => ((.exit 0), zyc p0 r)
theorem zsi (k : Nat) (p0 : za) (s2_6 : Bool) (s2_7 : Int) (x : (Bool × Int) ⊕ (Bool × Int)) (h : zEb k p0 s2_6 s2_7 = some x) : zO TE 19 (blk TE 19 0) (fun s : (Bool × Int) => zen p0 s.1 s.2) (zQn p0) (s2_6, s2_7) x := by
 unfold zEb at h
 refine zk h (fun v501 h502 g1 => ?_)
 refine zl g1 (fun h503 g2 => ?_) (fun h503 g2 => ?_)
 ·subst h503
  refine zk g2 (fun v504 h505 g3 => ?_)
  refine zk g3 (fun v506 h507 g4 => ?_)
  exact zqn (v506, (w64 (s2_7 + 1))) [] [(19, 5, 3, .q (.d (.pin (zm v504))))] [(19, 1000003, (.nor, zNc p0 s2_6 s2_7 true)), (19, 1000006, (.nor, z4d p0 s2_6 s2_7 v504 v506))] g4 (ob (zgi k p0 s2_6 s2_7 _ h502) (ob (o_ia (e := zm) 3 h505 rfl) (ob (zZm k p0 s2_6 s2_7 v504 _ h507) ob0))) (by kernel_rfl)
 ·subst h503
  exact zqo [] [(19, 1000003, (.nor, zNc p0 s2_6 s2_7 false))] g2 (ob (zgi k p0 s2_6 s2_7 _ h502) ob0) (by kernel_rfl)
noncomputable def zJC (p0 : za) (s7_6 : Bool) (v3 : zt1) (s7_9 : Int) (r : Bool) : TM := [(0, (.d (.agg (zb p0)))), (zsp 1), (2, (xi 0)), (3, (xb s7_6)), (4, (xi v3.2)), (46, (xb false)), (6, (xi s7_9)), (71, (xb r))]
noncomputable def zvc (p0 : za) (v3 : zt1) (s7_6 : Bool) (s7_9 : Int) (r : Bool) : St := ⟨(zJC p0 s7_6 v3 s7_9 r), ⟨[(zc 1 (zb p0))], []⟩, []⟩
noncomputable def z4w (p0 : za) (s7_6 : Bool) (v3 : zt1) (s7_9 : Int) : TM := [(0, (.d (.agg (zb p0)))), (zsp 1), (2, (xi 0)), (3, (xb s7_6)), (4, (xi v3.2)), (46, (xb false)), (6, (xi s7_9))]
theorem zYh (k : Nat) (p0 : za) (v3 : zt1) (s7_6 : Bool) (s7_9 : Int) (r : Bool) (h : zRb k p0 v3 s7_6 s7_9 = some r) : ev TE 19 (rgn TE 19 8) ⟨(z4w p0 s7_6 v3 s7_9), ⟨[(zc 1 (zb p0))], []⟩, []⟩ = some (.nor, zvc p0 v3 s7_6 s7_9 r) := by
 unfold zRb at h
 refine zl h (fun h1101 g1 => ?_) (fun h1101 g1 => ?_)
 ·exact zB (g := fun r => (Ex.nor, zvc p0 v3 s7_6 s7_9 r)) g1 (zqe [(19, 8, 1, .q (xb true)), (19, 8, 5, .q (xi (p0.Moves.1.length : Int)))] [] (ob (o_b h1101) (ob (zx zo p0.Moves.1) ob0)) (by kernel_rfl))
 ·exact zB (g := fun r => (Ex.nor, zvc p0 v3 s7_6 s7_9 r)) g1 (zqe [(19, 8, 1, .q (xb false))] [] (ob (o_b h1101) ob0) (by kernel_rfl))
noncomputable def zWB (p0 : za) (r : Bool) (v3 : zt1) (s7_9 : Int) : TM := zew p0 r ++ [(4, (xi v3.2)), (46, (xb false)), (6, (xi s7_9)), (71, (xb true)), (zsp 7)]
noncomputable def zxc (p0 : za) (v3 : zt1) (s7_6 : Bool) (s7_9 : Int) (v1004 : zH) (r : Bool) : St := ⟨(zWB p0 r v3 s7_9), ⟨[(zc 1 (zb p0)), (zc 7 (zo v1004))], []⟩, []⟩
theorem z3l (k : Nat) (p0 : za) (v3 : zt1) (s7_6 : Bool) (s7_9 : Int) (v1004 : zH) (r : Bool) (h : z4c k p0 v3 s7_6 s7_9 v1004 = some r) : ev TE 19 (rgn TE 19 11) ⟨(z4w p0 s7_6 v3 s7_9 ++ [(71, (xb true)), (zsp 7)]), ⟨[(zc 1 (zb p0)), (zc 7 (zo v1004))], []⟩, []⟩ = some (.nor, zxc p0 v3 s7_6 s7_9 v1004 r) := by
 unfold z4c at h
 refine zk h (fun v1201 h1202 g1 => ?_)
 refine zl g1 (fun h1203 g2 => ?_) (fun h1203 g2 => ?_)
 ·refine zk g2 (fun v1204 h1205 g3 => ?_)
  refine zl g3 (fun h1206 g4 => ?_) (fun h1206 g4 => ?_)
  ·refine zk g4 (fun v1207 h1208 g5 => ?_)
   exact zB (g := fun r => (Ex.nor, zxc p0 v3 s7_6 s7_9 v1004 r)) g5 (zqe [(19, 11, 5, .c (db v1201)), (19, 11, 6, .q (xb true)), (19, 11, 10, .c (db v1204)), (19, 11, 12, .q (xb true)), (19, 11, 15, .c (db v1207))] [] (ob (zN k v1004.Day 0 (w64 (p0.Days - 1)) _ h1202) (ob (o_b h1203) (ob (zub k p0 v1004.Shelf _ h1205) (ob (o_b h1206) (ob (z8c k v1004.By 0 60 _ h1208) ob0))))) (by kernel_rfl))
  ·exact zB (g := fun r => (Ex.nor, zxc p0 v3 s7_6 s7_9 v1004 r)) g4 (zqe [(19, 11, 5, .c (db v1201)), (19, 11, 6, .q (xb true)), (19, 11, 10, .c (db v1204)), (19, 11, 12, .q (xb false))] [] (ob (zN k v1004.Day 0 (w64 (p0.Days - 1)) _ h1202) (ob (o_b h1203) (ob (zub k p0 v1004.Shelf _ h1205) (ob (o_b h1206) ob0)))) (by kernel_rfl))
 ·exact zB (g := fun r => (Ex.nor, zxc p0 v3 s7_6 s7_9 v1004 r)) g2 (zqe [(19, 11, 5, .c (db v1201)), (19, 11, 6, .q (xb false))] [] (ob (zN k v1004.Day 0 (w64 (p0.Days - 1)) _ h1202) (ob (o_b h1203) ob0)) (by kernel_rfl))
noncomputable def zfn (p0 : za) (v3 : zt1) (s7_6 : Bool) (s7_9 : Int) : St := ⟨(z4w p0 s7_6 v3 s7_9), ⟨[(zc 1 (zb p0))], []⟩, []⟩
noncomputable def z8B (p0 : za) (r v3 : zt1) : TM := [(0, (.d (.agg (zb p0)))), (zsp 1), (2, (xi 0)), (3, (xb r.1)), (4, (xi v3.2)), (46, (xb false)), (6, (xi r.2)), (71, (xb false))]
noncomputable def zAc (p0 : za) (v3 r : zt1) : St := ⟨(z8B p0 r v3), ⟨[(zc 1 (zb p0))], []⟩, []⟩
noncomputable def zdn (p0 : za) (v3 : zt1) : (Bool × Int) → Ex × St := fun r => ((.exit 2), zAc p0 v3 r)
theorem zii (k : Nat) (p0 : za) (v3 : zt1) (s7_6 : Bool) (s7_9 : Int) (x : (Bool × Int) ⊕ (Bool × Int)) (h : zFb k p0 v3 s7_6 s7_9 = some x) : zO TE 19 (blk TE 19 2) (fun s : (Bool × Int) => zfn p0 v3 s.1 s.2) (zdn p0 v3) (s7_6, s7_9) x := by
 unfold zFb at h
 refine zk h (fun v1001 h1002 g1 => ?_)
 refine zl g1 (fun h1003 g2 => ?_) (fun h1003 g2 => ?_)
 ·subst h1003
  refine zk g2 (fun v1004 h1005 g3 => ?_)
  refine zk g3 (fun v1006 h1007 g4 => ?_)
  exact zqn (v1006, (w64 (s7_9 + 1))) [] [(19, 10, 3, .q (.d (.pin (zo v1004))))] [(19, 1000008, (.nor, zvc p0 v3 s7_6 s7_9 true)), (19, 1000011, (.nor, zxc p0 v3 s7_6 s7_9 v1004 v1006))] g4 (ob (zYh k p0 v3 s7_6 s7_9 _ h1002) (ob (o_ia (e := zo) 5 h1005 rfl) (ob (z3l k p0 v3 s7_6 s7_9 v1004 _ h1007) ob0))) (by kernel_rfl)
 ·subst h1003
  exact zqo [] [(19, 1000008, (.nor, zvc p0 v3 s7_6 s7_9 false))] g2 (ob (zYh k p0 v3 s7_6 s7_9 _ h1002) ob0) (by kernel_rfl)
noncomputable def zBB (p0 : za) (s12_6 : Bool) (v3 v5 : zt1) (s12_11 : Int) (r : Bool) : TM := [(0, (.d (.agg (zb p0)))), (zsp 1), (2, (xi 0)), (3, (xb s12_6)), (4, (xi v3.2)), (46, (xb false)), (6, (xi v5.2)), (71, (xb false)), (8, (xi s12_11)), (103, (xb r))]
noncomputable def zCc (p0 : za) (v3 v5 : zt1) (s12_6 : Bool) (s12_11 : Int) (r : Bool) : St := ⟨(zBB p0 s12_6 v3 v5 s12_11 r), ⟨[(zc 1 (zb p0))], []⟩, []⟩
noncomputable def zwx (p0 : za) (s12_6 : Bool) (v3 v5 : zt1) (s12_11 : Int) : TM := [(0, (.d (.agg (zb p0)))), (zsp 1), (2, (xi 0)), (3, (xb s12_6)), (4, (xi v3.2)), (46, (xb false)), (6, (xi v5.2)), (71, (xb false)), (8, (xi s12_11))]
theorem zUh (k : Nat) (p0 : za) (v3 v5 : zt1) (s12_6 : Bool) (s12_11 : Int) (r : Bool) (h : zQb k p0 v3 v5 s12_6 s12_11 = some r) : ev TE 19 (rgn TE 19 13) ⟨(zwx p0 s12_6 v3 v5 s12_11), ⟨[(zc 1 (zb p0))], []⟩, []⟩ = some (.nor, zCc p0 v3 v5 s12_6 s12_11 r) := by
 unfold zQb at h
 refine zl h (fun h1601 g1 => ?_) (fun h1601 g1 => ?_)
 ·exact zB (g := fun r => (Ex.nor, zCc p0 v3 v5 s12_6 s12_11 r)) g1 (zqe [(19, 13, 1, .q (xb true)), (19, 13, 5, .q (xi (p0.Deliveries.1.length : Int)))] [] (ob (o_b h1601) (ob (zx zh p0.Deliveries.1) ob0)) (by kernel_rfl))
 ·exact zB (g := fun r => (Ex.nor, zCc p0 v3 v5 s12_6 s12_11 r)) g1 (zqe [(19, 13, 1, .q (xb false))] [] (ob (o_b h1601) ob0) (by kernel_rfl))
noncomputable def zhC (p0 : za) (r : Bool) (v3 v5 : zt1) (s12_11 : Int) : TM := zew p0 r ++ [(4, (xi v3.2)), (46, (xb false)), (6, (xi v5.2)), (71, (xb false)), (8, (xi s12_11)), (103, (xb true)), (zsp 9)]
noncomputable def zBc (p0 : za) (v3 v5 : zt1) (s12_6 : Bool) (s12_11 : Int) (v1504 : zt) (r : Bool) : St := ⟨(zhC p0 r v3 v5 s12_11), ⟨[(zc 1 (zb p0)), (zc 9 (zh v1504))], []⟩, []⟩
theorem zam (k : Nat) (p0 : za) (v3 v5 : zt1) (s12_6 : Bool) (s12_11 : Int) (v1504 : zt) (r : Bool) (h : z5c k p0 v3 v5 s12_6 s12_11 v1504 = some r) : ev TE 19 (rgn TE 19 16) ⟨(zwx p0 s12_6 v3 v5 s12_11 ++ [(103, (xb true)), (zsp 9)]), ⟨[(zc 1 (zb p0)), (zc 9 (zh v1504))], []⟩, []⟩ = some (.nor, zBc p0 v3 v5 s12_6 s12_11 v1504 r) := by
 unfold z5c at h
 refine zk h (fun v1701 h1702 g1 => ?_)
 refine zl g1 (fun h1703 g2 => ?_) (fun h1703 g2 => ?_)
 ·refine zk g2 (fun v1704 h1705 g3 => ?_)
  refine zl g3 (fun h1706 g4 => ?_) (fun h1706 g4 => ?_)
  ·refine zk g4 (fun v1707 h1708 g5 => ?_)
   exact zB (g := fun r => (Ex.nor, zBc p0 v3 v5 s12_6 s12_11 v1504 r)) g5 (zqe [(19, 16, 3, .c (db v1701)), (19, 16, 4, .q (xb true)), (19, 16, 10, .c (db v1704)), (19, 16, 12, .q (xb true)), (19, 16, 15, .c (db v1707))] [] (ob (zub k p0 v1504.Shelf _ h1702) (ob (o_b h1703) (ob (z8c k v1504.Days 0 (w64 (p0.Days - 1)) _ h1705) (ob (o_b h1706) (ob (z8c k v1504.By 0 60 _ h1708) ob0))))) (by kernel_rfl))
  ·exact zB (g := fun r => (Ex.nor, zBc p0 v3 v5 s12_6 s12_11 v1504 r)) g4 (zqe [(19, 16, 3, .c (db v1701)), (19, 16, 4, .q (xb true)), (19, 16, 10, .c (db v1704)), (19, 16, 12, .q (xb false))] [] (ob (zub k p0 v1504.Shelf _ h1702) (ob (o_b h1703) (ob (z8c k v1504.Days 0 (w64 (p0.Days - 1)) _ h1705) (ob (o_b h1706) ob0)))) (by kernel_rfl))
 ·exact zB (g := fun r => (Ex.nor, zBc p0 v3 v5 s12_6 s12_11 v1504 r)) g2 (zqe [(19, 16, 3, .c (db v1701)), (19, 16, 4, .q (xb false))] [] (ob (zub k p0 v1504.Shelf _ h1702) (ob (o_b h1703) ob0)) (by kernel_rfl))
noncomputable def zOm (p0 : za) (v3 v5 : zt1) (s12_6 : Bool) (s12_11 : Int) : St := ⟨(zwx p0 s12_6 v3 v5 s12_11), ⟨[(zc 1 (zb p0))], []⟩, []⟩
noncomputable def zqD (p0 : za) (r v3 v5 : zt1) : TM := [(0, (.d (.agg (zb p0)))), (zsp 1), (2, (xi 0)), (3, (xb r.1)), (4, (xi v3.2)), (46, (xb false)), (6, (xi v5.2)), (71, (xb false)), (8, (xi r.2)), (103, (xb false))]
noncomputable def zkc (p0 : za) (v3 v5 r : zt1) : St := ⟨(zqD p0 r v3 v5), ⟨[(zc 1 (zb p0))], []⟩, []⟩
noncomputable def zLm (p0 : za) (v3 v5 : zt1) : (Bool × Int) → Ex × St := fun r => ((.exit 4), zkc p0 v3 v5 r)
theorem zVh (k : Nat) (p0 : za) (v3 v5 : zt1) (s12_6 : Bool) (s12_11 : Int) (x : (Bool × Int) ⊕ (Bool × Int)) (h : zwb k p0 v3 v5 s12_6 s12_11 = some x) : zO TE 19 (blk TE 19 4) (fun s : (Bool × Int) => zOm p0 v3 v5 s.1 s.2) (zLm p0 v3 v5) (s12_6, s12_11) x := by
 unfold zwb at h
 refine zk h (fun v1501 h1502 g1 => ?_)
 refine zl g1 (fun h1503 g2 => ?_) (fun h1503 g2 => ?_)
 ·subst h1503
  refine zk g2 (fun v1504 h1505 g3 => ?_)
  refine zk g3 (fun v1506 h1507 g4 => ?_)
  exact zqn (v1506, (w64 (s12_11 + 1))) [] [(19, 15, 3, .q (.d (.pin (zh v1504))))] [(19, 1000013, (.nor, zCc p0 v3 v5 s12_6 s12_11 true)), (19, 1000016, (.nor, zBc p0 v3 v5 s12_6 s12_11 v1504 v1506))] g4 (ob (zUh k p0 v3 v5 s12_6 s12_11 _ h1502) (ob (o_ia (e := zh) 5 h1505 rfl) (ob (zam k p0 v3 v5 s12_6 s12_11 v1504 _ h1507) ob0))) (by kernel_rfl)
 ·subst h1503
  exact zqo [] [(19, 1000013, (.nor, zCc p0 v3 v5 s12_6 s12_11 false))] g2 (ob (zUh k p0 v3 v5 s12_6 s12_11 _ h1502) ob0) (by kernel_rfl)
noncomputable def zkC (p0 : za) (s17_6 : Bool) (v3 v5 v7 : zt1) (s17_13 : Int) (r : Bool) : TM := [(0, (.d (.agg (zb p0)))), (zsp 1), (2, (xi 0)), (3, (xb s17_6)), (4, (xi v3.2)), (46, (xb false)), (6, (xi v5.2)), (71, (xb false)), (8, (xi v7.2)), (103, (xb false)), (10, (xi s17_13)), (135, (xb r))]
noncomputable def zwc (p0 : za) (v3 v5 v7 : zt1) (s17_6 : Bool) (s17_13 : Int) (r : Bool) : St := ⟨(zkC p0 s17_6 v3 v5 v7 s17_13 r), ⟨[(zc 1 (zb p0))], []⟩, []⟩
noncomputable def zux (p0 : za) (s17_6 : Bool) (v3 v5 v7 : zt1) (s17_13 : Int) : TM := [(0, (.d (.agg (zb p0)))), (zsp 1), (2, (xi 0)), (3, (xb s17_6)), (4, (xi v3.2)), (46, (xb false)), (6, (xi v5.2)), (71, (xb false)), (8, (xi v7.2)), (103, (xb false)), (10, (xi s17_13))]
theorem z3h (k : Nat) (p0 : za) (v3 v5 v7 : zt1) (s17_6 : Bool) (s17_13 : Int) (r : Bool) (h : zPb k p0 v3 v5 v7 s17_6 s17_13 = some r) : ev TE 19 (rgn TE 19 18) ⟨(zux p0 s17_6 v3 v5 v7 s17_13), ⟨[(zc 1 (zb p0))], []⟩, []⟩ = some (.nor, zwc p0 v3 v5 v7 s17_6 s17_13 r) := by
 unfold zPb at h
 refine zl h (fun h2101 g1 => ?_) (fun h2101 g1 => ?_)
 ·exact zB (g := fun r => (Ex.nor, zwc p0 v3 v5 v7 s17_6 s17_13 r)) g1 (zqe [(19, 18, 1, .q (xb true)), (19, 18, 5, .q (xi (p0.Counts.1.length : Int)))] [] (ob (o_b h2101) (ob (zx zi p0.Counts.1) ob0)) (by kernel_rfl))
 ·exact zB (g := fun r => (Ex.nor, zwc p0 v3 v5 v7 s17_6 s17_13 r)) g1 (zqe [(19, 18, 1, .q (xb false))] [] (ob (o_b h2101) ob0) (by kernel_rfl))
noncomputable def zUC (p0 : za) (r : Bool) (v3 v5 v7 : zt1) (s17_13 : Int) : TM := zew p0 r ++ [(4, (xi v3.2)), (46, (xb false)), (6, (xi v5.2)), (71, (xb false)), (8, (xi v7.2)), (103, (xb false)), (10, (xi s17_13)), (135, (xb true)), (zsp 11)]
noncomputable def zXb (p0 : za) (v3 v5 v7 : zt1) (s17_6 : Bool) (s17_13 : Int) (v2004 : zn) (r : Bool) : St := ⟨(zUC p0 r v3 v5 v7 s17_13), ⟨[(zc 1 (zb p0)), (zc 11 (zi v2004))], []⟩, []⟩
theorem zTl (k : Nat) (p0 : za) (v3 v5 v7 : zt1) (s17_6 : Bool) (s17_13 : Int) (v2004 : zn) (r : Bool) (h : z2c k p0 v3 v5 v7 s17_6 s17_13 v2004 = some r) : ev TE 19 (rgn TE 19 21) ⟨(zux p0 s17_6 v3 v5 v7 s17_13 ++ [(135, (xb true)), (zsp 11)]), ⟨[(zc 1 (zb p0)), (zc 11 (zi v2004))], []⟩, []⟩ = some (.nor, zXb p0 v3 v5 v7 s17_6 s17_13 v2004 r) := by
 unfold z2c at h
 refine zk h (fun v2201 h2202 g1 => ?_)
 refine zl g1 (fun h2203 g2 => ?_) (fun h2203 g2 => ?_)
 ·refine zk g2 (fun v2204 h2205 g3 => ?_)
  refine zl g3 (fun h2206 g4 => ?_) (fun h2206 g4 => ?_)
  ·refine zk g4 (fun v2207 h2208 g5 => ?_)
   refine zl g5 (fun h2209 g6 => ?_) (fun h2209 g6 => ?_)
   ·refine zk g6 (fun v2210 h2211 g7 => ?_)
    exact zB (g := fun r => (Ex.nor, zXb p0 v3 v5 v7 s17_6 s17_13 v2004 r)) g7 (zqe [(19, 21, 5, .c (db v2201)), (19, 21, 6, .q (xb true)), (19, 21, 10, .c (db v2204)), (19, 21, 12, .q (xb true)), (19, 21, 15, .c (db v2207)), (19, 21, 17, .q (xb true)), (19, 21, 20, .c (db v2210))] [] (ob (zN k v2004.Day 0 (w64 (p0.Days - 1)) _ h2202) (ob (o_b h2203) (ob (zub k p0 v2004.Shelf _ h2205) (ob (o_b h2206) (ob (zN k v2004.Read 0 60 _ h2208) (ob (o_b h2209) (ob (zN k v2004.Err 0 20 _ h2211) ob0))))))) (by kernel_rfl))
   ·exact zB (g := fun r => (Ex.nor, zXb p0 v3 v5 v7 s17_6 s17_13 v2004 r)) g6 (zqe [(19, 21, 5, .c (db v2201)), (19, 21, 6, .q (xb true)), (19, 21, 10, .c (db v2204)), (19, 21, 12, .q (xb true)), (19, 21, 15, .c (db v2207)), (19, 21, 17, .q (xb false))] [] (ob (zN k v2004.Day 0 (w64 (p0.Days - 1)) _ h2202) (ob (o_b h2203) (ob (zub k p0 v2004.Shelf _ h2205) (ob (o_b h2206) (ob (zN k v2004.Read 0 60 _ h2208) (ob (o_b h2209) ob0)))))) (by kernel_rfl))
  ·exact zB (g := fun r => (Ex.nor, zXb p0 v3 v5 v7 s17_6 s17_13 v2004 r)) g4 (zqe [(19, 21, 5, .c (db v2201)), (19, 21, 6, .q (xb true)), (19, 21, 10, .c (db v2204)), (19, 21, 12, .q (xb false))] [] (ob (zN k v2004.Day 0 (w64 (p0.Days - 1)) _ h2202) (ob (o_b h2203) (ob (zub k p0 v2004.Shelf _ h2205) (ob (o_b h2206) ob0)))) (by kernel_rfl))
 ·exact zB (g := fun r => (Ex.nor, zXb p0 v3 v5 v7 s17_6 s17_13 v2004 r)) g2 (zqe [(19, 21, 5, .c (db v2201)), (19, 21, 6, .q (xb false))] [] (ob (zN k v2004.Day 0 (w64 (p0.Days - 1)) _ h2202) (ob (o_b h2203) ob0)) (by kernel_rfl))
noncomputable def zNm (p0 : za) (v3 v5 v7 : zt1) (s17_6 : Bool) (s17_13 : Int) : St := ⟨(zux p0 s17_6 v3 v5 v7 s17_13), ⟨[(zc 1 (zb p0))], []⟩, []⟩
noncomputable def zoD (p0 : za) (r v3 v5 v7 : zt1) : TM := [(0, (.d (.agg (zb p0)))), (zsp 1), (2, (xi 0)), (3, (xb r.1)), (4, (xi v3.2)), (46, (xb false)), (6, (xi v5.2)), (71, (xb false)), (8, (xi v7.2)), (103, (xb false)), (10, (xi r.2)), (135, (xb false))]
noncomputable def zjc (p0 : za) (v3 v5 v7 r : zt1) : St := ⟨(zoD p0 r v3 v5 v7), ⟨[(zc 1 (zb p0))], []⟩, []⟩
noncomputable def zXm (p0 : za) (v3 v5 v7 : zt1) : (Bool × Int) → Ex × St := fun r => ((.exit 6), zjc p0 v3 v5 v7 r)
theorem z1h (k : Nat) (p0 : za) (v3 v5 v7 : zt1) (s17_6 : Bool) (s17_13 : Int) (x : (Bool × Int) ⊕ (Bool × Int)) (h : zxb k p0 v3 v5 v7 s17_6 s17_13 = some x) : zO TE 19 (blk TE 19 6) (fun s : (Bool × Int) => zNm p0 v3 v5 v7 s.1 s.2) (zXm p0 v3 v5 v7) (s17_6, s17_13) x := by
 unfold zxb at h
 refine zk h (fun v2001 h2002 g1 => ?_)
 refine zl g1 (fun h2003 g2 => ?_) (fun h2003 g2 => ?_)
 ·subst h2003
  refine zk g2 (fun v2004 h2005 g3 => ?_)
  refine zk g3 (fun v2006 h2007 g4 => ?_)
  exact zqn (v2006, (w64 (s17_13 + 1))) [] [(19, 20, 3, .q (.d (.pin (zi v2004))))] [(19, 1000018, (.nor, zwc p0 v3 v5 v7 s17_6 s17_13 true)), (19, 1000021, (.nor, zXb p0 v3 v5 v7 s17_6 s17_13 v2004 v2006))] g4 (ob (z3h k p0 v3 v5 v7 s17_6 s17_13 _ h2002) (ob (o_ia (e := zi) 4 h2005 rfl) (ob (zTl k p0 v3 v5 v7 s17_6 s17_13 v2004 _ h2007) ob0))) (by kernel_rfl)
 ·subst h2003
  exact zqo [] [(19, 1000018, (.nor, zwc p0 v3 v5 v7 s17_6 s17_13 false))] g2 (ob (z3h k p0 v3 v5 v7 s17_6 s17_13 _ h2002) ob0) (by kernel_rfl)
theorem zVb (k : Nat) (p0 : za) (r : Int) (h : zuc k p0 = some r) : zM TE (ev TE) 19 [(.agg (zb p0))] = some (zeh r) := by
 unfold zuc at h
 refine zk h (fun v1 h2 g1 => ?_)
 refine zk g1 (fun v3 h4 g2 => ?_)
 refine zk g2 (fun v5 h6 g3 => ?_)
 refine zk g3 (fun v7 h8 g4 => ?_)
 refine zk g4 (fun v9 h10 g5 => ?_)
 refine zl g5 (fun h11 g6 => ?_) (fun h11 g6 => ?_)
 ·exact zK (g := zeh) g6 (zqc [(19, 22, 1, .q (xb true))] [(19, 1000001, (.nor, ztb p0 v1)), (19, 0, (.nor, zyc p0 v3)), (19, 2, (.nor, zAc p0 v3 v5)), (19, 4, (.nor, zkc p0 v3 v5 v7)), (19, 6, (.nor, zjc p0 v3 v5 v7 v9))] (ob (zhi k p0 _ h2) (ob (zG (id := 0) (r' := (.nor, zyc p0 v3)) (zfb (zsi k p0) k _ _ h4) rfl) (ob (zG (id := 2) (r' := (.nor, zAc p0 v3 v5)) (zfb (zii k p0 v3) k _ _ h6) rfl) (ob (zG (id := 4) (r' := (.nor, zkc p0 v3 v5 v7)) (zfb (zVh k p0 v3 v5) k _ _ h8) rfl) (ob (zG (id := 6) (r' := (.nor, zjc p0 v3 v5 v7 v9)) (zfb (z1h k p0 v3 v5 v7) k _ _ h10) rfl) (ob (o_b h11) ob0)))))) (by kernel_rfl))
 ·exact zK (g := zeh) g6 (zqc [(19, 22, 1, .q (xb false))] [(19, 1000001, (.nor, ztb p0 v1)), (19, 0, (.nor, zyc p0 v3)), (19, 2, (.nor, zAc p0 v3 v5)), (19, 4, (.nor, zkc p0 v3 v5 v7)), (19, 6, (.nor, zjc p0 v3 v5 v7 v9))] (ob (zhi k p0 _ h2) (ob (zG (id := 0) (r' := (.nor, zyc p0 v3)) (zfb (zsi k p0) k _ _ h4) rfl) (ob (zG (id := 2) (r' := (.nor, zAc p0 v3 v5)) (zfb (zii k p0 v3) k _ _ h6) rfl) (ob (zG (id := 4) (r' := (.nor, zkc p0 v3 v5 v7)) (zfb (zVh k p0 v3 v5) k _ _ h8) rfl) (ob (zG (id := 6) (r' := (.nor, zjc p0 v3 v5 v7 v9)) (zfb (z1h k p0 v3 v5 v7) k _ _ h10) rfl) (ob (o_b h11) ob0)))))) (by kernel_rfl))
theorem zqp (k : Nat) (p0 : (SL Int)) (p1 : Int) (r : (SL Int)) (h : zNe k p0 p1 = some r) : zM TE (ev TE) 88 [(dl eI p0.1 p0.2), (di p1)] = some (zbk r) := by
 unfold zNe at h
 refine zT h (fun h1 g1 => ?_)
 refine zT g1 (fun h2 g2 => ?_)
 exact zK (g := zbk) g2 (zqr [(88, 1, 2, .ns (p0.1.map eI) p0.1.length), (88, 1, 5, .ap (p0.1 ++ [p1]).length (rowO false 1 eI (p0.1 ++ [p1]) true))] [] [(dl eI (p0.1 ++ [p1]) (rcap false (p0.1 ++ [p1])))] (ob (zGm p0.1 eI) (ob (o_ns (P := TE.P) (φ := fun _ _ => none) (T := 42) (q := (1, [(di 0)])) (c := p0.2) (e := eI) p0.1 (by kernel_rfl) (fun _ => rfl) h1) (ob (rfl : (([] : List (List D)).isEmpty || !(p0.1.map eI).isEmpty) = true) (ob (o_ap (b := false) (z := 1) (e := eI) (l := p0.1) (w := true) p1 (fun _ => rfl) h2) (ob (show zpc ⟨[(7, (rowO false 1 eI (p0.1 ++ [p1]) true))], []⟩ _ = _ from (o_s1 (x := (.row 0 7 (p0.1 ++ [p1]).length)) (zDh false 1 eI (p0.1 ++ [p1]) true rfl) o_s0)) ob0))))) (by kernel_rfl))
noncomputable def zsD (p0 : za) (p1 : Int) (s1_7 : (SL (SL Int))) (s1_8 : Int) (r : zt4) : TM := [(0, (.d (.agg (zb p0)))), (1, (xi p1)), (zsp 2), (4, (.d (.sl [] .nil))), (5, (.d (dl (eL eI) s1_7.1 s1_7.2))), (6, (xi s1_8)), (17, (xb true)), (zsp 7), (8, (xi r.1)), (31, (xb r.2))]
noncomputable def zke (p0 : za) (p1 : Int) (s1_7 : (SL (SL Int))) (s1_8 : Int) (v702 : zt) (cb : Bool) (r : zt4) : St := ⟨(zsD p0 p1 s1_7 s1_8 r), ⟨[(zc 2 (zb p0)), (zc 7 (zh v702))], []⟩, []⟩
noncomputable def zIB (p0 : za) (p1 : Int) (s1_7 : (SL (SL Int))) (s1_8 : Int) (v702 : zt) (cb : Bool) : TM := [(0, (.d (.agg (zb p0)))), (1, (xi p1)), (zsp 2), (4, (.d (.sl [] .nil))), (5, (.d (dl (eL eI) s1_7.1 s1_7.2))), (6, (xi s1_8)), (17, (xb true)), (zsp 7), (8, (xi v702.Days.High)), (31, (xb cb))]
theorem zRn (k : Nat) (p0 : za) (p1 : Int) (s1_7 : (SL (SL Int))) (s1_8 : Int) (v702 : zt) (cb : Bool) (r : zt4) (h : z2e k p0 p1 s1_7 s1_8 v702 cb = some r) : ev TE 72 (cnd TE 72 31) ⟨(zIB p0 p1 s1_7 s1_8 v702 cb), ⟨[(zc 2 (zb p0)), (zc 7 (zh v702))], []⟩, []⟩ = some (.nor, zke p0 p1 s1_7 s1_8 v702 cb r) := by
 unfold z2e at h
 refine zl h (fun h801 g1 => ?_) (fun h801 g1 => ?_)
 ·subst h801
  exact zB (g := fun r => (Ex.nor, zke p0 p1 s1_7 s1_8 v702 true r)) g1 (zqe [] [] ob0 (by kernel_rfl))
 ·subst h801
  exact zB (g := fun r => (Ex.nor, zke p0 p1 s1_7 s1_8 v702 false r)) g1 (zqe [] [] ob0 (by kernel_rfl))
noncomputable def zaC (p0 : za) (p1 : Int) (s1_7 : (SL (SL Int))) (s1_8 : Int) (v704 : zt4) (s11_25 : (List (SL Int))) (s8_12 s11_14 : Int) : TM := [(0, (.d (.agg (zb p0)))), (1, (xi p1)), (zsp 2), (4, (.d (.sl [] .nil))), (5, (.d (dl (eL eI) s1_7.1 s1_7.2))), (6, (xi s1_8)), (17, (xb true)), (zsp 7), (8, (xi v704.1)), (31, (xb v704.2)), (9, (.row 0 9 s11_25.length)), (10, (xi s8_12)), (38, (xb true)), (11, (xi s11_14))]
noncomputable def zan (p0 : za) (p1 : Int) (s1_7 : (SL (SL Int))) (s1_8 : Int) (v702 : zt) (v704 : zt4) (s8_12 s11_14 : Int) (s11_25 : (List (SL Int))) : St := ⟨(zaC p0 p1 s1_7 s1_8 v704 s11_25 s8_12 s11_14), ⟨[(zc 2 (zb p0)), (zc 7 (zh v702)), (9, (rowO true 1 (eL eI) s11_25 true))], []⟩, []⟩
noncomputable def zBD (p0 : za) (p1 : Int) (s1_7 : (SL (SL Int))) (s1_8 : Int) (v704 : zt4) (r : (Int × (List (SL Int)))) (s8_12 : Int) : TM := [(0, (.d (.agg (zb p0)))), (1, (xi p1)), (zsp 2), (4, (.d (.sl [] .nil))), (5, (.d (dl (eL eI) s1_7.1 s1_7.2))), (6, (xi s1_8)), (17, (xb true)), (zsp 7), (8, (xi v704.1)), (31, (xb v704.2)), (9, (.row 0 9 r.2.length)), (10, (xi s8_12)), (38, (xb true)), (11, (xi r.1)), (46, (xb false))]
noncomputable def zEf (p0 : za) (p1 : Int) (s1_7 : (SL (SL Int))) (s1_8 : Int) (v702 : zt) (v704 : zt4) (s8_12 : Int) (r : (Int × (List (SL Int)))) : St := ⟨(zBD p0 p1 s1_7 s1_8 v704 r s8_12), ⟨[(zc 2 (zb p0)), (zc 7 (zh v702)), (9, (rowO true 1 (eL eI) r.2 true))], []⟩, []⟩
noncomputable def znn (p0 : za) (p1 : Int) (s1_7 : (SL (SL Int))) (s1_8 : Int) (v702 : zt) (v704 : zt4) (s8_12 : Int) : (Int × (List (SL Int))) → Ex × St := fun r => ((.exit 4), zEf p0 p1 s1_7 s1_8 v702 v704 s8_12 r)
theorem zxm (k : Nat) (p0 : za) (p1 : Int) (s1_7 : (SL (SL Int))) (s1_8 : Int) (v702 : zt) (v704 : zt4) (s8_12 s11_14 : Int) (s11_25 : (List (SL Int))) (x : (Int × (List (SL Int))) ⊕ (Int × (List (SL Int)))) (h : zsc k p0 p1 s1_7 s1_8 v702 v704 s8_12 s11_14 s11_25 = some x) : zO TE 72 (blk TE 72 4) (fun s : (Int × (List (SL Int))) => zan p0 p1 s1_7 s1_8 v702 v704 s8_12 s.1 s.2) (znn p0 p1 s1_7 s1_8 v702 v704 s8_12) (s11_14, s11_25) x := by
 unfold zsc at h
 refine zl h (fun h1201 g1 => ?_) (fun h1201 g1 => ?_)
 ·refine zk g1 (fun v1202 h1203 g2 => ?_)
  refine zk g2 (fun v1204 h1205 g3 => ?_)
  refine zT g3 (fun h1206 g4 => ?_)
  exact zqn ((w64 (s11_14 + 1)), (s11_25 ++ [v1204])) [9] [(72, 14, 2, .q (xb true)), (72, 16, 3, .q (.d (.pin [(dl eI v1202.1 v1202.2)]))), (72, 16, 6, .c (dl eI v1204.1 v1204.2)), (72, 16, 8, .ap (s11_25 ++ [v1204]).length (rowO true 1 (eL eI) (s11_25 ++ [v1204]) true))] [] g4 (ob (o_b h1201) (ob (o_ia (e := (eL eI)) 1 h1203 rfl) (ob (zqp k v1202 s11_14 _ h1205) (ob (o_ap (b := true) (z := 1) (e := (eL eI)) (l := s11_25) (w := true) v1204 (fun _ => rfl) h1206) (ob (zgc true 1 (eL eI) (s11_25 ++ [v1204]) true) ob0))))) (by kernel_rfl)
 ·exact zqo [(72, 14, 2, .q (xb false))] [] g1 (ob (o_b h1201) ob0) (by kernel_rfl)
noncomputable def zzC (p0 : za) (p1 : Int) (s1_7 : (SL (SL Int))) (s1_8 : Int) (v704 : zt4) (s8_23 : (List (SL Int))) (s8_12 : Int) : TM := [(0, (.d (.agg (zb p0)))), (1, (xi p1)), (zsp 2), (4, (.d (.sl [] .nil))), (5, (.d (dl (eL eI) s1_7.1 s1_7.2))), (6, (xi s1_8)), (17, (xb true)), (zsp 7), (8, (xi v704.1)), (31, (xb v704.2)), (9, (.row 0 9 s8_23.length)), (10, (xi s8_12))]
noncomputable def z2n (p0 : za) (p1 : Int) (s1_7 : (SL (SL Int))) (s1_8 : Int) (v702 : zt) (v704 : zt4) (s8_12 : Int) (s8_23 : (List (SL Int))) : St := ⟨(zzC p0 p1 s1_7 s1_8 v704 s8_23 s8_12), ⟨[(zc 2 (zb p0)), (zc 7 (zh v702)), (9, (rowO true 1 (eL eI) s8_23 true))], []⟩, []⟩
noncomputable def z0C (p0 : za) (p1 : Int) (s1_7 : (SL (SL Int))) (s1_8 : Int) (v704 : zt4) (r : (Int × (List (SL Int)))) : TM := [(0, (.d (.agg (zb p0)))), (1, (xi p1)), (zsp 2), (4, (.d (.sl [] .nil))), (5, (.d (dl (eL eI) s1_7.1 s1_7.2))), (6, (xi s1_8)), (17, (xb true)), (zsp 7), (8, (xi v704.1)), (31, (xb v704.2)), (9, (.row 0 9 r.2.length)), (10, (xi r.1)), (38, (xb false))]
noncomputable def z0f (p0 : za) (p1 : Int) (s1_7 : (SL (SL Int))) (s1_8 : Int) (v702 : zt) (v704 : zt4) (r : (Int × (List (SL Int)))) : St := ⟨(z0C p0 p1 s1_7 s1_8 v704 r), ⟨[(zc 2 (zb p0)), (zc 7 (zh v702)), (9, (rowO true 1 (eL eI) r.2 true))], []⟩, []⟩
noncomputable def zUn (p0 : za) (p1 : Int) (s1_7 : (SL (SL Int))) (s1_8 : Int) (v702 : zt) (v704 : zt4) : (Int × (List (SL Int))) → Ex × St := fun r => ((.exit 2), z0f p0 p1 s1_7 s1_8 v702 v704 r)
theorem zSn (k : Nat) (p0 : za) (p1 : Int) (s1_7 : (SL (SL Int))) (s1_8 : Int) (v702 : zt) (v704 : zt4) (s8_12 : Int) (s8_23 : (List (SL Int))) (x : (Int × (List (SL Int))) ⊕ (Int × (List (SL Int)))) (h : zHc k p0 p1 s1_7 s1_8 v702 v704 s8_12 s8_23 = some x) : zO TE 72 (blk TE 72 2) (fun s : (Int × (List (SL Int))) => z2n p0 p1 s1_7 s1_8 v702 v704 s.1 s.2) (zUn p0 p1 s1_7 s1_8 v702 v704) (s8_12, s8_23) x := by
 unfold zHc at h
 refine zl h (fun h1101 g1 => ?_) (fun h1101 g1 => ?_)
 ·refine zk g1 (fun v1102 h1103 g2 => ?_)
  exact zqn ((w64 (s8_12 + 1)), v1102.2) [9] [(72, 11, 2, .q (xi (s1_7.1.length : Int))), (72, 11, 3, .q (xb true))] [(72, 4, (.nor, zEf p0 p1 s1_7 s1_8 v702 v704 s8_12 v1102))] g2 (ob (zx (eL eI) s1_7.1) (ob (o_b h1101) (ob (zG (id := 4) (r' := (.nor, zEf p0 p1 s1_7 s1_8 v702 v704 s8_12 v1102)) (zfb (zxm k p0 p1 s1_7 s1_8 v702 v704 s8_12) k _ _ h1103) rfl) (ob (zgc true 1 (eL eI) v1102.2 true) ob0)))) (by kernel_rfl)
 ·exact zqo [(72, 11, 2, .q (xi (s1_7.1.length : Int))), (72, 11, 3, .q (xb false))] [] g1 (ob (zx (eL eI) s1_7.1) (ob (o_b h1101) ob0)) (by kernel_rfl)
noncomputable def zXC (p0 : za) (p1 : Int) (s1_7 : (SL (SL Int))) (s1_8 : Int) : TM := [(0, (.d (.agg (zb p0)))), (1, (xi p1)), (zsp 2), (4, (.d (.sl [] .nil))), (5, (.d (dl (eL eI) s1_7.1 s1_7.2))), (6, (xi s1_8))]
noncomputable def z9n (p0 : za) (p1 : Int) (s1_7 : (SL (SL Int))) (s1_8 : Int) : St := ⟨(zXC p0 p1 s1_7 s1_8), ⟨[(zc 2 (zb p0))], []⟩, []⟩
noncomputable def zpD (p0 : za) (p1 : Int) (r : ((SL (SL Int)) × Int)) : TM := [(0, (.d (.agg (zb p0)))), (1, (xi p1)), (zsp 2), (4, (.d (.sl [] .nil))), (5, (.d (dl (eL eI) r.1.1 r.1.2))), (6, (xi r.2)), (17, (xb false))]
noncomputable def zOf (p0 : za) (p1 : Int) (r : ((SL (SL Int)) × Int)) : St := ⟨(zpD p0 p1 r), ⟨[(zc 2 (zb p0))], []⟩, []⟩
noncomputable def zgo (p0 : za) (p1 : Int) : ((SL (SL Int)) × Int) → Ex × St := fun r => ((.exit 0), zOf p0 p1 r)
theorem zJn (k : Nat) (p0 : za) (p1 : Int) (s1_7 : (SL (SL Int))) (s1_8 : Int) (x : ((SL (SL Int)) × Int) ⊕ ((SL (SL Int)) × Int)) (h : zNd k p0 p1 s1_7 s1_8 = some x) : zO TE 72 (blk TE 72 0) (fun s : ((SL (SL Int)) × Int) => z9n p0 p1 s.1 s.2) (zgo p0 p1) (s1_7, s1_8) x := by
 unfold zNd at h
 refine zl h (fun h701 g1 => ?_) (fun h701 g1 => ?_)
 ·refine zk g1 (fun v702 h703 g2 => ?_)
  refine zk g2 (fun v704 h705 g3 => ?_)
  refine zk g3 (fun v706 h707 g4 => ?_)
  exact zqn ((v706.2, (rcap true v706.2)), (w64 (s1_8 + 1))) [] [(72, 3, 3, .q (xi (p0.Deliveries.1.length : Int))), (72, 3, 4, .q (xb true)), (72, 5, 3, .q (.d (.pin (zh v702)))), (72, 17, 1, .fz (dl (eL eI) v706.2 (rcap true v706.2)) (rowO true 1 (eL eI) v706.2 false))] [(72, 2000031, (.nor, zke p0 p1 s1_7 s1_8 v702 (v702.Shelf != p1) v704)), (72, 2, (.nor, z0f p0 p1 s1_7 s1_8 v702 v704 v706))] g4 (ob (zx zh p0.Deliveries.1) (ob (o_b h701) (ob (o_ia (e := zh) 5 h703 rfl) (ob (zRn k p0 p1 s1_7 s1_8 v702 (v702.Shelf != p1) _ h705) (ob (zG (id := 2) (r' := (.nor, z0f p0 p1 s1_7 s1_8 v702 v704 v706)) (zfb (zSn k p0 p1 s1_7 s1_8 v702 v704) k _ _ h707) rfl) (ob (o_cr true 1 (eL eI) v706.2 true 0 9) ob0)))))) (by kernel_rfl)
 ·exact zqo [(72, 3, 3, .q (xi (p0.Deliveries.1.length : Int))), (72, 3, 4, .q (xb false))] [] g1 (ob (zx zh p0.Deliveries.1) (ob (o_b h701) ob0)) (by kernel_rfl)
theorem zUp (k : Nat) (p0 : za) (p1 : Int) (r : (SL (SL Int))) (h : zPe k p0 p1 = some r) : zM TE (ev TE) 72 [(.agg (zb p0)), (di p1)] = some (zck r) := by
 unfold zPe at h
 refine zk h (fun v1 h2 g1 => ?_)
 exact zK (g := zck) g1 (zqc [] [(72, 0, (.nor, zOf p0 p1 v1))] (ob (zG (id := 0) (r' := (.nor, zOf p0 p1 v1)) (zfb (zJn k p0 p1) k _ _ h2) rfl) ob0) (by kernel_rfl))
theorem zQ (k : Nat) (p0 p1 : Int) (r : zj) (h : zZ k p0 p1 = some r) : zM TE (ev TE) 42 [(di p0), (di p1)] = some (ztl r) := by
 unfold zZ at h
 exact zK (g := ztl) h (zqc [] [] ob0 (by kernel_rfl))
theorem zfi (k : Nat) (p0 p1 : Int) (r : Bool) (h : zCe k p0 p1 = some r) : zM TE (ev TE) 80 [(di p0), (di p1)] = some (zyl r) := by
 unfold zCe at h
 refine zl h (fun h1 g1 => ?_) (fun h1 g1 => ?_)
 ·cases g1
 ·exact zK (g := zyl) g1 (zqc [(80, 1, 2, .q (xi (z7 p0 p1)))] [] (ob (z5e (x := p0) h1) ob0) (by kernel_rfl))
theorem zig (k : Nat) (p0 p1 r : zj) (h : zWc k p0 p1 = some r) : zM TE (ev TE) 69 [(.agg [(di p0.Low), (di p0.High)]), (.agg [(di p1.Low), (di p1.High)])] = some (zsj r) := by
 unfold zWc at h
 refine zk h (fun v1 h2 g1 => ?_)
 exact zK (g := zsj) g1 (zqc [(69, 1, 10, .c (.agg [(di v1.Low), (di v1.High)]))] [] (ob (zQ k (if p1.Low > p0.Low then p1.Low else p0.Low) (if p1.High < p0.High then p1.High else p0.High) _ h2) ob0) (by kernel_rfl))
noncomputable def zfC (p0 : za) (p1 p2 p3 s1_8 : Int) (r : Bool) : TM := [(0, (.d (.agg (zb p0)))), (1, (xi p1)), (2, (xi p2)), (3, (xi p3)), (zsp 4), (zsp 8), (zsp 9), (10, (xi s1_8)), (23, (xb true)), (zsp 11), (46, (xb r))]
noncomputable def zic (p0 : za) (p1 p2 p3 s1_8 s1_16 s1_17 : Int) (v402 : zn) (r : Bool) : St := ⟨(zfC p0 p1 p2 p3 s1_8 r), ⟨[(zc 4 (zb p0)), (8, (.cells [(xi 0), (xi 0)])), (9, (.cells [(xi s1_16), (xi s1_17)])), (zc 11 (zi v402))], []⟩, []⟩
noncomputable def z2w (p0 : za) (p1 p2 p3 s1_8 : Int) : TM := [(0, (.d (.agg (zb p0)))), (1, (xi p1)), (2, (xi p2)), (3, (xi p3)), (zsp 4), (zsp 8), (zsp 9), (10, (xi s1_8)), (23, (xb true)), (zsp 11)]
theorem zml (k : Nat) (p0 : za) (p1 p2 p3 s1_8 s1_16 s1_17 : Int) (v402 : zn) (r : Bool) (h : zae k p0 p1 p2 p3 s1_8 s1_16 s1_17 v402 = some r) : ev TE 89 (rgn TE 89 6) ⟨(z2w p0 p1 p2 p3 s1_8), ⟨[(zc 4 (zb p0)), (8, (.cells [(xi 0), (xi 0)])), (9, (.cells [(xi s1_16), (xi s1_17)])), (zc 11 (zi v402))], []⟩, []⟩ = some (.nor, zic p0 p1 p2 p3 s1_8 s1_16 s1_17 v402 r) := by
 unfold zae at h
 refine zl h (fun h501 g1 => ?_) (fun h501 g1 => ?_)
 ·refine zl g1 (fun h502 g2 => ?_) (fun h502 g2 => ?_)
  ·refine zk g2 (fun v503 h504 g3 => ?_)
   exact zB (g := fun r => (Ex.nor, zic p0 p1 p2 p3 s1_8 s1_16 s1_17 v402 r)) g3 (zqe [(89, 6, 4, .q (xb true)), (89, 6, 10, .q (xb true)), (89, 6, 13, .c (db v503))] [] (ob (o_b h501) (ob (o_b h502) (ob (zfi k p3 s1_8 _ h504) ob0))) (by kernel_rfl))
  ·exact zB (g := fun r => (Ex.nor, zic p0 p1 p2 p3 s1_8 s1_16 s1_17 v402 r)) g2 (zqe [(89, 6, 4, .q (xb true)), (89, 6, 10, .q (xb false))] [] (ob (o_b h501) (ob (o_b h502) ob0)) (by kernel_rfl))
 ·exact zB (g := fun r => (Ex.nor, zic p0 p1 p2 p3 s1_8 s1_16 s1_17 v402 r)) g1 (zqe [(89, 6, 4, .q (xb false))] [] (ob (o_b h501) ob0) (by kernel_rfl))
noncomputable def zAd (p0 : za) (p1 p2 p3 s1_8 s1_16 s1_17 : Int) (v402 : zn) (v404 : Bool) (r : (Bool × Int × Int)) : St := ⟨(z2w p0 p1 p2 p3 s1_8 ++ [(46, (xb r.1))]), ⟨[(zc 4 (zb p0)), (8, (.cells [(xi 0), (xi 0)])), (9, (.cells [(xi r.2.1), (xi r.2.2)])), (zc 11 (zi v402))], []⟩, []⟩
theorem zpl (k : Nat) (p0 : za) (p1 p2 p3 s1_8 s1_16 s1_17 : Int) (v402 : zn) (v404 : Bool) (r : (Bool × Int × Int)) (h : zMb k p0 p1 p2 p3 s1_8 s1_16 s1_17 v402 v404 = some r) : ev TE 89 (cnd TE 89 46) ⟨(z2w p0 p1 p2 p3 s1_8 ++ [(46, (xb v404))]), ⟨[(zc 4 (zb p0)), (8, (.cells [(xi 0), (xi 0)])), (9, (.cells [(xi s1_16), (xi s1_17)])), (zc 11 (zi v402))], []⟩, []⟩ = some (.nor, zAd p0 p1 p2 p3 s1_8 s1_16 s1_17 v402 v404 r) := by
 unfold zMb at h
 refine zl h (fun h601 g1 => ?_) (fun h601 g1 => ?_)
 ·subst h601
  refine zk g1 (fun v602 h603 g2 => ?_)
  refine zk g2 (fun v604 h605 g3 => ?_)
  exact zB (g := fun r => (Ex.nor, zAd p0 p1 p2 p3 s1_8 s1_16 s1_17 v402 true r)) g3 (zqe [(89, 7, 11, .c (.agg [(di v602.Low), (di v602.High)])), (89, 7, 12, .c (.agg [(di v604.Low), (di v604.High)]))] [] (ob (zQ k (w64 (v402.Read - v402.Err)) (w64 (v402.Read + v402.Err)) _ h603) (ob (zig k (⟨s1_16, s1_17⟩ : zj) v602 _ h605) ob0)) (by kernel_rfl))
 ·subst h601
  exact zB (g := fun r => (Ex.nor, zAd p0 p1 p2 p3 s1_8 s1_16 s1_17 v402 false r)) g1 (zqe [] [] ob0 (by kernel_rfl))
noncomputable def zSB (p0 : za) (p1 p2 p3 s1_8 : Int) : TM := [(0, (.d (.agg (zb p0)))), (1, (xi p1)), (2, (xi p2)), (3, (xi p3)), (zsp 4), (zsp 8), (zsp 9), (10, (xi s1_8))]
noncomputable def z7l (p0 : za) (p1 p2 p3 s1_8 s1_16 s1_17 : Int) : St := ⟨(zSB p0 p1 p2 p3 s1_8), ⟨[(zc 4 (zb p0)), (8, (.cells [(xi 0), (xi 0)])), (9, (.cells [(xi s1_16), (xi s1_17)]))], []⟩, []⟩
noncomputable def zJB (p0 : za) (p1 p2 p3 : Int) (r : (Int × Int × Int)) : TM := [(0, (.d (.agg (zb p0)))), (1, (xi p1)), (2, (xi p2)), (3, (xi p3)), (zsp 4), (zsp 8), (zsp 9), (10, (xi r.1)), (23, (xb false))]
noncomputable def zRe (p0 : za) (p1 p2 p3 : Int) (r : (Int × Int × Int)) : St := ⟨(zJB p0 p1 p2 p3 r), ⟨[(zc 4 (zb p0)), (8, (.cells [(xi 0), (xi 0)])), (9, (.cells [(xi r.2.1), (xi r.2.2)]))], []⟩, []⟩
noncomputable def zem (p0 : za) (p1 p2 p3 : Int) : (Int × Int × Int) → Ex × St := fun r => ((.exit 0), zRe p0 p1 p2 p3 r)
theorem zJl (k : Nat) (p0 : za) (p1 p2 p3 s1_8 s1_16 s1_17 : Int) (x : (Int × Int × Int) ⊕ (Int × Int × Int)) (h : zQc k p0 p1 p2 p3 s1_8 s1_16 s1_17 = some x) : zO TE 89 (blk TE 89 0) (fun s : (Int × Int × Int) => z7l p0 p1 p2 p3 s.1 s.2.1 s.2.2) (zem p0 p1 p2 p3) (s1_8, s1_16, s1_17) x := by
 unfold zQc at h
 refine zl h (fun h401 g1 => ?_) (fun h401 g1 => ?_)
 ·refine zk g1 (fun v402 h403 g2 => ?_)
  refine zk g2 (fun v404 h405 g3 => ?_)
  refine zk g3 (fun v406 h407 g4 => ?_)
  exact zqn ((w64 (s1_8 + 1)), v406.2.1, v406.2.2) [] [(89, 3, 3, .q (xi (p0.Counts.1.length : Int))), (89, 3, 4, .q (xb true)), (89, 5, 3, .q (.d (.pin (zi v402))))] [(89, 1000006, (.nor, zic p0 p1 p2 p3 s1_8 s1_16 s1_17 v402 v404)), (89, 2000046, (.nor, zAd p0 p1 p2 p3 s1_8 s1_16 s1_17 v402 v404 v406))] g4 (ob (zx zi p0.Counts.1) (ob (o_b h401) (ob (o_ia (e := zi) 4 h403 rfl) (ob (zml k p0 p1 p2 p3 s1_8 s1_16 s1_17 v402 _ h405) (ob (zpl k p0 p1 p2 p3 s1_8 s1_16 s1_17 v402 v404 _ h407) ob0))))) (by kernel_rfl)
 ·exact zqo [(89, 3, 3, .q (xi (p0.Counts.1.length : Int))), (89, 3, 4, .q (xb false))] [] g1 (ob (zx zi p0.Counts.1) (ob (o_b h401) ob0)) (by kernel_rfl)
theorem zmn (k : Nat) (p0 : za) (p1 p2 p3 : Int) (r : zj) (h : zWd k p0 p1 p2 p3 = some r) : zM TE (ev TE) 89 [(.agg (zb p0)), (di p1), (di p2), (di p3)] = some (z8i r) := by
 unfold zWd at h
 refine zk h (fun v1 h2 g1 => ?_)
 refine zk g1 (fun v3 h4 g2 => ?_)
 refine zk g2 (fun v5 h6 g3 => ?_)
 exact zK (g := z8i) g3 (zqc [(89, 1, 3, .q (.d (.pin (zm v1)))), (89, 1, 6, .c (.agg [(di v3.Low), (di v3.High)]))] [(89, 0, (.nor, zRe p0 p1 p2 p3 v5))] (ob (o_ia (e := zm) 3 h2 rfl) (ob (zQ k 0 v1.Room _ h4) (ob (zG (id := 0) (r' := (.nor, zRe p0 p1 p2 p3 v5)) (zjB (zJl k p0 p1 p2 p3) k _ _ h6) rfl) ob0))) (by kernel_rfl))
noncomputable def z1C (p0 : za) (p1 : Int) (p2 : (SL Int)) (p3 : Int) (s24_17 : zt10) (s1_9 s24_11 : Int) (r : Bool) : TM := [(0, (.d (.agg (zb p0)))), (1, (xi p1)), (2, (.d (dl eI p2.1 p2.2))), (3, (xi p3)), (zsp 4), (8, (.d (.sl [] .nil))), (9, (.row 0 9 s24_17.length)), (zsp 10), (11, (xi s1_9)), (27, (xb true)), (12, (xi s24_11)), (34, (xb true)), (zsp 13), (53, (xb r))]
noncomputable def zzd (p0 : za) (p1 : Int) (p2 : (SL Int)) (p3 : Int) (v3 : zj) (s1_9 s24_11 : Int) (s24_17 : zt10) (v2702 : zt) (r : Bool) : St := ⟨(z1C p0 p1 p2 p3 s24_17 s1_9 s24_11 r), ⟨[(zc 4 (zb p0)), (9, (rowO true 6 zA s24_17 true)), (10, (.cells [(xi v3.Low), (xi v3.High)])), (zc 13 (zh v2702))], []⟩, []⟩
noncomputable def zpA (p0 : za) (p1 : Int) (p2 : (SL Int)) (p3 : Int) (s24_17 : zt10) (s1_9 s24_11 : Int) : TM := [(0, (.d (.agg (zb p0)))), (1, (xi p1)), (2, (.d (dl eI p2.1 p2.2))), (3, (xi p3)), (zsp 4), (8, (.d (.sl [] .nil))), (9, (.row 0 9 s24_17.length)), (zsp 10), (11, (xi s1_9)), (27, (xb true)), (12, (xi s24_11)), (34, (xb true)), (zsp 13)]
theorem zxl (k : Nat) (p0 : za) (p1 : Int) (p2 : (SL Int)) (p3 : Int) (v3 : zj) (s1_9 s24_11 : Int) (s24_17 : zt10) (v2702 : zt) (r : Bool) (h : z2d k p0 p1 p2 p3 v3 s1_9 s24_11 s24_17 v2702 = some r) : ev TE 73 (rgn TE 73 10) ⟨(zpA p0 p1 p2 p3 s24_17 s1_9 s24_11), ⟨[(zc 4 (zb p0)), (9, (rowO true 6 zA s24_17 true)), (10, (.cells [(xi v3.Low), (xi v3.High)])), (zc 13 (zh v2702))], []⟩, []⟩ = some (.nor, zzd p0 p1 p2 p3 v3 s1_9 s24_11 s24_17 v2702 r) := by
 unfold z2d at h
 refine zl h (fun h2801 g1 => ?_) (fun h2801 g1 => ?_)
 ·refine zk g1 (fun v2802 h2803 g2 => ?_)
  exact zB (g := fun r => (Ex.nor, zzd p0 p1 p2 p3 v3 s1_9 s24_11 s24_17 v2702 r)) g2 (zqe [(73, 10, 4, .q (xb true)), (73, 10, 7, .q (.d (.pin [(di v2802)])))] [] (ob (o_b h2801) (ob (o_ia (e := eI) 1 h2803 rfl) ob0)) (by kernel_rfl))
 ·exact zB (g := fun r => (Ex.nor, zzd p0 p1 p2 p3 v3 s1_9 s24_11 s24_17 v2702 r)) g1 (zqe [(73, 10, 4, .q (xb false))] [] (ob (o_b h2801) ob0) (by kernel_rfl))
noncomputable def zbD (p0 : za) (p1 : Int) (p2 : (SL Int)) (p3 : Int) (r : (Bool × (List zw))) (s1_9 s24_11 : Int) : TM := [(0, (.d (.agg (zb p0)))), (1, (xi p1)), (2, (.d (dl eI p2.1 p2.2))), (3, (xi p3)), (zsp 4), (8, (.d (.sl [] .nil))), (9, (.row 0 9 r.2.length)), (zsp 10), (11, (xi s1_9)), (27, (xb true)), (12, (xi s24_11)), (34, (xb true)), (zsp 13), (53, (xb r.1))]
noncomputable def zDd (p0 : za) (p1 : Int) (p2 : (SL Int)) (p3 : Int) (v3 : zj) (s1_9 s24_11 : Int) (s24_17 : zt10) (v2702 : zt) (v2704 : Bool) (r : (Bool × (List zw))) : St := ⟨(zbD p0 p1 p2 p3 r s1_9 s24_11), ⟨[(zc 4 (zb p0)), (9, (rowO true 6 zA r.2 true)), (10, (.cells [(xi v3.Low), (xi v3.High)])), (zc 13 (zh v2702))], []⟩, []⟩
theorem zLl (k : Nat) (p0 : za) (p1 : Int) (p2 : (SL Int)) (p3 : Int) (v3 : zj) (s1_9 s24_11 : Int) (s24_17 : zt10) (v2702 : zt) (v2704 : Bool) (r : (Bool × (List zw))) (h : z1b k p0 p1 p2 p3 v3 s1_9 s24_11 s24_17 v2702 v2704 = some r) : ev TE 73 (cnd TE 73 53) ⟨(zpA p0 p1 p2 p3 s24_17 s1_9 s24_11 ++ [(53, (xb v2704))]), ⟨[(zc 4 (zb p0)), (9, (rowO true 6 zA s24_17 true)), (10, (.cells [(xi v3.Low), (xi v3.High)])), (zc 13 (zh v2702))], []⟩, []⟩ = some (.nor, zDd p0 p1 p2 p3 v3 s1_9 s24_11 s24_17 v2702 v2704 r) := by
 unfold z1b at h
 refine zl h (fun h2901 g1 => ?_) (fun h2901 g1 => ?_)
 ·subst h2901
  refine zT g1 (fun h2902 g2 => ?_)
  exact zB (g := fun r => (Ex.nor, zDd p0 p1 p2 p3 v3 s1_9 s24_11 s24_17 v2702 true r)) g2 (zqe [(73, 11, 6, .ap (s24_17 ++ [(⟨v2702.By, v3, (-1), (-1)⟩ : zw)]).length (rowO true 6 zA (s24_17 ++ [(⟨v2702.By, v3, (-1), (-1)⟩ : zw)]) true))] [] (ob (o_ap (b := true) (z := 6) (e := zA) (l := s24_17) (w := true) (⟨v2702.By, v3, (-1), (-1)⟩ : zw) (fun _ => rfl) h2902) ob0) (by kernel_rfl))
 ·subst h2901
  exact zB (g := fun r => (Ex.nor, zDd p0 p1 p2 p3 v3 s1_9 s24_11 s24_17 v2702 false r)) g1 (zqe [] [] ob0 (by kernel_rfl))
noncomputable def zZB (p0 : za) (p1 : Int) (p2 : (SL Int)) (p3 : Int) (s24_17 : zt10) (s1_9 s24_11 : Int) : TM := [(0, (.d (.agg (zb p0)))), (1, (xi p1)), (2, (.d (dl eI p2.1 p2.2))), (3, (xi p3)), (zsp 4), (8, (.d (.sl [] .nil))), (9, (.row 0 9 s24_17.length)), (zsp 10), (11, (xi s1_9)), (27, (xb true)), (12, (xi s24_11))]
noncomputable def z1l (p0 : za) (p1 : Int) (p2 : (SL Int)) (p3 : Int) (v3 : zj) (s1_9 s24_11 : Int) (s24_17 : zt10) : St := ⟨(zZB p0 p1 p2 p3 s24_17 s1_9 s24_11), ⟨[(zc 4 (zb p0)), (9, (rowO true 6 zA s24_17 true)), (10, (.cells [(xi v3.Low), (xi v3.High)]))], []⟩, []⟩
noncomputable def z6B (p0 : za) (p1 : Int) (p2 : (SL Int)) (p3 : Int) (r : zt11) (s1_9 : Int) : TM := [(0, (.d (.agg (zb p0)))), (1, (xi p1)), (2, (.d (dl eI p2.1 p2.2))), (3, (xi p3)), (zsp 4), (8, (.d (.sl [] .nil))), (9, (.row 0 9 r.2.length)), (zsp 10), (11, (xi s1_9)), (27, (xb true)), (12, (xi r.1)), (34, (xb false))]
noncomputable def zTe (p0 : za) (p1 : Int) (p2 : (SL Int)) (p3 : Int) (v3 : zj) (s1_9 : Int) (r : zt11) : St := ⟨(z6B p0 p1 p2 p3 r s1_9), ⟨[(zc 4 (zb p0)), (9, (rowO true 6 zA r.2 true)), (10, (.cells [(xi v3.Low), (xi v3.High)]))], []⟩, []⟩
noncomputable def z9l (p0 : za) (p1 : Int) (p2 : (SL Int)) (p3 : Int) (v3 : zj) (s1_9 : Int) : (Int × (List zw)) → Ex × St := fun r => ((.exit 2), zTe p0 p1 p2 p3 v3 s1_9 r)
theorem zHl (k : Nat) (p0 : za) (p1 : Int) (p2 : (SL Int)) (p3 : Int) (v3 : zj) (s1_9 s24_11 : Int) (s24_17 : zt10) (x : (Int × (List zw)) ⊕ (Int × (List zw))) (h : z2b k p0 p1 p2 p3 v3 s1_9 s24_11 s24_17 = some x) : zO TE 73 (blk TE 73 2) (fun s : (Int × (List zw)) => z1l p0 p1 p2 p3 v3 s1_9 s.1 s.2) (z9l p0 p1 p2 p3 v3 s1_9) (s24_11, s24_17) x := by
 unfold z2b at h
 refine zl h (fun h2701 g1 => ?_) (fun h2701 g1 => ?_)
 ·refine zk g1 (fun v2702 h2703 g2 => ?_)
  refine zk g2 (fun v2704 h2705 g3 => ?_)
  refine zk g3 (fun v2706 h2707 g4 => ?_)
  exact zqn ((w64 (s24_11 + 1)), v2706.2) [9] [(73, 7, 3, .q (xi (p0.Deliveries.1.length : Int))), (73, 7, 4, .q (xb true)), (73, 9, 3, .q (.d (.pin (zh v2702))))] [(73, 1000010, (.nor, zzd p0 p1 p2 p3 v3 s1_9 s24_11 s24_17 v2702 v2704)), (73, 2000053, (.nor, zDd p0 p1 p2 p3 v3 s1_9 s24_11 s24_17 v2702 v2704 v2706))] g4 (ob (zx zh p0.Deliveries.1) (ob (o_b h2701) (ob (o_ia (e := zh) 5 h2703 rfl) (ob (zxl k p0 p1 p2 p3 v3 s1_9 s24_11 s24_17 v2702 _ h2705) (ob (zLl k p0 p1 p2 p3 v3 s1_9 s24_11 s24_17 v2702 v2704 _ h2707) (ob (zgc true 6 zA v2706.2 true) ob0)))))) (by kernel_rfl)
 ·exact zqo [(73, 7, 3, .q (xi (p0.Deliveries.1.length : Int))), (73, 7, 4, .q (xb false))] [] g1 (ob (zx zh p0.Deliveries.1) (ob (o_b h2701) ob0)) (by kernel_rfl)
noncomputable def zmD (p0 : za) (p1 : Int) (p2 : (SL Int)) (p3 : Int) (s29_19 : zt10) (s1_9 : Int) (v2402 : zt11) (s29_13 : Int) (r : Bool) : TM := [(0, (.d (.agg (zb p0)))), (1, (xi p1)), (2, (.d (dl eI p2.1 p2.2))), (3, (xi p3)), (zsp 4), (8, (.d (.sl [] .nil))), (9, (.row 0 9 s29_19.length)), (zsp 10), (11, (xi s1_9)), (27, (xb true)), (12, (xi v2402.1)), (34, (xb false)), (14, (xi s29_13)), (65, (xb true)), (zsp 15), (82, (xb r))]
noncomputable def zmc (p0 : za) (p1 : Int) (p2 : (SL Int)) (p3 : Int) (v3 : zj) (s1_9 : Int) (v2402 : zt11) (s29_13 : Int) (s29_19 : zt10) (v3202 : zH) (r : Bool) : St := ⟨(zmD p0 p1 p2 p3 s29_19 s1_9 v2402 s29_13 r), ⟨[(zc 4 (zb p0)), (9, (rowO true 6 zA s29_19 true)), (10, (.cells [(xi v3.Low), (xi v3.High)])), (zc 15 (zo v3202))], []⟩, []⟩
noncomputable def zgx (p0 : za) (p1 : Int) (p2 : (SL Int)) (p3 : Int) (s29_19 : zt10) (s1_9 : Int) (v2402 : zt11) (s29_13 : Int) : TM := [(0, (.d (.agg (zb p0)))), (1, (xi p1)), (2, (.d (dl eI p2.1 p2.2))), (3, (xi p3)), (zsp 4), (8, (.d (.sl [] .nil))), (9, (.row 0 9 s29_19.length)), (zsp 10), (11, (xi s1_9)), (27, (xb true)), (12, (xi v2402.1)), (34, (xb false)), (14, (xi s29_13)), (65, (xb true)), (zsp 15)]
theorem zwh (k : Nat) (p0 : za) (p1 : Int) (p2 : (SL Int)) (p3 : Int) (v3 : zj) (s1_9 : Int) (v2402 : zt11) (s29_13 : Int) (s29_19 : zt10) (v3202 : zH) (r : Bool) (h : z7d k p0 p1 p2 p3 v3 s1_9 v2402 s29_13 s29_19 v3202 = some r) : ev TE 73 (rgn TE 73 16) ⟨(zgx p0 p1 p2 p3 s29_19 s1_9 v2402 s29_13), ⟨[(zc 4 (zb p0)), (9, (rowO true 6 zA s29_19 true)), (10, (.cells [(xi v3.Low), (xi v3.High)])), (zc 15 (zo v3202))], []⟩, []⟩ = some (.nor, zmc p0 p1 p2 p3 v3 s1_9 v2402 s29_13 s29_19 v3202 r) := by
 unfold z7d at h
 refine zl h (fun h3301 g1 => ?_) (fun h3301 g1 => ?_)
 ·exact zB (g := fun r => (Ex.nor, zmc p0 p1 p2 p3 v3 s1_9 v2402 s29_13 s29_19 v3202 r)) g1 (zqe [(73, 16, 4, .q (xb true))] [] (ob (o_b h3301) ob0) (by kernel_rfl))
 ·exact zB (g := fun r => (Ex.nor, zmc p0 p1 p2 p3 v3 s1_9 v2402 s29_13 s29_19 v3202 r)) g1 (zqe [(73, 16, 4, .q (xb false))] [] (ob (o_b h3301) ob0) (by kernel_rfl))
noncomputable def zCd (p0 : za) (p1 : Int) (p2 : (SL Int)) (p3 : Int) (v3 : zj) (s1_9 : Int) (v2402 : zt11) (s29_13 : Int) (s29_19 : zt10) (v3202 : zH) (cb : Bool) (r : (Bool × Int × Int)) : St := ⟨(zgx p0 p1 p2 p3 s29_19 s1_9 v2402 s29_13 ++ [(82, (xb false)), (zsp 16), (87, (xb r.1))]), ⟨[(zc 4 (zb p0)), (9, (rowO true 6 zA s29_19 true)), (10, (.cells [(xi v3.Low), (xi v3.High)])), (zc 15 (zo v3202)), (16, (.cells [(xi r.2.1), (xi r.2.2)]))], []⟩, []⟩
theorem zGl (k : Nat) (p0 : za) (p1 : Int) (p2 : (SL Int)) (p3 : Int) (v3 : zj) (s1_9 : Int) (v2402 : zt11) (s29_13 : Int) (s29_19 : zt10) (v3202 : zH) (cb : Bool) (r : (Bool × Int × Int)) (h : zOc k p0 p1 p2 p3 v3 s1_9 v2402 s29_13 s29_19 v3202 cb = some r) : ev TE 73 (cnd TE 73 87) ⟨(zgx p0 p1 p2 p3 s29_19 s1_9 v2402 s29_13 ++ [(82, (xb false)), (zsp 16), (87, (xb cb))]), ⟨[(zc 4 (zb p0)), (9, (rowO true 6 zA s29_19 true)), (10, (.cells [(xi v3.Low), (xi v3.High)])), (zc 15 (zo v3202)), (16, (.cells [(xi v3202.By.Low), (xi v3202.By.High)]))], []⟩, []⟩ = some (.nor, zCd p0 p1 p2 p3 v3 s1_9 v2402 s29_13 s29_19 v3202 cb r) := by
 unfold zOc at h
 refine zl h (fun h3401 g1 => ?_) (fun h3401 g1 => ?_)
 ·subst h3401
  refine zk g1 (fun v3402 h3403 g2 => ?_)
  exact zB (g := fun r => (Ex.nor, zCd p0 p1 p2 p3 v3 s1_9 v2402 s29_13 s29_19 v3202 true r)) g2 (zqe [(73, 19, 6, .c (.agg [(di v3402.Low), (di v3402.High)]))] [] (ob (zQ k (w64 (0 - v3202.By.High)) (w64 (0 - v3202.By.Low)) _ h3403) ob0) (by kernel_rfl))
 ·subst h3401
  exact zB (g := fun r => (Ex.nor, zCd p0 p1 p2 p3 v3 s1_9 v2402 s29_13 s29_19 v3202 false r)) g1 (zqe [] [] ob0 (by kernel_rfl))
noncomputable def zIC (p0 : za) (p1 : Int) (p2 : (SL Int)) (p3 : Int) (s29_19 : zt10) (s1_9 : Int) (v2402 : zt11) (s29_13 : Int) : TM := [(0, (.d (.agg (zb p0)))), (1, (xi p1)), (2, (.d (dl eI p2.1 p2.2))), (3, (xi p3)), (zsp 4), (8, (.d (.sl [] .nil))), (9, (.row 0 9 s29_19.length)), (zsp 10), (11, (xi s1_9)), (27, (xb true)), (12, (xi v2402.1)), (34, (xb false)), (14, (xi s29_13))]
noncomputable def zZl (p0 : za) (p1 : Int) (p2 : (SL Int)) (p3 : Int) (v3 : zj) (s1_9 : Int) (v2402 : zt11) (s29_13 : Int) (s29_19 : zt10) : St := ⟨(zIC p0 p1 p2 p3 s29_19 s1_9 v2402 s29_13), ⟨[(zc 4 (zb p0)), (9, (rowO true 6 zA s29_19 true)), (10, (.cells [(xi v3.Low), (xi v3.High)]))], []⟩, []⟩
noncomputable def zLC (p0 : za) (p1 : Int) (p2 : (SL Int)) (p3 : Int) (r : zt11) (s1_9 : Int) (v2402 : zt11) : TM := [(0, (.d (.agg (zb p0)))), (1, (xi p1)), (2, (.d (dl eI p2.1 p2.2))), (3, (xi p3)), (zsp 4), (8, (.d (.sl [] .nil))), (9, (.row 0 9 r.2.length)), (zsp 10), (11, (xi s1_9)), (27, (xb true)), (12, (xi v2402.1)), (34, (xb false)), (14, (xi r.1)), (65, (xb false))]
noncomputable def zOe (p0 : za) (p1 : Int) (p2 : (SL Int)) (p3 : Int) (v3 : zj) (s1_9 : Int) (v2402 r : zt11) : St := ⟨(zLC p0 p1 p2 p3 r s1_9 v2402), ⟨[(zc 4 (zb p0)), (9, (rowO true 6 zA r.2 true)), (10, (.cells [(xi v3.Low), (xi v3.High)]))], []⟩, []⟩
noncomputable def zUl (p0 : za) (p1 : Int) (p2 : (SL Int)) (p3 : Int) (v3 : zj) (s1_9 : Int) (v2402 : zt11) : (Int × (List zw)) → Ex × St := fun r => ((.exit 4), zOe p0 p1 p2 p3 v3 s1_9 v2402 r)
theorem zPl (k : Nat) (p0 : za) (p1 : Int) (p2 : (SL Int)) (p3 : Int) (v3 : zj) (s1_9 : Int) (v2402 : zt11) (s29_13 : Int) (s29_19 : zt10) (x : (Int × (List zw)) ⊕ (Int × (List zw))) (h : z3b k p0 p1 p2 p3 v3 s1_9 v2402 s29_13 s29_19 = some x) : zO TE 73 (blk TE 73 4) (fun s : (Int × (List zw)) => zZl p0 p1 p2 p3 v3 s1_9 v2402 s.1 s.2) (zUl p0 p1 p2 p3 v3 s1_9 v2402) (s29_13, s29_19) x := by
 unfold z3b at h
 refine zl h (fun h3201 g1 => ?_) (fun h3201 g1 => ?_)
 ·refine zk g1 (fun v3202 h3203 g2 => ?_)
  refine zk g2 (fun v3204 h3205 g3 => ?_)
  refine zl g3 (fun h3206 g4 => ?_) (fun h3206 g4 => ?_)
  ·subst h3206
   exact zqn ((w64 (s29_13 + 1)), s29_19) [9] [(73, 13, 3, .q (xi (p0.Moves.1.length : Int))), (73, 13, 4, .q (xb true)), (73, 15, 3, .q (.d (.pin (zo v3202))))] [(73, 1000016, (.nor, zmc p0 p1 p2 p3 v3 s1_9 v2402 s29_13 s29_19 v3202 true))] g4 (ob (zx zo p0.Moves.1) (ob (o_b h3201) (ob (o_ia (e := zo) 5 h3203 rfl) (ob (zwh k p0 p1 p2 p3 v3 s1_9 v2402 s29_13 s29_19 v3202 _ h3205) (ob (zgc true 6 zA s29_19 true) ob0))))) (by kernel_rfl)
  ·subst h3206
   refine zk g4 (fun v3207 h3208 g5 => ?_)
   refine zT g5 (fun h3209 g6 => ?_)
   exact zqn ((w64 (s29_13 + 1)), (s29_19 ++ [(⟨(⟨v3207.2.1, v3207.2.2⟩ : zj), v3, s29_13, (-1)⟩ : zw)])) [9] [(73, 13, 3, .q (xi (p0.Moves.1.length : Int))), (73, 13, 4, .q (xb true)), (73, 15, 3, .q (.d (.pin (zo v3202)))), (73, 20, 6, .ap (s29_19 ++ [(⟨(⟨v3207.2.1, v3207.2.2⟩ : zj), v3, s29_13, (-1)⟩ : zw)]).length (rowO true 6 zA (s29_19 ++ [(⟨(⟨v3207.2.1, v3207.2.2⟩ : zj), v3, s29_13, (-1)⟩ : zw)]) true))] [(73, 1000016, (.nor, zmc p0 p1 p2 p3 v3 s1_9 v2402 s29_13 s29_19 v3202 false)), (73, 2000087, (.nor, zCd p0 p1 p2 p3 v3 s1_9 v2402 s29_13 s29_19 v3202 (!v3202.Back) v3207))] g6 (ob (zx zo p0.Moves.1) (ob (o_b h3201) (ob (o_ia (e := zo) 5 h3203 rfl) (ob (zwh k p0 p1 p2 p3 v3 s1_9 v2402 s29_13 s29_19 v3202 _ h3205) (ob (zGl k p0 p1 p2 p3 v3 s1_9 v2402 s29_13 s29_19 v3202 (!v3202.Back) _ h3208) (ob (o_ap (b := true) (z := 6) (e := zA) (l := s29_19) (w := true) (⟨(⟨v3207.2.1, v3207.2.2⟩ : zj), v3, s29_13, (-1)⟩ : zw) (fun _ => rfl) h3209) (ob (zgc true 6 zA (s29_19 ++ [(⟨(⟨v3207.2.1, v3207.2.2⟩ : zj), v3, s29_13, (-1)⟩ : zw)]) true) ob0))))))) (by kernel_rfl)
 ·exact zqo [(73, 13, 3, .q (xi (p0.Moves.1.length : Int))), (73, 13, 4, .q (xb false))] [] g1 (ob (zx zo p0.Moves.1) (ob (o_b h3201) ob0)) (by kernel_rfl)
noncomputable def zfD (p0 : za) (p1 : Int) (p2 : (SL Int)) (p3 : Int) (s1_15 : zt10) (s1_9 : Int) : TM := [(0, (.d (.agg (zb p0)))), (1, (xi p1)), (2, (.d (dl eI p2.1 p2.2))), (3, (xi p3)), (zsp 4), (8, (.d (.sl [] .nil))), (9, (.row 0 9 s1_15.length)), (zsp 10), (11, (xi s1_9))]
noncomputable def zWm (p0 : za) (p1 : Int) (p2 : (SL Int)) (p3 : Int) (v3 : zj) (s1_9 : Int) (s1_15 : zt10) : St := ⟨(zfD p0 p1 p2 p3 s1_15 s1_9), ⟨[(zc 4 (zb p0)), (9, (rowO true 6 zA s1_15 true)), (10, (.cells [(xi v3.Low), (xi v3.High)]))], []⟩, []⟩
noncomputable def zmC (p0 : za) (p1 : Int) (p2 : (SL Int)) (p3 : Int) (r : zt11) : TM := [(0, (.d (.agg (zb p0)))), (1, (xi p1)), (2, (.d (dl eI p2.1 p2.2))), (3, (xi p3)), (zsp 4), (8, (.d (.sl [] .nil))), (9, (.row 0 9 r.2.length)), (zsp 10), (11, (xi r.1)), (27, (xb false))]
noncomputable def zef (p0 : za) (p1 : Int) (p2 : (SL Int)) (p3 : Int) (v3 : zj) (r : zt11) : St := ⟨(zmC p0 p1 p2 p3 r), ⟨[(zc 4 (zb p0)), (9, (rowO true 6 zA r.2 true)), (10, (.cells [(xi v3.Low), (xi v3.High)]))], []⟩, []⟩
noncomputable def zAm (p0 : za) (p1 : Int) (p2 : (SL Int)) (p3 : Int) (v3 : zj) : (Int × (List zw)) → Ex × St := fun r => ((.exit 0), zef p0 p1 p2 p3 v3 r)
theorem zXl (k : Nat) (p0 : za) (p1 : Int) (p2 : (SL Int)) (p3 : Int) (v3 : zj) (s1_9 : Int) (s1_15 : zt10) (x : (Int × (List zw)) ⊕ (Int × (List zw))) (h : z7c k p0 p1 p2 p3 v3 s1_9 s1_15 = some x) : zO TE 73 (blk TE 73 0) (fun s : (Int × (List zw)) => zWm p0 p1 p2 p3 v3 s.1 s.2) (zAm p0 p1 p2 p3 v3) (s1_9, s1_15) x := by
 unfold z7c at h
 refine zl h (fun h2401 g1 => ?_) (fun h2401 g1 => ?_)
 ·refine zk g1 (fun v2402 h2403 g2 => ?_)
  refine zk g2 (fun v2404 h2405 g3 => ?_)
  refine zk g3 (fun v2406 h2407 g4 => ?_)
  refine zk g4 (fun v2408 h2409 g5 => ?_)
  refine zT g5 (fun h2410 g6 => ?_)
  exact zqn ((w64 (s1_9 + 1)), (v2404.2 ++ [(⟨v2406, v2408, (-1), s1_9⟩ : zw)])) [9] [(73, 4, 3, .q (xb true)), (73, 21, 1, .c (.agg [(di v2406.Low), (di v2406.High)])), (73, 21, 6, .c (.agg [(di v2408.Low), (di v2408.High)])), (73, 21, 10, .ap (v2404.2 ++ [(⟨v2406, v2408, (-1), s1_9⟩ : zw)]).length (rowO true 6 zA (v2404.2 ++ [(⟨v2406, v2408, (-1), s1_9⟩ : zw)]) true))] [(73, 2, (.nor, zTe p0 p1 p2 p3 v3 s1_9 v2402)), (73, 4, (.nor, zOe p0 p1 p2 p3 v3 s1_9 v2402 v2404))] g6 (ob (o_b h2401) (ob (zG (id := 2) (r' := (.nor, zTe p0 p1 p2 p3 v3 s1_9 v2402)) (zfb (zHl k p0 p1 p2 p3 v3 s1_9) k _ _ h2403) rfl) (ob (zG (id := 4) (r' := (.nor, zOe p0 p1 p2 p3 v3 s1_9 v2402 v2404)) (zfb (zPl k p0 p1 p2 p3 v3 s1_9 v2402) k _ _ h2405) rfl) (ob (zQ k 0 0 _ h2407) (ob (zmn k p0 p1 s1_9 p3 _ h2409) (ob (o_ap (b := true) (z := 6) (e := zA) (l := v2404.2) (w := true) (⟨v2406, v2408, (-1), s1_9⟩ : zw) (fun _ => rfl) h2410) (ob (zgc true 6 zA (v2404.2 ++ [(⟨v2406, v2408, (-1), s1_9⟩ : zw)]) true) ob0))))))) (by kernel_rfl)
 ·exact zqo [(73, 4, 3, .q (xb false))] [] g1 (ob (o_b h2401) ob0) (by kernel_rfl)
theorem z9i (k : Nat) (p0 : za) (p1 : Int) (p2 : (SL Int)) (p3 : Int) (r : (SL zw)) (h : z1d k p0 p1 p2 p3 = some r) : zM TE (ev TE) 73 [(.agg (zb p0)), (di p1), (dl eI p2.1 p2.2), (di p3)] = some (zlj r) := by
 unfold z1d at h
 refine zk h (fun v1 h2 g1 => ?_)
 refine zk g1 (fun v3 h4 g2 => ?_)
 refine zk g2 (fun v5 h6 g3 => ?_)
 exact zK (g := zlj) g3 (zqr [(73, 2, 3, .q (.d (.pin (zm v1)))), (73, 2, 6, .c (.agg [(di v3.Low), (di v3.High)]))] [(73, 0, (.nor, zef p0 p1 p2 p3 v3 v5))] [(dl zA v5.2 (rcap true v5.2))] (ob (o_ia (e := zm) 3 h2 rfl) (ob (zQ k 0 v1.Room _ h4) (ob (zG (id := 0) (r' := (.nor, zef p0 p1 p2 p3 v3 v5)) (zfb (zXl k p0 p1 p2 p3 v3) k _ _ h6) rfl) (ob (show zpc ⟨[(9, (rowO true 6 zA v5.2 true))], []⟩ _ = _ from (o_s1 (x := (.row 0 9 v5.2.length)) (zDh true 6 zA v5.2 true rfl) o_s0)) ob0)))) (by kernel_rfl))
noncomputable def zFD (p0 : zj) (p1 : (SL zw)) (s1_8 : zt12) (s1_5 : Int) : TM := [(0, (.d (.agg [(di p0.Low), (di p0.High)]))), (1, (.d (dl zA p1.1 p1.2))), (zsp 2), (4, (.d (.sl [] .nil))), (5, (xb false)), (6, (.row 0 11 s1_8.length)), (7, (xi s1_5))]
noncomputable def zTm (p0 : zj) (p1 : (SL zw)) (s1_5 : Int) (s1_8 : zt12) : St := ⟨(zFD p0 p1 s1_8 s1_5), ⟨[(2, (.cells [(xi p0.Low), (xi p0.High)])), (11, (rowO false 2 zz s1_8 true))], []⟩, []⟩
noncomputable def zwD (p0 : zj) (p1 : (SL zw)) (r : zt17) : TM := [(0, (.d (.agg [(di p0.Low), (di p0.High)]))), (1, (.d (dl zA p1.1 p1.2))), (zsp 2), (4, (.d (.sl [] .nil))), (5, (xb false)), (6, (.row 0 11 r.2.length)), (7, (xi r.1)), (15, (xb false))]
noncomputable def zhc (p0 : zj) (p1 : (SL zw)) (r : zt17) : St := ⟨(zwD p0 p1 r), ⟨[(2, (.cells [(xi p0.Low), (xi p0.High)])), (11, (rowO false 2 zz r.2 true))], []⟩, []⟩
noncomputable def zIm (p0 : zj) (p1 : (SL zw)) : (Int × (List zj)) → Ex × St := fun r => ((.exit 0), zhc p0 p1 r)
theorem z2h (k : Nat) (p0 : zj) (p1 : (SL zw)) (s1_5 : Int) (s1_8 : zt12) (x : (Int × (List zj)) ⊕ (Int × (List zj))) (h : zbc k p0 p1 s1_5 s1_8 = some x) : zO TE 74 (blk TE 74 0) (fun s : (Int × (List zj)) => zTm p0 p1 s.1 s.2) (zIm p0 p1) (s1_5, s1_8) x := by
 unfold zbc at h
 refine zl h (fun h201 g1 => ?_) (fun h201 g1 => ?_)
 ·refine zk g1 (fun v202 h203 g2 => ?_)
  refine zk g2 (fun v204 h205 g3 => ?_)
  refine zk g3 (fun v206 h207 g4 => ?_)
  refine zk g4 (fun v208 h209 g5 => ?_)
  refine zk g5 (fun v210 h211 g6 => ?_)
  refine zk g6 (fun v212 h213 g7 => ?_)
  refine zk g7 (fun v214 h215 g8 => ?_)
  refine zT g8 (fun h216 g9 => ?_)
  exact zqn ((w64 (s1_5 + 1)), (s1_8 ++ [v214])) [11] [(74, 3, 2, .q (xi (p1.1.length : Int))), (74, 3, 3, .q (xb true)), (74, 5, 3, .q (.d (.pin (zA v202)))), (74, 5, 8, .q (.rp 0 11 s1_8.length s1_5.toNat 0)), (74, 5, 9, .q (.rp 0 11 s1_8.length s1_5.toNat 0)), (74, 5, 10, .q (xi v204.Low)), (74, 5, 13, .q (.d (.pin (zA v206)))), (74, 5, 20, .q (.rp 0 11 s1_8.length s1_5.toNat 0)), (74, 5, 21, .q (.rp 0 11 s1_8.length s1_5.toNat 1)), (74, 5, 22, .q (xi v208.High)), (74, 5, 25, .q (.d (.pin (zA v210)))), (74, 5, 30, .c (.agg [(di v212.Low), (di v212.High)])), (74, 5, 31, .c (.agg [(di v214.Low), (di v214.High)])), (74, 5, 33, .ap (s1_8 ++ [v214]).length (rowO false 2 zz (s1_8 ++ [v214]) true))] [] g9 (ob (zx zA p1.1) (ob (o_b h201) (ob (o_ia (e := zA) 6 h203 rfl) (ob (zqa 94 16 0 11 s1_5 false 2 zz s1_8 true (by kernel_rfl) (by kernel_rfl) h205) (ob (zqf 30 (0, 1, false) 0 11 0 0 s1_5 false 2 zz s1_8 true (by kernel_rfl) (by decide) h205) (ob (zql 3 (1, false) 0 11 0 s1_5 (xi v204.Low) false 2 zz s1_8 true (by kernel_rfl) h205 (by kernel_rfl)) (ob (o_ia (e := zA) 6 h207 rfl) (ob (zqa 94 16 0 11 s1_5 false 2 zz s1_8 true (by kernel_rfl) (by kernel_rfl) h209) (ob (zqf 30 (1, 1, false) 0 11 0 1 s1_5 false 2 zz s1_8 true (by kernel_rfl) (by decide) h209) (ob (zql 3 (1, false) 0 11 1 s1_5 (xi v208.High) false 2 zz s1_8 true (by kernel_rfl) h209 (by kernel_rfl)) (ob (o_ia (e := zA) 6 h211 rfl) (ob (zQ k (w64 (v204.Low + v206.by_.Low)) (w64 (v208.High + v210.by_.High)) _ h213) (ob (zig k v202.within v212 _ h215) (ob (o_ap (b := false) (z := 2) (e := zz) (l := s1_8) (w := true) v214 (fun _ => rfl) h216) (ob (zgc false 2 zz (s1_8 ++ [v214]) true) ob0))))))))))))))) (by kernel_rfl)
 ·exact zqo [(74, 3, 2, .q (xi (p1.1.length : Int))), (74, 3, 3, .q (xb false))] [] g1 (ob (zx zA p1.1) (ob (o_b h201) ob0)) (by kernel_rfl)
noncomputable def zND (p0 : zj) (p1 : (SL zw)) (s2_10 : zt12) (v1 : zt17) (s2_7 : Int) : TM := [(0, (.d (.agg [(di p0.Low), (di p0.High)]))), (1, (.d (dl zA p1.1 p1.2))), (zsp 2), (4, (.d (.sl [] .nil))), (5, (xb false)), (6, (.row 0 11 s2_10.length)), (7, (xi v1.1)), (15, (xb false)), (8, (xi s2_7))]
noncomputable def zEm (p0 : zj) (p1 : (SL zw)) (v1 : zt17) (s2_7 : Int) (s2_10 : zt12) : St := ⟨(zND p0 p1 s2_10 v1 s2_7), ⟨[(2, (.cells [(xi p0.Low), (xi p0.High)])), (11, (rowO false 2 zz s2_10 true))], []⟩, []⟩
noncomputable def z7B (p0 : zj) (p1 : (SL zw)) (r v1 : zt17) : TM := [(0, (.d (.agg [(di p0.Low), (di p0.High)]))), (1, (.d (dl zA p1.1 p1.2))), (zsp 2), (4, (.d (.sl [] .nil))), (5, (xb false)), (6, (.row 0 11 r.2.length)), (7, (xi v1.1)), (15, (xb false)), (8, (xi r.1)), (55, (xb true)), (68, (xb true))]
noncomputable def zgf (p0 : zj) (p1 : (SL zw)) (v1 r : zt17) : St := ⟨(z7B p0 p1 r v1), ⟨[(2, (.cells [(xi p0.Low), (xi p0.High)])), (11, (rowO false 2 zz r.2 true))], []⟩, []⟩
noncomputable def zFC (p0 : zj) (p1 : (SL zw)) (r v1 : zt17) : TM := [(0, (.d (.agg [(di p0.Low), (di p0.High)]))), (1, (.d (dl zA p1.1 p1.2))), (zsp 2), (4, (.d (.sl [] .nil))), (5, (xb false)), (6, (.row 0 11 r.2.length)), (7, (xi v1.1)), (15, (xb false)), (8, (xi r.1)), (55, (xb false))]
noncomputable def zhf (p0 : zj) (p1 : (SL zw)) (v1 r : zt17) : St := ⟨(zFC p0 p1 r v1), ⟨[(2, (.cells [(xi p0.Low), (xi p0.High)])), (11, (rowO false 2 zz r.2 true))], []⟩, []⟩
noncomputable def zSm (p0 : zj) (p1 : (SL zw)) (v1 : zt17) : ((Int × (List zj)) ⊕ (Int × (List zj))) → Ex × St := Sum.elim (fun r => (.ret, zgf p0 p1 v1 r)) (fun r => ((.exit 2), zhf p0 p1 v1 r))
theorem z0h (k : Nat) (p0 : zj) (p1 : (SL zw)) (v1 : zt17) (s2_7 : Int) (s2_10 : zt12) (x : (Int × (List zj)) ⊕ ((Int × (List zj)) ⊕ (Int × (List zj)))) (h : zac k p0 p1 v1 s2_7 s2_10 = some x) : zO TE 74 (blk TE 74 2) (fun s : (Int × (List zj)) => zEm p0 p1 v1 s.1 s.2) (zSm p0 p1 v1) (s2_7, s2_10) x := by
 unfold zac at h
 refine zl h (fun h401 g1 => ?_) (fun h401 g1 => ?_)
 ·refine zk g1 (fun v402 h403 g2 => ?_)
  refine zk g2 (fun v404 h405 g3 => ?_)
  refine zl g3 (fun h406 g4 => ?_) (fun h406 g4 => ?_)
  ·exact zqo [(74, 7, 1, .q (xb true)), (74, 9, 2, .q (.rp 0 11 s2_10.length s2_7.toNat 0)), (74, 9, 3, .q (.rp 0 11 s2_10.length s2_7.toNat 0)), (74, 9, 4, .q (xi v402.Low)), (74, 9, 7, .q (.rp 0 11 s2_10.length s2_7.toNat 0)), (74, 9, 8, .q (.rp 0 11 s2_10.length s2_7.toNat 1)), (74, 9, 9, .q (xi v404.High)), (74, 9, 10, .q (xb true))] [] g4 (ob (o_b h401) (ob (zqa 94 16 0 11 s2_7 false 2 zz s2_10 true (by kernel_rfl) (by kernel_rfl) h403) (ob (zqf 30 (0, 1, false) 0 11 0 0 s2_7 false 2 zz s2_10 true (by kernel_rfl) (by decide) h403) (ob (zql 3 (1, false) 0 11 0 s2_7 (xi v402.Low) false 2 zz s2_10 true (by kernel_rfl) h403 (by kernel_rfl)) (ob (zqa 94 16 0 11 s2_7 false 2 zz s2_10 true (by kernel_rfl) (by kernel_rfl) h405) (ob (zqf 30 (1, 1, false) 0 11 0 1 s2_7 false 2 zz s2_10 true (by kernel_rfl) (by decide) h405) (ob (zql 3 (1, false) 0 11 1 s2_7 (xi v404.High) false 2 zz s2_10 true (by kernel_rfl) h405 (by kernel_rfl)) (ob (o_b h406) ob0)))))))) (by kernel_rfl)
  ·refine zl g4 (fun h407 g5 => ?_) (fun h407 g5 => ?_)
   ·refine zk g5 (fun v408 h409 g6 => ?_)
    refine zk g6 (fun v410 h411 g7 => ?_)
    refine zk g7 (fun v412 h413 g8 => ?_)
    refine zk g8 (fun v414 h415 g9 => ?_)
    refine zk g9 (fun v416 h417 g10 => ?_)
    refine zk g10 (fun v418 h419 g11 => ?_)
    refine zk g11 (fun v420 h421 g12 => ?_)
    exact zqn ((w64 (s2_7 - 1)), (s2_10.set (w64 (s2_7 - 1)).toNat v418)) [11] [(74, 7, 1, .q (xb true)), (74, 9, 2, .q (.rp 0 11 s2_10.length s2_7.toNat 0)), (74, 9, 3, .q (.rp 0 11 s2_10.length s2_7.toNat 0)), (74, 9, 4, .q (xi v402.Low)), (74, 9, 7, .q (.rp 0 11 s2_10.length s2_7.toNat 0)), (74, 9, 8, .q (.rp 0 11 s2_10.length s2_7.toNat 1)), (74, 9, 9, .q (xi v404.High)), (74, 9, 10, .q (xb false)), (74, 11, 1, .q (xb true)), (74, 12, 3, .q (.d (.pin (zA v408)))), (74, 13, 6, .q (.rp 0 11 s2_10.length (w64 (s2_7 - 1)).toNat 0)), (74, 13, 7, .q (.d (.agg [(di v410.Low), (di v410.High)]))), (74, 13, 10, .q (.rp 0 11 s2_10.length s2_7.toNat 0)), (74, 13, 11, .q (.rp 0 11 s2_10.length s2_7.toNat 0)), (74, 13, 12, .q (xi v412.Low)), (74, 13, 18, .q (.rp 0 11 s2_10.length s2_7.toNat 0)), (74, 13, 19, .q (.rp 0 11 s2_10.length s2_7.toNat 1)), (74, 13, 20, .q (xi v414.High)), (74, 13, 24, .c (.agg [(di v416.Low), (di v416.High)])), (74, 13, 25, .c (.agg [(di v418.Low), (di v418.High)])), (74, 13, 26, .q (.rp 0 11 s2_10.length (w64 (s2_7 - 1)).toNat 0)), (74, 13, 27, .rs (rowO false 2 zz (s2_10.set (w64 (s2_7 - 1)).toNat v418) true)), (74, 13, 999, .nm [(6, (s2_10.set (w64 (s2_7 - 1)).toNat v418).length)] [])] [] g12 (ob (o_b h401) (ob (zqa 94 16 0 11 s2_7 false 2 zz s2_10 true (by kernel_rfl) (by kernel_rfl) h403) (ob (zqf 30 (0, 1, false) 0 11 0 0 s2_7 false 2 zz s2_10 true (by kernel_rfl) (by decide) h403) (ob (zql 3 (1, false) 0 11 0 s2_7 (xi v402.Low) false 2 zz s2_10 true (by kernel_rfl) h403 (by kernel_rfl)) (ob (zqa 94 16 0 11 s2_7 false 2 zz s2_10 true (by kernel_rfl) (by kernel_rfl) h405) (ob (zqf 30 (1, 1, false) 0 11 0 1 s2_7 false 2 zz s2_10 true (by kernel_rfl) (by decide) h405) (ob (zql 3 (1, false) 0 11 1 s2_7 (xi v404.High) false 2 zz s2_10 true (by kernel_rfl) h405 (by kernel_rfl)) (ob (o_b h406) (ob (o_b h407) (ob (o_ia (e := zA) 6 h409 rfl) (ob (zqa 94 16 0 11 (w64 (s2_7 - 1)) false 2 zz s2_10 true (by kernel_rfl) (by kernel_rfl) h411) (ob (zql 30 (2, true) 0 11 0 (w64 (s2_7 - 1)) (.d (.agg [(di v410.Low), (di v410.High)])) false 2 zz s2_10 true (by kernel_rfl) h411 (by kernel_rfl)) (ob (zqa 94 16 0 11 s2_7 false 2 zz s2_10 true (by kernel_rfl) (by kernel_rfl) h413) (ob (zqf 30 (0, 1, false) 0 11 0 0 s2_7 false 2 zz s2_10 true (by kernel_rfl) (by decide) h413) (ob (zql 3 (1, false) 0 11 0 s2_7 (xi v412.Low) false 2 zz s2_10 true (by kernel_rfl) h413 (by kernel_rfl)) (ob (zqa 94 16 0 11 s2_7 false 2 zz s2_10 true (by kernel_rfl) (by kernel_rfl) h415) (ob (zqf 30 (1, 1, false) 0 11 0 1 s2_7 false 2 zz s2_10 true (by kernel_rfl) (by decide) h415) (ob (zql 3 (1, false) 0 11 1 s2_7 (xi v414.High) false 2 zz s2_10 true (by kernel_rfl) h415 (by kernel_rfl)) (ob (zQ k (w64 (v412.Low - v408.by_.High)) (w64 (v414.High - v408.by_.Low)) _ h417) (ob (zig k v410 v416 _ h419) (ob (zqa 94 16 0 11 (w64 (s2_7 - 1)) false 2 zz s2_10 true (by kernel_rfl) (by kernel_rfl) h421) (ob (o_rs (b := false) (z := 2) (e := zz) (l := s2_10) (o := 0) (n := 2) (ds := [(di v418.Low), (di v418.High)]) (i := (w64 (s2_7 - 1))) (y' := v418) h421 (Nat.le_of_ble_eq_true rfl) rfl) (ob (show s2_10.length = (s2_10.set (w64 (s2_7 - 1)).toNat v418).length by simp) (ob (zgc false 2 zz (s2_10.set (w64 (s2_7 - 1)).toNat v418) true) ob0)))))))))))))))))))))))) (by kernel_rfl)
   ·exact zqn ((w64 (s2_7 - 1)), s2_10) [11] [(74, 7, 1, .q (xb true)), (74, 9, 2, .q (.rp 0 11 s2_10.length s2_7.toNat 0)), (74, 9, 3, .q (.rp 0 11 s2_10.length s2_7.toNat 0)), (74, 9, 4, .q (xi v402.Low)), (74, 9, 7, .q (.rp 0 11 s2_10.length s2_7.toNat 0)), (74, 9, 8, .q (.rp 0 11 s2_10.length s2_7.toNat 1)), (74, 9, 9, .q (xi v404.High)), (74, 9, 10, .q (xb false)), (74, 11, 1, .q (xb false))] [] g5 (ob (o_b h401) (ob (zqa 94 16 0 11 s2_7 false 2 zz s2_10 true (by kernel_rfl) (by kernel_rfl) h403) (ob (zqf 30 (0, 1, false) 0 11 0 0 s2_7 false 2 zz s2_10 true (by kernel_rfl) (by decide) h403) (ob (zql 3 (1, false) 0 11 0 s2_7 (xi v402.Low) false 2 zz s2_10 true (by kernel_rfl) h403 (by kernel_rfl)) (ob (zqa 94 16 0 11 s2_7 false 2 zz s2_10 true (by kernel_rfl) (by kernel_rfl) h405) (ob (zqf 30 (1, 1, false) 0 11 0 1 s2_7 false 2 zz s2_10 true (by kernel_rfl) (by decide) h405) (ob (zql 3 (1, false) 0 11 1 s2_7 (xi v404.High) false 2 zz s2_10 true (by kernel_rfl) h405 (by kernel_rfl)) (ob (o_b h406) (ob (o_b h407) (ob (zgc false 2 zz s2_10 true) ob0)))))))))) (by kernel_rfl)
 ·exact zqo [(74, 7, 1, .q (xb false))] [] g1 (ob (o_b h401) ob0) (by kernel_rfl)
theorem z6i (k : Nat) (p0 : zj) (p1 : (SL zw)) (r : ((SL zj) × Bool)) (h : z8d k p0 p1 = some r) : zM TE (ev TE) 74 [(.agg [(di p0.Low), (di p0.High)]), (dl zA p1.1 p1.2)] = some (zFg r) := by
 unfold z8d at h
 refine zk h (fun v1 h2 g1 => ?_)
 refine zk g1 (fun v3 h4 g2 => ?_)
 refine zwd g2 (fun v6 hh g3_0 => ?_) (fun v6 hh g3_0 => ?_)
 ·subst hh
  exact zK (g := zFg) g3_0 (zqc [(74, 6, 1, .q (xi (p1.1.length : Int)))] [(74, 0, (.nor, zhc p0 p1 v1)), (74, 2, (.ret, zgf p0 p1 v1 v6))] (ob (zG (id := 0) (r' := (.nor, zhc p0 p1 v1)) (zfb (z2h k p0 p1) k _ _ h2) rfl) (ob (zx zA p1.1) (ob (zG (id := 2) (r' := (.ret, zgf p0 p1 v1 v6)) (zfb (z0h k p0 p1 v1) k _ _ h4) rfl) ob0))) (by kernel_rfl))
 ·subst hh
  exact zK (g := zFg) g3_0 (zqr [(74, 6, 1, .q (xi (p1.1.length : Int)))] [(74, 0, (.nor, zhc p0 p1 v1)), (74, 2, (.nor, zhf p0 p1 v1 v6))] [(dl zz v6.2 (rcap false v6.2)), (db true)] (ob (zG (id := 0) (r' := (.nor, zhc p0 p1 v1)) (zfb (z2h k p0 p1) k _ _ h2) rfl) (ob (zx zA p1.1) (ob (zG (id := 2) (r' := (.nor, zhf p0 p1 v1 v6)) (zfb (z0h k p0 p1 v1) k _ _ h4) rfl) (ob (show zpc ⟨[(11, (rowO false 2 zz v6.2 true))], []⟩ _ = _ from (o_s1 (x := (.row 0 11 v6.2.length)) (zDh false 2 zz v6.2 true rfl) (o_s1 (x := (xb true)) rfl o_s0))) ob0)))) (by kernel_rfl))
noncomputable def zHD (p0 : za) (p1 p2 : Int) (v1 : (SL (SL Int))) (s1_15 : (List zq)) (s1_9 : Int) : TM := [(0, (.d (.agg (zb p0)))), (1, (xi p1)), (2, (xi p2)), (zsp 3), (6, (.d (.sl [] .nil))), (7, (.d (dl (eL eI) v1.1 v1.2))), (8, (.row 0 8 s1_15.length)), (9, (xi s1_9))]
end Go.AM

