/- The statement ShelfPasts holds for every input that its row lets in. Conditions: none. -/
import Derived.Test.YtfoohlabifhplaaDoorC
set_option linter.all false
set_option linter.unusedVariables false
set_option maxRecDepth 100000
namespace Go.AM
open Go Go.Proofs
def zsp (n : Nat) : Nat × X := (n, .ptr 0 n 0)
def zc (n : Nat) (l : List D) : Nat × O := (n, .cells (l.map .d))
section
variable {E : Env} {fid : Nat} {c : Code}
theorem zqn {S R : Type} {S0 : S → St} {R0 : R → Ex × St} {s : S} {x : S ⊕ R} (s' : S) (rs : List Nat) (V : Ovs) (C : Cuts) (h : some (Sum.inl s') = some x) {P : List Prop} (hP : All P) (hr : zZk E V C rs 80 fid c (S0 s) = some (.inl (S0 s'), P)) : zQ E fid c S0 R0 s x := zoA h hP hr
theorem zqo {S R : Type} {S0 : S → St} {R0 : R → Ex × St} {s : S} {r : R} {x : S ⊕ R} (V : Ovs) (C : Cuts) (h : some (Sum.inr r) = some x) {P : List Prop} (hP : All P) (hr : zZk E V C [] 80 fid c (S0 s) = some (.inr (R0 r), P)) : zQ E fid c S0 R0 s x := zxA h hP hr
theorem ztc {A0 R : Type} {S0 : A0 → St} {R0 : R → Ex × St} {W : A0 → Option ((A0) ⊕ R)} (h : ∀ b0 x, W b0 = some x → zQ E fid c S0 R0 b0 x) : ∀ (m : Nat) (s : A0) (r : R), iter (fun s => W s) m s = some r → ev E fid c (S0 s) = some (R0 r) := zBk fun s x e => h s x e
theorem zib {A0 A1 R : Type} {S0 : A0 × A1 → St} {R0 : R → Ex × St} {W : A0 → A1 → Option ((A0 × A1) ⊕ R)} (h : ∀ b0 b1 x, W b0 b1 = some x → zQ E fid c S0 R0 (b0, b1) x) : ∀ (m : Nat) (s : A0 × A1) (r : R), iter (fun s => W s.1 s.2) m s = some r → ev E fid c (S0 s) = some (R0 r) := zBk fun s x e => h s.1 s.2 x e
theorem zHA {A0 A1 A2 R : Type} {S0 : A0 × A1 × A2 → St} {R0 : R → Ex × St} {W : A0 → A1 → A2 → Option ((A0 × A1 × A2) ⊕ R)} (h : ∀ b0 b1 b2 x, W b0 b1 b2 = some x → zQ E fid c S0 R0 (b0, b1, b2) x) : ∀ (m : Nat) (s : A0 × A1 × A2) (r : R), iter (fun s => W s.1 s.2.1 s.2.2) m s = some r → ev E fid c (S0 s) = some (R0 r) := zBk fun s x e => h s.1 s.2.1 s.2.2 x e
theorem zLA {A0 A1 A2 A3 R : Type} {S0 : A0 × A1 × A2 × A3 → St} {R0 : R → Ex × St} {W : A0 → A1 → A2 → A3 → Option ((A0 × A1 × A2 × A3) ⊕ R)} (h : ∀ b0 b1 b2 b3 x, W b0 b1 b2 b3 = some x → zQ E fid c S0 R0 (b0, b1, b2, b3) x) : ∀ (m : Nat) (s : A0 × A1 × A2 × A3) (r : R), iter (fun s => W s.1 s.2.1 s.2.2.1 s.2.2.2) m s = some r → ev E fid c (S0 s) = some (R0 r) := zBk fun s x e => h s.1 s.2.1 s.2.2.1 s.2.2.2 x e
theorem ziE {A0 A1 A2 A3 A4 R : Type} {S0 : A0 × A1 × A2 × A3 × A4 → St} {R0 : R → Ex × St} {W : A0 → A1 → A2 → A3 → A4 → Option ((A0 × A1 × A2 × A3 × A4) ⊕ R)} (h : ∀ b0 b1 b2 b3 b4 x, W b0 b1 b2 b3 b4 = some x → zQ E fid c S0 R0 (b0, b1, b2, b3, b4) x) : ∀ (m : Nat) (s : A0 × A1 × A2 × A3 × A4) (r : R), iter (fun s => W s.1 s.2.1 s.2.2.1 s.2.2.2.1 s.2.2.2.2) m s = some r → ev E fid c (S0 s) = some (R0 r) := zBk fun s x e => h s.1 s.2.1 s.2.2.1 s.2.2.2.1 s.2.2.2.2 x e
theorem zjE {A0 A1 A2 A3 A4 A5 R : Type} {S0 : A0 × A1 × A2 × A3 × A4 × A5 → St} {R0 : R → Ex × St} {W : A0 → A1 → A2 → A3 → A4 → A5 → Option ((A0 × A1 × A2 × A3 × A4 × A5) ⊕ R)} (h : ∀ b0 b1 b2 b3 b4 b5 x, W b0 b1 b2 b3 b4 b5 = some x → zQ E fid c S0 R0 (b0, b1, b2, b3, b4, b5) x) : ∀ (m : Nat) (s : A0 × A1 × A2 × A3 × A4 × A5) (r : R), iter (fun s => W s.1 s.2.1 s.2.2.1 s.2.2.2.1 s.2.2.2.2.1 s.2.2.2.2.2) m s = some r → ev E fid c (S0 s) = some (R0 r) := zBk fun s x e => h s.1 s.2.1 s.2.2.1 s.2.2.2.1 s.2.2.2.2.1 s.2.2.2.2.2 x e
theorem zqe {st : St} {r : Ex × St} {P : List Prop} (V : Ovs) (C : Cuts) (hP : All P) (h : evV E V C 80 fid c st = some (r, P)) : ev E fid c st = some r := zQA hP h
theorem zqc {f : Nat} {ds : List D} {d : D} {P : List Prop} (V : Ovs) (C : Cuts) (hP : All P) (h : zyu E V C 80 f ds = some (d, P)) : zM E (ev E) f ds = some d := zoz hP h
theorem zqr {f : Nat} {ds : List D} {d : D} {P : List Prop} (V : Ovs) (C : Cuts) (res : List D) (hP : All P) (h : zkt E V C 80 f ds res = some (d, P)) : zM E (ev E) f ds = some d := z4x hP h
end
section
variable {α : Type}
theorem zqa (T : TypeId) (bt lv s : Nat) (n : Int) (b : Bool) (z : Nat) (e : α → List D) (l : List α) (w : Bool) {y : α} (ha : arT TE.P T = none) (hs : slT TE.P T = some (z, bt)) (h : idx l n = some y) : iaX TE.P (fun _ _ => some (rowO b z e l w)) T (.row lv s l.length) (xi n) = some (.rp lv s l.length n.toNat 0) := zrC ha hs h
theorem zql (T : TypeId) (q : Nat × Bool) (lv s o : Nat) (n : Int) (x : X) (b : Bool) (z : Nat) (e : α → List D) (l : List α) (w : Bool) {y : α} (ht : tyT TE.P T = some q) (h : idx l n = some y) (hx : (znj q.2 q.1 ((e y).drop o)).map X.d = some x) : ldX TE.P (fun _ _ => some (rowO b z e l w)) T (.rp lv s l.length n.toNat o) = some x := zuC ht h hx
theorem zqf (T : TypeId) (q : Nat × Nat × Bool) (lv s o f : Nat) (n : Int) (b : Bool) (z : Nat) (e : α → List D) (l : List α) (w : Bool) {y : α} (hf : fdT TE.P T f = some q) (hq : q.2.1 ≠ 0) (h : idx l n = some y) : faX TE.P (fun _ _ => some (rowO b z e l w)) T (.rp lv s l.length n.toNat o) f = some (.rp lv s l.length n.toNat (o + q.1)) := zKB hf hq h
end
theorem zH (k : Nat) (p0 p1 p2 : Int) (r : Bool) (h : z8 k p0 p1 p2 = some r) : zM TE (ev TE) 60 [(di p0), (di p1), (di p2)] = some (zFk r) := by
 unfold z8 at h
 refine zn h (fun h1 g1 => ?_) (fun h1 g1 => ?_)
 ·exact zJ (g := zFk) g1 (zqc [(60, 1, 3, .q (xb true))] [] (ob (o_b h1) ob0) (by kernel_rfl))
 ·exact zJ (g := zFk) g1 (zqc [(60, 1, 3, .q (xb false))] [] (ob (o_b h1) ob0) (by kernel_rfl))
theorem zOd (k : Nat) (p0 : za) (p1 p2 : Int) (r : Bool) (h : zHf k p0 p1 p2 = some r) : zM TE (ev TE) 52 [(.agg (zb p0)), (di p1), (di p2)] = some (zvk r) := by
 unfold zHf at h
 refine zk h (fun v1 h2 g1 => ?_)
 refine zn g1 (fun h3 g2 => ?_) (fun h3 g2 => ?_)
 ·refine zk g2 (fun v4 h5 g3 => ?_)
  exact zJ (g := zvk) g3 (zqc [(52, 1, 3, .q (xi (p0.Shelves.1.length : Int))), (52, 1, 5, .c (db v1)), (52, 1, 6, .q (xb true)), (52, 1, 11, .c (db v4))] [] (ob (zy zo p0.Shelves.1) (ob (zH k p1 0 (w64 ((p0.Shelves.1.length : Int) - 1)) _ h2) (ob (o_b h3) (ob (zH k p2 0 (w64 (p0.Days - 1)) _ h5) ob0)))) (by kernel_rfl))
 ·exact zJ (g := zvk) g2 (zqc [(52, 1, 3, .q (xi (p0.Shelves.1.length : Int))), (52, 1, 5, .c (db v1)), (52, 1, 6, .q (xb false))] [] (ob (zy zo p0.Shelves.1) (ob (zH k p1 0 (w64 ((p0.Shelves.1.length : Int) - 1)) _ h2) (ob (o_b h3) ob0))) (by kernel_rfl))
theorem zpg (k : Nat) (p0 : zi) (p1 p2 : Int) (r : Bool) (h : zOe k p0 p1 p2 = some r) : zM TE (ev TE) 61 [(.agg [(di p0.Low), (di p0.High)]), (di p1), (di p2)] = some (zvi r) := by
 unfold zOe at h
 refine zn h (fun h1 g1 => ?_) (fun h1 g1 => ?_)
 ·refine zn g1 (fun h2 g2 => ?_) (fun h2 g2 => ?_)
  ·exact zJ (g := zvi) g2 (zqc [(61, 1, 4, .q (xb true)), (61, 1, 11, .q (xb true))] [] (ob (o_b h1) (ob (o_b h2) ob0)) (by kernel_rfl))
  ·exact zJ (g := zvi) g2 (zqc [(61, 1, 4, .q (xb true)), (61, 1, 11, .q (xb false))] [] (ob (o_b h1) (ob (o_b h2) ob0)) (by kernel_rfl))
 ·exact zJ (g := zvi) g1 (zqc [(61, 1, 4, .q (xb false))] [] (ob (o_b h1) ob0) (by kernel_rfl))
noncomputable def zk1 (p0 : za) (r : Bool) : TM := [(0, (.d (.agg (zb p0)))), (zsp 1), (2, (xi 0)), (3, (xb r))]
noncomputable def zIc (p0 : za) (r : Bool) : St := ⟨(zk1 p0 r), ⟨[(zc 1 (zb p0))], []⟩, []⟩
theorem zem (k : Nat) (p0 : za) (r : Bool) (h : zYg k p0 = some r) : ev TE 18 (rgn TE 18 1) ⟨[(0, (.d (.agg (zb p0)))), (zsp 1), (2, (xi 0))], ⟨[(zc 1 (zb p0))], []⟩, []⟩ = some (.nor, zIc p0 r) := by
 unfold zYg at h
 refine zk h (fun v201 h202 g1 => ?_)
 refine zn g1 (fun h203 g2 => ?_) (fun h203 g2 => ?_)
 ·refine zk g2 (fun v204 h205 g3 => ?_)
  refine zn g3 (fun h206 g4 => ?_) (fun h206 g4 => ?_)
  ·refine zn g4 (fun h207 g5 => ?_) (fun h207 g5 => ?_)
   ·refine zn g5 (fun h208 g6 => ?_) (fun h208 g6 => ?_)
    ·exact zA (g := fun r => (Ex.nor, zIc p0 r)) g6 (zqe [(18, 1, 2, .c (db v201)), (18, 1, 3, .q (xb true)), (18, 1, 6, .q (xi (p0.Shelves.1.length : Int))), (18, 1, 7, .c (db v204)), (18, 1, 9, .q (xb true)), (18, 1, 12, .q (xi (p0.Moves.1.length : Int))), (18, 1, 15, .q (xb true)), (18, 1, 18, .q (xi (p0.Deliveries.1.length : Int))), (18, 1, 21, .q (xb true)), (18, 1, 24, .q (xi (p0.Counts.1.length : Int)))] [] (ob (zH k p0.Days 1 12 _ h202) (ob (o_b h203) (ob (zy zo p0.Shelves.1) (ob (zH k (p0.Shelves.1.length : Int) 1 4 _ h205) (ob (o_b h206) (ob (zy zp p0.Moves.1) (ob (o_b h207) (ob (zy zh p0.Deliveries.1) (ob (o_b h208) (ob (zy zj p0.Counts.1) ob0)))))))))) (by kernel_rfl))
    ·exact zA (g := fun r => (Ex.nor, zIc p0 r)) g6 (zqe [(18, 1, 2, .c (db v201)), (18, 1, 3, .q (xb true)), (18, 1, 6, .q (xi (p0.Shelves.1.length : Int))), (18, 1, 7, .c (db v204)), (18, 1, 9, .q (xb true)), (18, 1, 12, .q (xi (p0.Moves.1.length : Int))), (18, 1, 15, .q (xb true)), (18, 1, 18, .q (xi (p0.Deliveries.1.length : Int))), (18, 1, 21, .q (xb false))] [] (ob (zH k p0.Days 1 12 _ h202) (ob (o_b h203) (ob (zy zo p0.Shelves.1) (ob (zH k (p0.Shelves.1.length : Int) 1 4 _ h205) (ob (o_b h206) (ob (zy zp p0.Moves.1) (ob (o_b h207) (ob (zy zh p0.Deliveries.1) (ob (o_b h208) ob0))))))))) (by kernel_rfl))
   ·exact zA (g := fun r => (Ex.nor, zIc p0 r)) g5 (zqe [(18, 1, 2, .c (db v201)), (18, 1, 3, .q (xb true)), (18, 1, 6, .q (xi (p0.Shelves.1.length : Int))), (18, 1, 7, .c (db v204)), (18, 1, 9, .q (xb true)), (18, 1, 12, .q (xi (p0.Moves.1.length : Int))), (18, 1, 15, .q (xb false))] [] (ob (zH k p0.Days 1 12 _ h202) (ob (o_b h203) (ob (zy zo p0.Shelves.1) (ob (zH k (p0.Shelves.1.length : Int) 1 4 _ h205) (ob (o_b h206) (ob (zy zp p0.Moves.1) (ob (o_b h207) ob0))))))) (by kernel_rfl))
  ·exact zA (g := fun r => (Ex.nor, zIc p0 r)) g4 (zqe [(18, 1, 2, .c (db v201)), (18, 1, 3, .q (xb true)), (18, 1, 6, .q (xi (p0.Shelves.1.length : Int))), (18, 1, 7, .c (db v204)), (18, 1, 9, .q (xb false))] [] (ob (zH k p0.Days 1 12 _ h202) (ob (o_b h203) (ob (zy zo p0.Shelves.1) (ob (zH k (p0.Shelves.1.length : Int) 1 4 _ h205) (ob (o_b h206) ob0))))) (by kernel_rfl))
 ·exact zA (g := fun r => (Ex.nor, zIc p0 r)) g2 (zqe [(18, 1, 2, .c (db v201)), (18, 1, 3, .q (xb false))] [] (ob (zH k p0.Days 1 12 _ h202) (ob (o_b h203) ob0)) (by kernel_rfl))
noncomputable def zk2 (p0 : za) (r : Bool) (s2_9 : Int) : TM := zk1 p0 r ++ [(40, (.d (dl zo p0.Shelves.1 p0.Shelves.2))), (41, (xi (p0.Shelves.1.length : Int))), (42, (xi s2_9)), (43, (xb true)), (zsp 5)]
noncomputable def zMf (p0 : za) (s2_6 : Bool) (s2_9 : Int) (v402 : zW) (r : Bool) : St := ⟨(zk2 p0 r s2_9), ⟨[(zc 1 (zb p0)), (zc 5 (zo v402))], []⟩, []⟩
noncomputable def zk3 (p0 : za) (s2_6 : Bool) (s2_9 : Int) : TM := [(0, (.d (.agg (zb p0)))), (zsp 1), (2, (xi 0)), (3, (xb s2_6)), (40, (.d (dl zo p0.Shelves.1 p0.Shelves.2))), (41, (xi (p0.Shelves.1.length : Int))), (42, (xi s2_9)), (43, (xb true)), (zsp 5)]
theorem zur (k : Nat) (p0 : za) (s2_6 : Bool) (s2_9 : Int) (v402 : zW) (r : Bool) (h : z5g k p0 s2_6 s2_9 v402 = some r) : ev TE 18 (rgn TE 18 5) ⟨(zk3 p0 s2_6 s2_9), ⟨[(zc 1 (zb p0)), (zc 5 (zo v402))], []⟩, []⟩ = some (.nor, zMf p0 s2_6 s2_9 v402 r) := by
 unfold z5g at h
 refine zn h (fun h501 g1 => ?_) (fun h501 g1 => ?_)
 ·refine zk g1 (fun v502 h503 g2 => ?_)
  refine zn g2 (fun h504 g3 => ?_) (fun h504 g3 => ?_)
  ·refine zk g3 (fun v505 h506 g4 => ?_)
   exact zA (g := fun r => (Ex.nor, zMf p0 s2_6 s2_9 v402 r)) g4 (zqe [(18, 5, 1, .q (xb true)), (18, 5, 4, .c (db v502)), (18, 5, 6, .q (xb true)), (18, 5, 11, .c (db v505))] [] (ob (o_b h501) (ob (zH k v402.Room 1 60 _ h503) (ob (o_b h504) (ob (zpg k v402.Begin 0 v402.Room _ h506) ob0)))) (by kernel_rfl))
  ·exact zA (g := fun r => (Ex.nor, zMf p0 s2_6 s2_9 v402 r)) g3 (zqe [(18, 5, 1, .q (xb true)), (18, 5, 4, .c (db v502)), (18, 5, 6, .q (xb false))] [] (ob (o_b h501) (ob (zH k v402.Room 1 60 _ h503) (ob (o_b h504) ob0))) (by kernel_rfl))
 ·exact zA (g := fun r => (Ex.nor, zMf p0 s2_6 s2_9 v402 r)) g1 (zqe [(18, 5, 1, .q (xb false))] [] (ob (o_b h501) ob0) (by kernel_rfl))
noncomputable def zk4 (p0 : za) (s2_6 : Bool) (s2_9 : Int) : TM := [(0, (.d (.agg (zb p0)))), (zsp 1), (2, (xi 0)), (3, (xb s2_6)), (40, (.d (dl zo p0.Shelves.1 p0.Shelves.2))), (41, (xi (p0.Shelves.1.length : Int))), (42, (xi s2_9))]
noncomputable def zes (p0 : za) (s2_6 : Bool) (s2_9 : Int) : St := ⟨(zk4 p0 s2_6 s2_9), ⟨[(zc 1 (zb p0))], []⟩, []⟩
noncomputable def zk5 (p0 : za) (r : zt1) : TM := [(0, (.d (.agg (zb p0)))), (zsp 1), (2, (xi 0)), (3, (xb r.1)), (40, (.d (dl zo p0.Shelves.1 p0.Shelves.2))), (41, (xi (p0.Shelves.1.length : Int))), (42, (xi r.2)), (43, (xb false))]
noncomputable def zhf (p0 : za) (r : zt1) : St := ⟨(zk5 p0 r), ⟨[(zc 1 (zb p0))], []⟩, []⟩
noncomputable def zHr (p0 : za) : (Bool × Int) → Ex × St := fun r => ((.exit 0), zhf p0 r)
theorem zbm (k : Nat) (p0 : za) (s2_6 : Bool) (s2_9 : Int) (x : (Bool × Int) ⊕ (Bool × Int)) (h : zKd k p0 s2_6 s2_9 = some x) : zQ TE 18 (blk TE 18 0) (fun s : (Bool × Int) => zes p0 s.1 s.2) (zHr p0) (s2_6, s2_9) x := by
 unfold zKd at h
 refine zn h (fun h401 g1 => ?_) (fun h401 g1 => ?_)
 ·refine zk g1 (fun v402 h403 g2 => ?_)
  refine zk g2 (fun v404 h405 g3 => ?_)
  exact zqn (v404, (w64 (s2_9 + 1))) [] [(18, 3, 0, .q (xb true)), (18, 4, 0, .q (.d (.pin (zo v402))))] [(18, 1000005, (.nor, zMf p0 s2_6 s2_9 v402 v404))] g3 (ob (o_b h401) (ob (o_ia (e := zo) 3 h403 rfl) (ob (zur k p0 s2_6 s2_9 v402 _ h405) ob0))) (by kernel_rfl)
 ·exact zqo [(18, 3, 0, .q (xb false))] [] g1 (ob (o_b h401) ob0) (by kernel_rfl)
noncomputable def zk6 (p0 : za) (r : Bool) (v3 : zt1) (s5_13 : Int) : TM := zk1 p0 r ++ [(40, (.d (dl zo p0.Shelves.1 p0.Shelves.2))), (41, (xi (p0.Shelves.1.length : Int))), (42, (xi v3.2)), (43, (xb false)), (61, (.d (dl zp p0.Moves.1 p0.Moves.2))), (62, (xi (p0.Moves.1.length : Int))), (63, (xi s5_13)), (64, (xb true)), (zsp 7)]
noncomputable def zse (p0 : za) (v3 : zt1) (s5_6 : Bool) (s5_13 : Int) (v702 : zE) (r : Bool) : St := ⟨(zk6 p0 r v3 s5_13), ⟨[(zc 1 (zb p0)), (zc 7 (zp v702))], []⟩, []⟩
noncomputable def zk7 (p0 : za) (s5_6 : Bool) (v3 : zt1) (s5_13 : Int) : TM := [(0, (.d (.agg (zb p0)))), (zsp 1), (2, (xi 0)), (3, (xb s5_6)), (40, (.d (dl zo p0.Shelves.1 p0.Shelves.2))), (41, (xi (p0.Shelves.1.length : Int))), (42, (xi v3.2)), (43, (xb false)), (61, (.d (dl zp p0.Moves.1 p0.Moves.2))), (62, (xi (p0.Moves.1.length : Int))), (63, (xi s5_13)), (64, (xb true)), (zsp 7)]
theorem ztr (k : Nat) (p0 : za) (v3 : zt1) (s5_6 : Bool) (s5_13 : Int) (v702 : zE) (r : Bool) (h : zch k p0 v3 s5_6 s5_13 v702 = some r) : ev TE 18 (rgn TE 18 10) ⟨(zk7 p0 s5_6 v3 s5_13), ⟨[(zc 1 (zb p0)), (zc 7 (zp v702))], []⟩, []⟩ = some (.nor, zse p0 v3 s5_6 s5_13 v702 r) := by
 unfold zch at h
 refine zn h (fun h801 g1 => ?_) (fun h801 g1 => ?_)
 ·refine zk g1 (fun v802 h803 g2 => ?_)
  refine zn g2 (fun h804 g3 => ?_) (fun h804 g3 => ?_)
  ·refine zk g3 (fun v805 h806 g4 => ?_)
   refine zn g4 (fun h807 g5 => ?_) (fun h807 g5 => ?_)
   ·refine zk g5 (fun v808 h809 g6 => ?_)
    exact zA (g := fun r => (Ex.nor, zse p0 v3 s5_6 s5_13 v702 r)) g6 (zqe [(18, 10, 1, .q (xb true)), (18, 10, 7, .c (db v802)), (18, 10, 9, .q (xb true)), (18, 10, 14, .q (xi (p0.Shelves.1.length : Int))), (18, 10, 16, .c (db v805)), (18, 10, 18, .q (xb true)), (18, 10, 21, .c (db v808))] [] (ob (o_b h801) (ob (zH k v702.Day 0 (w64 (p0.Days - 1)) _ h803) (ob (o_b h804) (ob (zy zo p0.Shelves.1) (ob (zH k v702.Shelf 0 (w64 ((p0.Shelves.1.length : Int) - 1)) _ h806) (ob (o_b h807) (ob (zpg k v702.By 0 60 _ h809) ob0))))))) (by kernel_rfl))
   ·exact zA (g := fun r => (Ex.nor, zse p0 v3 s5_6 s5_13 v702 r)) g5 (zqe [(18, 10, 1, .q (xb true)), (18, 10, 7, .c (db v802)), (18, 10, 9, .q (xb true)), (18, 10, 14, .q (xi (p0.Shelves.1.length : Int))), (18, 10, 16, .c (db v805)), (18, 10, 18, .q (xb false))] [] (ob (o_b h801) (ob (zH k v702.Day 0 (w64 (p0.Days - 1)) _ h803) (ob (o_b h804) (ob (zy zo p0.Shelves.1) (ob (zH k v702.Shelf 0 (w64 ((p0.Shelves.1.length : Int) - 1)) _ h806) (ob (o_b h807) ob0)))))) (by kernel_rfl))
  ·exact zA (g := fun r => (Ex.nor, zse p0 v3 s5_6 s5_13 v702 r)) g3 (zqe [(18, 10, 1, .q (xb true)), (18, 10, 7, .c (db v802)), (18, 10, 9, .q (xb false))] [] (ob (o_b h801) (ob (zH k v702.Day 0 (w64 (p0.Days - 1)) _ h803) (ob (o_b h804) ob0))) (by kernel_rfl))
 ·exact zA (g := fun r => (Ex.nor, zse p0 v3 s5_6 s5_13 v702 r)) g1 (zqe [(18, 10, 1, .q (xb false))] [] (ob (o_b h801) ob0) (by kernel_rfl))
noncomputable def zk8 (p0 : za) (s5_6 : Bool) (v3 : zt1) (s5_13 : Int) : TM := [(0, (.d (.agg (zb p0)))), (zsp 1), (2, (xi 0)), (3, (xb s5_6)), (40, (.d (dl zo p0.Shelves.1 p0.Shelves.2))), (41, (xi (p0.Shelves.1.length : Int))), (42, (xi v3.2)), (43, (xb false)), (61, (.d (dl zp p0.Moves.1 p0.Moves.2))), (62, (xi (p0.Moves.1.length : Int))), (63, (xi s5_13))]
noncomputable def zQr (p0 : za) (v3 : zt1) (s5_6 : Bool) (s5_13 : Int) : St := ⟨(zk8 p0 s5_6 v3 s5_13), ⟨[(zc 1 (zb p0))], []⟩, []⟩
noncomputable def zk9 (p0 : za) (r v3 : zt1) : TM := [(0, (.d (.agg (zb p0)))), (zsp 1), (2, (xi 0)), (3, (xb r.1)), (40, (.d (dl zo p0.Shelves.1 p0.Shelves.2))), (41, (xi (p0.Shelves.1.length : Int))), (42, (xi v3.2)), (43, (xb false)), (61, (.d (dl zp p0.Moves.1 p0.Moves.2))), (62, (xi (p0.Moves.1.length : Int))), (63, (xi r.2)), (64, (xb false))]
noncomputable def zef (p0 : za) (v3 r : zt1) : St := ⟨(zk9 p0 r v3), ⟨[(zc 1 (zb p0))], []⟩, []⟩
noncomputable def zPr (p0 : za) (v3 : zt1) : (Bool × Int) → Ex × St := fun r => ((.exit 2), zef p0 v3 r)
theorem znm (k : Nat) (p0 : za) (v3 : zt1) (s5_6 : Bool) (s5_13 : Int) (x : (Bool × Int) ⊕ (Bool × Int)) (h : zDd k p0 v3 s5_6 s5_13 = some x) : zQ TE 18 (blk TE 18 2) (fun s : (Bool × Int) => zQr p0 v3 s.1 s.2) (zPr p0 v3) (s5_6, s5_13) x := by
 unfold zDd at h
 refine zn h (fun h701 g1 => ?_) (fun h701 g1 => ?_)
 ·refine zk g1 (fun v702 h703 g2 => ?_)
  refine zk g2 (fun v704 h705 g3 => ?_)
  exact zqn (v704, (w64 (s5_13 + 1))) [] [(18, 8, 0, .q (xb true)), (18, 9, 0, .q (.d (.pin (zp v702))))] [(18, 1000010, (.nor, zse p0 v3 s5_6 s5_13 v702 v704))] g3 (ob (o_b h701) (ob (o_ia (e := zp) 5 h703 rfl) (ob (ztr k p0 v3 s5_6 s5_13 v702 _ h705) ob0))) (by kernel_rfl)
 ·exact zqo [(18, 8, 0, .q (xb false))] [] g1 (ob (o_b h701) ob0) (by kernel_rfl)
noncomputable def zqD (p0 : za) (r : Bool) (v3 v5 : zt1) (s8_17 : Int) : TM := zk1 p0 r ++ [(40, (.d (dl zo p0.Shelves.1 p0.Shelves.2))), (41, (xi (p0.Shelves.1.length : Int))), (42, (xi v3.2)), (43, (xb false)), (61, (.d (dl zp p0.Moves.1 p0.Moves.2))), (62, (xi (p0.Moves.1.length : Int))), (63, (xi v5.2)), (64, (xb false)), (92, (.d (dl zh p0.Deliveries.1 p0.Deliveries.2))), (93, (xi (p0.Deliveries.1.length : Int))), (94, (xi s8_17)), (95, (xb true)), (zsp 9)]
noncomputable def z2d (p0 : za) (v3 v5 : zt1) (s8_6 : Bool) (s8_17 : Int) (v1002 : zt) (r : Bool) : St := ⟨(zqD p0 r v3 v5 s8_17), ⟨[(zc 1 (zb p0)), (zc 9 (zh v1002))], []⟩, []⟩
noncomputable def zoD (p0 : za) (s8_6 : Bool) (v3 v5 : zt1) (s8_17 : Int) : TM := [(0, (.d (.agg (zb p0)))), (zsp 1), (2, (xi 0)), (3, (xb s8_6)), (40, (.d (dl zo p0.Shelves.1 p0.Shelves.2))), (41, (xi (p0.Shelves.1.length : Int))), (42, (xi v3.2)), (43, (xb false)), (61, (.d (dl zp p0.Moves.1 p0.Moves.2))), (62, (xi (p0.Moves.1.length : Int))), (63, (xi v5.2)), (64, (xb false)), (92, (.d (dl zh p0.Deliveries.1 p0.Deliveries.2))), (93, (xi (p0.Deliveries.1.length : Int))), (94, (xi s8_17)), (95, (xb true)), (zsp 9)]
theorem ziq (k : Nat) (p0 : za) (v3 v5 : zt1) (s8_6 : Bool) (s8_17 : Int) (v1002 : zt) (r : Bool) (h : zmg k p0 v3 v5 s8_6 s8_17 v1002 = some r) : ev TE 18 (rgn TE 18 15) ⟨(zoD p0 s8_6 v3 v5 s8_17), ⟨[(zc 1 (zb p0)), (zc 9 (zh v1002))], []⟩, []⟩ = some (.nor, z2d p0 v3 v5 s8_6 s8_17 v1002 r) := by
 unfold zmg at h
 refine zn h (fun h1101 g1 => ?_) (fun h1101 g1 => ?_)
 ·refine zk g1 (fun v1102 h1103 g2 => ?_)
  refine zn g2 (fun h1104 g3 => ?_) (fun h1104 g3 => ?_)
  ·refine zk g3 (fun v1105 h1106 g4 => ?_)
   refine zn g4 (fun h1107 g5 => ?_) (fun h1107 g5 => ?_)
   ·refine zk g5 (fun v1108 h1109 g6 => ?_)
    exact zA (g := fun r => (Ex.nor, z2d p0 v3 v5 s8_6 s8_17 v1002 r)) g6 (zqe [(18, 15, 1, .q (xb true)), (18, 15, 6, .q (xi (p0.Shelves.1.length : Int))), (18, 15, 8, .c (db v1102)), (18, 15, 10, .q (xb true)), (18, 15, 16, .c (db v1105)), (18, 15, 18, .q (xb true)), (18, 15, 21, .c (db v1108))] [] (ob (o_b h1101) (ob (zy zo p0.Shelves.1) (ob (zH k v1002.Shelf 0 (w64 ((p0.Shelves.1.length : Int) - 1)) _ h1103) (ob (o_b h1104) (ob (zpg k v1002.Days 0 (w64 (p0.Days - 1)) _ h1106) (ob (o_b h1107) (ob (zpg k v1002.By 0 60 _ h1109) ob0))))))) (by kernel_rfl))
   ·exact zA (g := fun r => (Ex.nor, z2d p0 v3 v5 s8_6 s8_17 v1002 r)) g5 (zqe [(18, 15, 1, .q (xb true)), (18, 15, 6, .q (xi (p0.Shelves.1.length : Int))), (18, 15, 8, .c (db v1102)), (18, 15, 10, .q (xb true)), (18, 15, 16, .c (db v1105)), (18, 15, 18, .q (xb false))] [] (ob (o_b h1101) (ob (zy zo p0.Shelves.1) (ob (zH k v1002.Shelf 0 (w64 ((p0.Shelves.1.length : Int) - 1)) _ h1103) (ob (o_b h1104) (ob (zpg k v1002.Days 0 (w64 (p0.Days - 1)) _ h1106) (ob (o_b h1107) ob0)))))) (by kernel_rfl))
  ·exact zA (g := fun r => (Ex.nor, z2d p0 v3 v5 s8_6 s8_17 v1002 r)) g3 (zqe [(18, 15, 1, .q (xb true)), (18, 15, 6, .q (xi (p0.Shelves.1.length : Int))), (18, 15, 8, .c (db v1102)), (18, 15, 10, .q (xb false))] [] (ob (o_b h1101) (ob (zy zo p0.Shelves.1) (ob (zH k v1002.Shelf 0 (w64 ((p0.Shelves.1.length : Int) - 1)) _ h1103) (ob (o_b h1104) ob0)))) (by kernel_rfl))
 ·exact zA (g := fun r => (Ex.nor, z2d p0 v3 v5 s8_6 s8_17 v1002 r)) g1 (zqe [(18, 15, 1, .q (xb false))] [] (ob (o_b h1101) ob0) (by kernel_rfl))
noncomputable def zDD (p0 : za) (s8_6 : Bool) (v3 v5 : zt1) (s8_17 : Int) : TM := [(0, (.d (.agg (zb p0)))), (zsp 1), (2, (xi 0)), (3, (xb s8_6)), (40, (.d (dl zo p0.Shelves.1 p0.Shelves.2))), (41, (xi (p0.Shelves.1.length : Int))), (42, (xi v3.2)), (43, (xb false)), (61, (.d (dl zp p0.Moves.1 p0.Moves.2))), (62, (xi (p0.Moves.1.length : Int))), (63, (xi v5.2)), (64, (xb false)), (92, (.d (dl zh p0.Deliveries.1 p0.Deliveries.2))), (93, (xi (p0.Deliveries.1.length : Int))), (94, (xi s8_17))]
noncomputable def z9r (p0 : za) (v3 v5 : zt1) (s8_6 : Bool) (s8_17 : Int) : St := ⟨(zDD p0 s8_6 v3 v5 s8_17), ⟨[(zc 1 (zb p0))], []⟩, []⟩
noncomputable def z5D (p0 : za) (r v3 v5 : zt1) : TM := [(0, (.d (.agg (zb p0)))), (zsp 1), (2, (xi 0)), (3, (xb r.1)), (40, (.d (dl zo p0.Shelves.1 p0.Shelves.2))), (41, (xi (p0.Shelves.1.length : Int))), (42, (xi v3.2)), (43, (xb false)), (61, (.d (dl zp p0.Moves.1 p0.Moves.2))), (62, (xi (p0.Moves.1.length : Int))), (63, (xi v5.2)), (64, (xb false)), (92, (.d (dl zh p0.Deliveries.1 p0.Deliveries.2))), (93, (xi (p0.Deliveries.1.length : Int))), (94, (xi r.2)), (95, (xb false))]
noncomputable def zof (p0 : za) (v3 v5 r : zt1) : St := ⟨(z5D p0 r v3 v5), ⟨[(zc 1 (zb p0))], []⟩, []⟩
noncomputable def zTr (p0 : za) (v3 v5 : zt1) : (Bool × Int) → Ex × St := fun r => ((.exit 4), zof p0 v3 v5 r)
theorem zcm (k : Nat) (p0 : za) (v3 v5 : zt1) (s8_6 : Bool) (s8_17 : Int) (x : (Bool × Int) ⊕ (Bool × Int)) (h : zud k p0 v3 v5 s8_6 s8_17 = some x) : zQ TE 18 (blk TE 18 4) (fun s : (Bool × Int) => z9r p0 v3 v5 s.1 s.2) (zTr p0 v3 v5) (s8_6, s8_17) x := by
 unfold zud at h
 refine zn h (fun h1001 g1 => ?_) (fun h1001 g1 => ?_)
 ·refine zk g1 (fun v1002 h1003 g2 => ?_)
  refine zk g2 (fun v1004 h1005 g3 => ?_)
  exact zqn (v1004, (w64 (s8_17 + 1))) [] [(18, 13, 0, .q (xb true)), (18, 14, 0, .q (.d (.pin (zh v1002))))] [(18, 1000015, (.nor, z2d p0 v3 v5 s8_6 s8_17 v1002 v1004))] g3 (ob (o_b h1001) (ob (o_ia (e := zh) 5 h1003 rfl) (ob (ziq k p0 v3 v5 s8_6 s8_17 v1002 _ h1005) ob0))) (by kernel_rfl)
 ·exact zqo [(18, 13, 0, .q (xb false))] [] g1 (ob (o_b h1001) ob0) (by kernel_rfl)
noncomputable def zTD (p0 : za) (r : Bool) (v3 v5 v7 : zt1) (s11_21 : Int) : TM := zk1 p0 r ++ [(40, (.d (dl zo p0.Shelves.1 p0.Shelves.2))), (41, (xi (p0.Shelves.1.length : Int))), (42, (xi v3.2)), (43, (xb false)), (61, (.d (dl zp p0.Moves.1 p0.Moves.2))), (62, (xi (p0.Moves.1.length : Int))), (63, (xi v5.2)), (64, (xb false)), (92, (.d (dl zh p0.Deliveries.1 p0.Deliveries.2))), (93, (xi (p0.Deliveries.1.length : Int))), (94, (xi v7.2)), (95, (xb false)), (123, (.d (dl zj p0.Counts.1 p0.Counts.2))), (124, (xi (p0.Counts.1.length : Int))), (125, (xi s11_21)), (126, (xb true)), (zsp 11)]
noncomputable def zZc (p0 : za) (v3 v5 v7 : zt1) (s11_6 : Bool) (s11_21 : Int) (v1302 : zq) (r : Bool) : St := ⟨(zTD p0 r v3 v5 v7 s11_21), ⟨[(zc 1 (zb p0)), (zc 11 (zj v1302))], []⟩, []⟩
noncomputable def zkD (p0 : za) (s11_6 : Bool) (v3 v5 v7 : zt1) (s11_21 : Int) : TM := [(0, (.d (.agg (zb p0)))), (zsp 1), (2, (xi 0)), (3, (xb s11_6)), (40, (.d (dl zo p0.Shelves.1 p0.Shelves.2))), (41, (xi (p0.Shelves.1.length : Int))), (42, (xi v3.2)), (43, (xb false)), (61, (.d (dl zp p0.Moves.1 p0.Moves.2))), (62, (xi (p0.Moves.1.length : Int))), (63, (xi v5.2)), (64, (xb false)), (92, (.d (dl zh p0.Deliveries.1 p0.Deliveries.2))), (93, (xi (p0.Deliveries.1.length : Int))), (94, (xi v7.2)), (95, (xb false)), (123, (.d (dl zj p0.Counts.1 p0.Counts.2))), (124, (xi (p0.Counts.1.length : Int))), (125, (xi s11_21)), (126, (xb true)), (zsp 11)]
theorem zJq (k : Nat) (p0 : za) (v3 v5 v7 : zt1) (s11_6 : Bool) (s11_21 : Int) (v1302 : zq) (r : Bool) (h : zrg k p0 v3 v5 v7 s11_6 s11_21 v1302 = some r) : ev TE 18 (rgn TE 18 20) ⟨(zkD p0 s11_6 v3 v5 v7 s11_21), ⟨[(zc 1 (zb p0)), (zc 11 (zj v1302))], []⟩, []⟩ = some (.nor, zZc p0 v3 v5 v7 s11_6 s11_21 v1302 r) := by
 unfold zrg at h
 refine zn h (fun h1401 g1 => ?_) (fun h1401 g1 => ?_)
 ·refine zk g1 (fun v1402 h1403 g2 => ?_)
  refine zn g2 (fun h1404 g3 => ?_) (fun h1404 g3 => ?_)
  ·refine zk g3 (fun v1405 h1406 g4 => ?_)
   refine zn g4 (fun h1407 g5 => ?_) (fun h1407 g5 => ?_)
   ·refine zk g5 (fun v1408 h1409 g6 => ?_)
    refine zn g6 (fun h1410 g7 => ?_) (fun h1410 g7 => ?_)
    ·refine zk g7 (fun v1411 h1412 g8 => ?_)
     exact zA (g := fun r => (Ex.nor, zZc p0 v3 v5 v7 s11_6 s11_21 v1302 r)) g8 (zqe [(18, 20, 1, .q (xb true)), (18, 20, 7, .c (db v1402)), (18, 20, 9, .q (xb true)), (18, 20, 14, .q (xi (p0.Shelves.1.length : Int))), (18, 20, 16, .c (db v1405)), (18, 20, 18, .q (xb true)), (18, 20, 21, .c (db v1408)), (18, 20, 23, .q (xb true)), (18, 20, 26, .c (db v1411))] [] (ob (o_b h1401) (ob (zH k v1302.Day 0 (w64 (p0.Days - 1)) _ h1403) (ob (o_b h1404) (ob (zy zo p0.Shelves.1) (ob (zH k v1302.Shelf 0 (w64 ((p0.Shelves.1.length : Int) - 1)) _ h1406) (ob (o_b h1407) (ob (zH k v1302.Read 0 60 _ h1409) (ob (o_b h1410) (ob (zH k v1302.Err 0 20 _ h1412) ob0))))))))) (by kernel_rfl))
    ·exact zA (g := fun r => (Ex.nor, zZc p0 v3 v5 v7 s11_6 s11_21 v1302 r)) g7 (zqe [(18, 20, 1, .q (xb true)), (18, 20, 7, .c (db v1402)), (18, 20, 9, .q (xb true)), (18, 20, 14, .q (xi (p0.Shelves.1.length : Int))), (18, 20, 16, .c (db v1405)), (18, 20, 18, .q (xb true)), (18, 20, 21, .c (db v1408)), (18, 20, 23, .q (xb false))] [] (ob (o_b h1401) (ob (zH k v1302.Day 0 (w64 (p0.Days - 1)) _ h1403) (ob (o_b h1404) (ob (zy zo p0.Shelves.1) (ob (zH k v1302.Shelf 0 (w64 ((p0.Shelves.1.length : Int) - 1)) _ h1406) (ob (o_b h1407) (ob (zH k v1302.Read 0 60 _ h1409) (ob (o_b h1410) ob0)))))))) (by kernel_rfl))
   ·exact zA (g := fun r => (Ex.nor, zZc p0 v3 v5 v7 s11_6 s11_21 v1302 r)) g5 (zqe [(18, 20, 1, .q (xb true)), (18, 20, 7, .c (db v1402)), (18, 20, 9, .q (xb true)), (18, 20, 14, .q (xi (p0.Shelves.1.length : Int))), (18, 20, 16, .c (db v1405)), (18, 20, 18, .q (xb false))] [] (ob (o_b h1401) (ob (zH k v1302.Day 0 (w64 (p0.Days - 1)) _ h1403) (ob (o_b h1404) (ob (zy zo p0.Shelves.1) (ob (zH k v1302.Shelf 0 (w64 ((p0.Shelves.1.length : Int) - 1)) _ h1406) (ob (o_b h1407) ob0)))))) (by kernel_rfl))
  ·exact zA (g := fun r => (Ex.nor, zZc p0 v3 v5 v7 s11_6 s11_21 v1302 r)) g3 (zqe [(18, 20, 1, .q (xb true)), (18, 20, 7, .c (db v1402)), (18, 20, 9, .q (xb false))] [] (ob (o_b h1401) (ob (zH k v1302.Day 0 (w64 (p0.Days - 1)) _ h1403) (ob (o_b h1404) ob0))) (by kernel_rfl))
 ·exact zA (g := fun r => (Ex.nor, zZc p0 v3 v5 v7 s11_6 s11_21 v1302 r)) g1 (zqe [(18, 20, 1, .q (xb false))] [] (ob (o_b h1401) ob0) (by kernel_rfl))
noncomputable def z5C (p0 : za) (s11_6 : Bool) (v3 v5 v7 : zt1) (s11_21 : Int) : TM := [(0, (.d (.agg (zb p0)))), (zsp 1), (2, (xi 0)), (3, (xb s11_6)), (40, (.d (dl zo p0.Shelves.1 p0.Shelves.2))), (41, (xi (p0.Shelves.1.length : Int))), (42, (xi v3.2)), (43, (xb false)), (61, (.d (dl zp p0.Moves.1 p0.Moves.2))), (62, (xi (p0.Moves.1.length : Int))), (63, (xi v5.2)), (64, (xb false)), (92, (.d (dl zh p0.Deliveries.1 p0.Deliveries.2))), (93, (xi (p0.Deliveries.1.length : Int))), (94, (xi v7.2)), (95, (xb false)), (123, (.d (dl zj p0.Counts.1 p0.Counts.2))), (124, (xi (p0.Counts.1.length : Int))), (125, (xi s11_21))]
noncomputable def zkr (p0 : za) (v3 v5 v7 : zt1) (s11_6 : Bool) (s11_21 : Int) : St := ⟨(z5C p0 s11_6 v3 v5 v7 s11_21), ⟨[(zc 1 (zb p0))], []⟩, []⟩
noncomputable def zgE (p0 : za) (r v3 v5 v7 : zt1) : TM := [(0, (.d (.agg (zb p0)))), (zsp 1), (2, (xi 0)), (3, (xb r.1)), (40, (.d (dl zo p0.Shelves.1 p0.Shelves.2))), (41, (xi (p0.Shelves.1.length : Int))), (42, (xi v3.2)), (43, (xb false)), (61, (.d (dl zp p0.Moves.1 p0.Moves.2))), (62, (xi (p0.Moves.1.length : Int))), (63, (xi v5.2)), (64, (xb false)), (92, (.d (dl zh p0.Deliveries.1 p0.Deliveries.2))), (93, (xi (p0.Deliveries.1.length : Int))), (94, (xi v7.2)), (95, (xb false)), (123, (.d (dl zj p0.Counts.1 p0.Counts.2))), (124, (xi (p0.Counts.1.length : Int))), (125, (xi r.2)), (126, (xb false))]
noncomputable def zNe (p0 : za) (v3 v5 v7 r : zt1) : St := ⟨(zgE p0 r v3 v5 v7), ⟨[(zc 1 (zb p0))], []⟩, []⟩
noncomputable def zpr (p0 : za) (v3 v5 v7 : zt1) : (Bool × Int) → Ex × St := fun r => ((.exit 6), zNe p0 v3 v5 v7 r)
theorem zFl (k : Nat) (p0 : za) (v3 v5 v7 : zt1) (s11_6 : Bool) (s11_21 : Int) (x : (Bool × Int) ⊕ (Bool × Int)) (h : z4c k p0 v3 v5 v7 s11_6 s11_21 = some x) : zQ TE 18 (blk TE 18 6) (fun s : (Bool × Int) => zkr p0 v3 v5 v7 s.1 s.2) (zpr p0 v3 v5 v7) (s11_6, s11_21) x := by
 unfold z4c at h
 refine zn h (fun h1301 g1 => ?_) (fun h1301 g1 => ?_)
 ·refine zk g1 (fun v1302 h1303 g2 => ?_)
  refine zk g2 (fun v1304 h1305 g3 => ?_)
  exact zqn (v1304, (w64 (s11_21 + 1))) [] [(18, 18, 0, .q (xb true)), (18, 19, 0, .q (.d (.pin (zj v1302))))] [(18, 1000020, (.nor, zZc p0 v3 v5 v7 s11_6 s11_21 v1302 v1304))] g3 (ob (o_b h1301) (ob (o_ia (e := zj) 4 h1303 rfl) (ob (zJq k p0 v3 v5 v7 s11_6 s11_21 v1302 _ h1305) ob0))) (by kernel_rfl)
 ·exact zqo [(18, 18, 0, .q (xb false))] [] g1 (ob (o_b h1301) ob0) (by kernel_rfl)
theorem zpe (k : Nat) (p0 : za) (r : Int) (h : zHg k p0 = some r) : zM TE (ev TE) 18 [(.agg (zb p0))] = some (zYl r) := by
 unfold zHg at h
 refine zk h (fun v1 h2 g1 => ?_)
 refine zk g1 (fun v3 h4 g2 => ?_)
 refine zk g2 (fun v5 h6 g3 => ?_)
 refine zk g3 (fun v7 h8 g4 => ?_)
 refine zk g4 (fun v9 h10 g5 => ?_)
 refine zn g5 (fun h11 g6 => ?_) (fun h11 g6 => ?_)
 ·exact zJ (g := zYl) g6 (zqc [(18, 2, 2, .q (xi (p0.Shelves.1.length : Int))), (18, 7, 2, .q (xi (p0.Moves.1.length : Int))), (18, 12, 2, .q (xi (p0.Deliveries.1.length : Int))), (18, 17, 2, .q (xi (p0.Counts.1.length : Int))), (18, 22, 1, .q (xb true))] [(18, 1000001, (.nor, zIc p0 v1)), (18, 0, (.nor, zhf p0 v3)), (18, 2, (.nor, zef p0 v3 v5)), (18, 4, (.nor, zof p0 v3 v5 v7)), (18, 6, (.nor, zNe p0 v3 v5 v7 v9))] (ob (zem k p0 _ h2) (ob (zy zo p0.Shelves.1) (ob (zG (id := 0) (r' := (.nor, zhf p0 v3)) (zib (zbm k p0) k _ _ h4) rfl) (ob (zy zp p0.Moves.1) (ob (zG (id := 2) (r' := (.nor, zef p0 v3 v5)) (zib (znm k p0 v3) k _ _ h6) rfl) (ob (zy zh p0.Deliveries.1) (ob (zG (id := 4) (r' := (.nor, zof p0 v3 v5 v7)) (zib (zcm k p0 v3 v5) k _ _ h8) rfl) (ob (zy zj p0.Counts.1) (ob (zG (id := 6) (r' := (.nor, zNe p0 v3 v5 v7 v9)) (zib (zFl k p0 v3 v5 v7) k _ _ h10) rfl) (ob (o_b h11) ob0)))))))))) (by kernel_rfl))
 ·exact zJ (g := zYl) g6 (zqc [(18, 2, 2, .q (xi (p0.Shelves.1.length : Int))), (18, 7, 2, .q (xi (p0.Moves.1.length : Int))), (18, 12, 2, .q (xi (p0.Deliveries.1.length : Int))), (18, 17, 2, .q (xi (p0.Counts.1.length : Int))), (18, 22, 1, .q (xb false))] [(18, 1000001, (.nor, zIc p0 v1)), (18, 0, (.nor, zhf p0 v3)), (18, 2, (.nor, zef p0 v3 v5)), (18, 4, (.nor, zof p0 v3 v5 v7)), (18, 6, (.nor, zNe p0 v3 v5 v7 v9))] (ob (zem k p0 _ h2) (ob (zy zo p0.Shelves.1) (ob (zG (id := 0) (r' := (.nor, zhf p0 v3)) (zib (zbm k p0) k _ _ h4) rfl) (ob (zy zp p0.Moves.1) (ob (zG (id := 2) (r' := (.nor, zef p0 v3 v5)) (zib (znm k p0 v3) k _ _ h6) rfl) (ob (zy zh p0.Deliveries.1) (ob (zG (id := 4) (r' := (.nor, zof p0 v3 v5 v7)) (zib (zcm k p0 v3 v5) k _ _ h8) rfl) (ob (zy zj p0.Counts.1) (ob (zG (id := 6) (r' := (.nor, zNe p0 v3 v5 v7 v9)) (zib (zFl k p0 v3 v5 v7) k _ _ h10) rfl) (ob (o_b h11) ob0)))))))))) (by kernel_rfl))
noncomputable def zaD (p0 : zd) (s1_7 : Int) : TM := [(0, (.d (.agg (zr p0)))), (zsp 1), (zsp 2), (zsp 3), (4, (xi s1_7))]
noncomputable def zjp (p0 : zd) (s1_7 : Int) (s1_16 : zt0) : St := ⟨(zaD p0 s1_7), ⟨[(zc 1 (zr p0)), (zc 2 (aB 61 (fun _ => false))), (zc 3 (aB 61 s1_16))], []⟩, []⟩
noncomputable def zzD (p0 : zd) (r : zt11) : TM := [(0, (.d (.agg (zr p0)))), (zsp 1), (zsp 2), (zsp 3), (4, (xi r.1)), (24, (xb false))]
noncomputable def zMg (p0 : zd) (r : zt11) : St := ⟨(zzD p0 r), ⟨[(zc 1 (zr p0)), (zc 2 (aB 61 (fun _ => false))), (zc 3 (aB 61 r.2))], []⟩, []⟩
noncomputable def z9o (p0 : zd) : (Int × (Nat → Bool)) → Ex × St := fun r => ((.exit 0), zMg p0 r)
theorem zVo (k : Nat) (p0 : zd) (s1_7 : Int) (s1_16 : zt0) (x : (Int × (Nat → Bool)) ⊕ (Int × (Nat → Bool))) (h : zge k p0 s1_7 s1_16 = some x) : zQ TE 90 (blk TE 90 0) (fun s : (Int × (Nat → Bool)) => zjp p0 s.1 s.2) (z9o p0) (s1_7, s1_16) x := by
 unfold zge at h
 refine zk h (fun v201 h202 g1 => ?_)
 refine zn g1 (fun h203 g2 => ?_) (fun h203 g2 => ?_)
 ·refine zT g2 (fun h204 g3 => ?_)
  exact zqn ((w64 (s1_7 + 1)), (upd s1_16 s1_7.toNat true)) [] [(90, 3, 6, .q (.d (.pin (zo v201)))), (90, 3, 10, .q (xb true)), (90, 5, 1, .q (.ptr 0 3 (s1_7.toNat))), (90, 5, 2, .st ((aB 61 (upd s1_16 s1_7.toNat true)).map .d))] [] g3 (ob (o_ia (e := zo) 3 h202 rfl) (ob (o_b h203) (ob (zId (m := 61) 0 3 0 1 s1_7.toNat h204 (by omega)) (ob (zVk 61 s1_16 s1_7.toNat true (by have := h204; simp only [Bool.and_eq_true, decide_eq_true_eq] at this; omega)) ob0)))) (by kernel_rfl)
 ·exact zqo [(90, 3, 6, .q (.d (.pin (zo v201)))), (90, 3, 10, .q (xb false))] [] g2 (ob (o_ia (e := zo) 3 h202 rfl) (ob (o_b h203) ob0)) (by kernel_rfl)
theorem zgq (k : Nat) (p0 : zd) (r : zt0) (h : zEf k p0 = some r) : zM TE (ev TE) 90 [(.agg (zr p0))] = some (zGl r) := by
 unfold zEf at h
 refine zk h (fun v1 h2 g1 => ?_)
 refine zk g1 (fun v3 h4 g2 => ?_)
 exact zJ (g := zGl) g2 (zqc [(90, 2, 5, .q (.d (.pin (zo v1))))] [(90, 0, (.nor, zMg p0 v3))] (ob (o_ia (e := zo) 3 h2 rfl) (ob (zG (id := 0) (r' := (.nor, zMg p0 v3)) (zib (zVo k p0) k _ _ h4) rfl) ob0)) (by kernel_rfl))
theorem zth (k : Nat) (r : zt0) (h : zlg k = some r) : zM TE (ev TE) 87 [] = some (zgo r) := by
 unfold zlg at h
 exact zJ (g := zgo) h (zqc [] [] ob0 (by kernel_rfl))
theorem zkl (k : Nat) (p0 : zd) (p1 p2 : Int) (r : zt5) (h : zYe k p0 p1 p2 = some r) : zM TE (ev TE) 91 [(.agg (zr p0)), (di p1), (di p2)] = some (zkm r) := by
 unfold zYe at h
 exact zJ (g := zkm) h (zqc [] [] ob0 (by kernel_rfl))
noncomputable def z8C (p0 : zd) (p1 p2 : Int) (s1_20 : zt12) (s1_12 : Int) : TM := [(0, (.d (.agg (zr p0)))), (1, (xi p1)), (2, (xi p2)), (zsp 3), (6, (.d (.sl [] .nil))), (7, (.row 0 7 s1_20.length)), (15, (.d (dl zh p0.ShelfBook.Deliveries.1 p0.ShelfBook.Deliveries.2))), (16, (xi (p0.ShelfBook.Deliveries.1.length : Int))), (17, (xi s1_12))]
noncomputable def z1o (p0 : zd) (p1 p2 s1_12 : Int) (s1_20 : zt12) : St := ⟨(z8C p0 p1 p2 s1_20 s1_12), ⟨[(zc 3 (zr p0)), (7, (rowO true 3 zR s1_20 true))], []⟩, []⟩
noncomputable def zsD (p0 : zd) (p1 p2 : Int) (r : zt10) : TM := [(0, (.d (.agg (zr p0)))), (1, (xi p1)), (2, (xi p2)), (zsp 3), (6, (.d (.sl [] .nil))), (7, (.row 0 7 r.2.length)), (15, (.d (dl zh p0.ShelfBook.Deliveries.1 p0.ShelfBook.Deliveries.2))), (16, (xi (p0.ShelfBook.Deliveries.1.length : Int))), (17, (xi r.1)), (18, (xb false))]
noncomputable def zBg (p0 : zd) (p1 p2 : Int) (r : zt10) : St := ⟨(zsD p0 p1 p2 r), ⟨[(zc 3 (zr p0)), (7, (rowO true 3 zR r.2 true))], []⟩, []⟩
noncomputable def zdp (p0 : zd) (p1 p2 : Int) : (Int × (List zF)) → Ex × St := fun r => ((.exit 0), zBg p0 p1 p2 r)
theorem zro (k : Nat) (p0 : zd) (p1 p2 s1_12 : Int) (s1_20 : zt12) (x : (Int × (List zF)) ⊕ (Int × (List zF))) (h : zme k p0 p1 p2 s1_12 s1_20 = some x) : zQ TE 92 (blk TE 92 0) (fun s : (Int × (List zF)) => z1o p0 p1 p2 s.1 s.2) (zdp p0 p1 p2) (s1_12, s1_20) x := by
 unfold zme at h
 refine zn h (fun h301 g1 => ?_) (fun h301 g1 => ?_)
 ·refine zk g1 (fun v302 h303 g2 => ?_)
  refine zn g2 (fun h304 g3 => ?_) (fun h304 g3 => ?_)
  ·cases g3
  ·refine zn g3 (fun h305 g4 => ?_) (fun h305 g4 => ?_)
   ·refine zT g4 (fun h306 g5 => ?_)
    exact zqn ((w64 (s1_12 + 1)), (s1_20 ++ [(⟨1, v302.By⟩ : zF)])) [7] [(92, 3, 0, .q (xb true)), (92, 4, 1, .q (.d (.pin (zh v302)))), (92, 5, 2, .q (xi (z7 p2 s1_12))), (92, 5, 4, .q (xb true)), (92, 6, 5, .ap (s1_20 ++ [(⟨1, v302.By⟩ : zF)]).length (rowO true 3 zR (s1_20 ++ [(⟨1, v302.By⟩ : zF)]) true))] [] g5 (ob (o_b h301) (ob (o_ia (e := zh) 5 h303 rfl) (ob (zVe (x := p2) h304) (ob (o_b h305) (ob (o_ap (b := true) (z := 3) (e := zR) (l := s1_20) (w := true) (⟨1, v302.By⟩ : zF) (fun _ => rfl) h306) (ob (zgc true 3 zR (s1_20 ++ [(⟨1, v302.By⟩ : zF)]) true) ob0)))))) (by kernel_rfl)
   ·exact zqn ((w64 (s1_12 + 1)), s1_20) [7] [(92, 3, 0, .q (xb true)), (92, 4, 1, .q (.d (.pin (zh v302)))), (92, 5, 2, .q (xi (z7 p2 s1_12))), (92, 5, 4, .q (xb false))] [] g4 (ob (o_b h301) (ob (o_ia (e := zh) 5 h303 rfl) (ob (zVe (x := p2) h304) (ob (o_b h305) (ob (zgc true 3 zR s1_20 true) ob0))))) (by kernel_rfl)
 ·exact zqo [(92, 3, 0, .q (xb false))] [] g1 (ob (o_b h301) ob0) (by kernel_rfl)
noncomputable def zgD (p0 : zd) (p1 p2 : Int) (s3_24 : zt12) (v1 : zt10) (s3_16 : Int) (r : Bool) : TM := [(0, (.d (.agg (zr p0)))), (1, (xi p1)), (2, (xi p2)), (zsp 3), (6, (.d (.sl [] .nil))), (7, (.row 0 7 s3_24.length)), (15, (.d (dl zh p0.ShelfBook.Deliveries.1 p0.ShelfBook.Deliveries.2))), (16, (xi (p0.ShelfBook.Deliveries.1.length : Int))), (17, (xi v1.1)), (18, (xb false)), (36, (.d (dl zp p0.ShelfBook.Moves.1 p0.ShelfBook.Moves.2))), (37, (xi (p0.ShelfBook.Moves.1.length : Int))), (38, (xi s3_16)), (39, (xb true)), (zsp 11), (52, (xb r))]
noncomputable def zHd (p0 : zd) (p1 p2 : Int) (v1 : zt10) (s3_16 : Int) (s3_24 : zt12) (v702 : zE) (r : Bool) : St := ⟨(zgD p0 p1 p2 s3_24 v1 s3_16 r), ⟨[(zc 3 (zr p0)), (7, (rowO true 3 zR s3_24 true)), (zc 11 (zp v702))], []⟩, []⟩
noncomputable def z3y (p0 : zd) (p1 p2 : Int) (s3_24 : zt12) (v1 : zt10) (s3_16 : Int) : TM := [(0, (.d (.agg (zr p0)))), (1, (xi p1)), (2, (xi p2)), (zsp 3), (6, (.d (.sl [] .nil))), (7, (.row 0 7 s3_24.length)), (15, (.d (dl zh p0.ShelfBook.Deliveries.1 p0.ShelfBook.Deliveries.2))), (16, (xi (p0.ShelfBook.Deliveries.1.length : Int))), (17, (xi v1.1)), (18, (xb false)), (36, (.d (dl zp p0.ShelfBook.Moves.1 p0.ShelfBook.Moves.2))), (37, (xi (p0.ShelfBook.Moves.1.length : Int))), (38, (xi s3_16)), (39, (xb true)), (zsp 11)]
theorem zZi (k : Nat) (p0 : zd) (p1 p2 : Int) (v1 : zt10) (s3_16 : Int) (s3_24 : zt12) (v702 : zE) (r : Bool) (h : z2f k p0 p1 p2 v1 s3_16 s3_24 v702 = some r) : ev TE 92 (rgn TE 92 11) ⟨(z3y p0 p1 p2 s3_24 v1 s3_16), ⟨[(zc 3 (zr p0)), (7, (rowO true 3 zR s3_24 true)), (zc 11 (zp v702))], []⟩, []⟩ = some (.nor, zHd p0 p1 p2 v1 s3_16 s3_24 v702 r) := by
 unfold z2f at h
 refine zn h (fun h801 g1 => ?_) (fun h801 g1 => ?_)
 ·exact zA (g := fun r => (Ex.nor, zHd p0 p1 p2 v1 s3_16 s3_24 v702 r)) g1 (zqe [(92, 11, 4, .q (xb true))] [] (ob (o_b h801) ob0) (by kernel_rfl))
 ·exact zA (g := fun r => (Ex.nor, zHd p0 p1 p2 v1 s3_16 s3_24 v702 r)) g1 (zqe [(92, 11, 4, .q (xb false))] [] (ob (o_b h801) ob0) (by kernel_rfl))
noncomputable def zTe (p0 : zd) (p1 p2 : Int) (v1 : zt10) (s3_16 : Int) (s3_24 : zt12) (v702 : zE) (cb : Bool) (r : zt1) : St := ⟨(z3y p0 p1 p2 s3_24 v1 s3_16 ++ [(52, (xb true)), (zsp 12), (57, (xb r.1))]), ⟨[(zc 3 (zr p0)), (7, (rowO true 3 zR s3_24 true)), (zc 11 (zp v702)), (12, (.cells [(xi r.2), (xi v702.By.Low), (xi v702.By.High)]))], []⟩, []⟩
theorem zSo (k : Nat) (p0 : zd) (p1 p2 : Int) (v1 : zt10) (s3_16 : Int) (s3_24 : zt12) (v702 : zE) (cb : Bool) (r : zt1) (h : zNh k p0 p1 p2 v1 s3_16 s3_24 v702 cb = some r) : ev TE 92 (cnd TE 92 57) ⟨(z3y p0 p1 p2 s3_24 v1 s3_16 ++ [(52, (xb true)), (zsp 12), (57, (xb cb))]), ⟨[(zc 3 (zr p0)), (7, (rowO true 3 zR s3_24 true)), (zc 11 (zp v702)), (12, (.cells [(xi 0), (xi v702.By.Low), (xi v702.By.High)]))], []⟩, []⟩ = some (.nor, zTe p0 p1 p2 v1 s3_16 s3_24 v702 cb r) := by
 unfold zNh at h
 refine zn h (fun h1001 g1 => ?_) (fun h1001 g1 => ?_)
 ·subst h1001
  exact zA (g := fun r => (Ex.nor, zTe p0 p1 p2 v1 s3_16 s3_24 v702 true r)) g1 (zqe [] [] ob0 (by kernel_rfl))
 ·subst h1001
  exact zA (g := fun r => (Ex.nor, zTe p0 p1 p2 v1 s3_16 s3_24 v702 false r)) g1 (zqe [] [] ob0 (by kernel_rfl))
noncomputable def zdD (p0 : zd) (p1 p2 : Int) (s3_24 : zt12) (v1 : zt10) (s3_16 : Int) : TM := [(0, (.d (.agg (zr p0)))), (1, (xi p1)), (2, (xi p2)), (zsp 3), (6, (.d (.sl [] .nil))), (7, (.row 0 7 s3_24.length)), (15, (.d (dl zh p0.ShelfBook.Deliveries.1 p0.ShelfBook.Deliveries.2))), (16, (xi (p0.ShelfBook.Deliveries.1.length : Int))), (17, (xi v1.1)), (18, (xb false)), (36, (.d (dl zp p0.ShelfBook.Moves.1 p0.ShelfBook.Moves.2))), (37, (xi (p0.ShelfBook.Moves.1.length : Int))), (38, (xi s3_16))]
noncomputable def zkp (p0 : zd) (p1 p2 : Int) (v1 : zt10) (s3_16 : Int) (s3_24 : zt12) : St := ⟨(zdD p0 p1 p2 s3_24 v1 s3_16), ⟨[(zc 3 (zr p0)), (7, (rowO true 3 zR s3_24 true))], []⟩, []⟩
noncomputable def zeD (p0 : zd) (p1 p2 : Int) (r v1 : zt10) : TM := [(0, (.d (.agg (zr p0)))), (1, (xi p1)), (2, (xi p2)), (zsp 3), (6, (.d (.sl [] .nil))), (7, (.row 0 7 r.2.length)), (15, (.d (dl zh p0.ShelfBook.Deliveries.1 p0.ShelfBook.Deliveries.2))), (16, (xi (p0.ShelfBook.Deliveries.1.length : Int))), (17, (xi v1.1)), (18, (xb false)), (36, (.d (dl zp p0.ShelfBook.Moves.1 p0.ShelfBook.Moves.2))), (37, (xi (p0.ShelfBook.Moves.1.length : Int))), (38, (xi r.1)), (39, (xb false))]
noncomputable def zOg (p0 : zd) (p1 p2 : Int) (v1 r : zt10) : St := ⟨(zeD p0 p1 p2 r v1), ⟨[(zc 3 (zr p0)), (7, (rowO true 3 zR r.2 true))], []⟩, []⟩
noncomputable def zop (p0 : zd) (p1 p2 : Int) (v1 : zt10) : (Int × (List zF)) → Ex × St := fun r => ((.exit 2), zOg p0 p1 p2 v1 r)
theorem zBo (k : Nat) (p0 : zd) (p1 p2 : Int) (v1 : zt10) (s3_16 : Int) (s3_24 : zt12) (x : (Int × (List zF)) ⊕ (Int × (List zF))) (h : zhe k p0 p1 p2 v1 s3_16 s3_24 = some x) : zQ TE 92 (blk TE 92 2) (fun s : (Int × (List zF)) => zkp p0 p1 p2 v1 s.1 s.2) (zop p0 p1 p2 v1) (s3_16, s3_24) x := by
 unfold zhe at h
 refine zn h (fun h701 g1 => ?_) (fun h701 g1 => ?_)
 ·refine zk g1 (fun v702 h703 g2 => ?_)
  refine zk g2 (fun v704 h705 g3 => ?_)
  refine zn g3 (fun h706 g4 => ?_) (fun h706 g4 => ?_)
  ·subst h706
   refine zk g4 (fun v707 h708 g5 => ?_)
   refine zT g5 (fun h709 g6 => ?_)
   exact zqn ((w64 (s3_16 + 1)), (s3_24 ++ [(⟨v707.2, v702.By⟩ : zF)])) [7] [(92, 9, 0, .q (xb true)), (92, 10, 0, .q (.d (.pin (zp v702)))), (92, 15, 3, .ap (s3_24 ++ [(⟨v707.2, v702.By⟩ : zF)]).length (rowO true 3 zR (s3_24 ++ [(⟨v707.2, v702.By⟩ : zF)]) true))] [(92, 1000011, (.nor, zHd p0 p1 p2 v1 s3_16 s3_24 v702 true)), (92, 2000057, (.nor, zTe p0 p1 p2 v1 s3_16 s3_24 v702 v702.Back v707))] g6 (ob (o_b h701) (ob (o_ia (e := zp) 5 h703 rfl) (ob (zZi k p0 p1 p2 v1 s3_16 s3_24 v702 _ h705) (ob (zSo k p0 p1 p2 v1 s3_16 s3_24 v702 v702.Back _ h708) (ob (o_ap (b := true) (z := 3) (e := zR) (l := s3_24) (w := true) (⟨v707.2, v702.By⟩ : zF) (fun _ => rfl) h709) (ob (zgc true 3 zR (s3_24 ++ [(⟨v707.2, v702.By⟩ : zF)]) true) ob0)))))) (by kernel_rfl)
  ·subst h706
   exact zqn ((w64 (s3_16 + 1)), s3_24) [7] [(92, 9, 0, .q (xb true)), (92, 10, 0, .q (.d (.pin (zp v702))))] [(92, 1000011, (.nor, zHd p0 p1 p2 v1 s3_16 s3_24 v702 false))] g4 (ob (o_b h701) (ob (o_ia (e := zp) 5 h703 rfl) (ob (zZi k p0 p1 p2 v1 s3_16 s3_24 v702 _ h705) (ob (zgc true 3 zR s3_24 true) ob0)))) (by kernel_rfl)
 ·exact zqo [(92, 9, 0, .q (xb false))] [] g1 (ob (o_b h701) ob0) (by kernel_rfl)
theorem znk (k : Nat) (p0 : zd) (p1 p2 : Int) (r : (SL zF)) (h : zoe k p0 p1 p2 = some r) : zM TE (ev TE) 92 [(.agg (zr p0)), (di p1), (di p2)] = some (z6k r) := by
 unfold zoe at h
 refine zk h (fun v1 h2 g1 => ?_)
 refine zk g1 (fun v3 h4 g2 => ?_)
 exact zJ (g := z6k) g2 (zqr [(92, 2, 3, .q (xi (p0.ShelfBook.Deliveries.1.length : Int))), (92, 8, 3, .q (xi (p0.ShelfBook.Moves.1.length : Int)))] [(92, 0, (.nor, zBg p0 p1 p2 v1)), (92, 2, (.nor, zOg p0 p1 p2 v1 v3))] [(dl zR v3.2 (rcap true v3.2))] (ob (zy zh p0.ShelfBook.Deliveries.1) (ob (zG (id := 0) (r' := (.nor, zBg p0 p1 p2 v1)) (zib (zro k p0 p1 p2) k _ _ h2) rfl) (ob (zy zp p0.ShelfBook.Moves.1) (ob (zG (id := 2) (r' := (.nor, zOg p0 p1 p2 v1 v3)) (zib (zBo k p0 p1 p2 v1) k _ _ h4) rfl) (ob (show zpc ⟨[(7, (rowO true 3 zR v3.2 true))], []⟩ _ = _ from (o_s1 (x := (.row 0 7 v3.2.length)) (zAj true 3 zR v3.2 true rfl) o_s0)) ob0))))) (by kernel_rfl))
theorem zce (k : Nat) (p0 r : zt0) (h : zrb k p0 = some r) : zM TE (ev TE) 83 [(.agg (aB 61 p0))] = some (zcj r) := by
 unfold zrb at h
 exact zJ (g := zcj) h (zqc [] [] ob0 (by kernel_rfl))
theorem zCq (k : Nat) (p0 : zd) (p1 p2 r : Int) (h : zVh k p0 p1 p2 = some r) : zM TE (ev TE) 114 [(.agg (zr p0)), (di p1), (di p2)] = some (z9l r) := by
 unfold zVh at h
 exact zJ (g := z9l) h (zqc [] [] ob0 (by kernel_rfl))
theorem zxq (k : Nat) (p0 : zd) (p1 p2 r : Int) (h : zSh k p0 p1 p2 = some r) : zM TE (ev TE) 115 [(.agg (zr p0)), (di p1), (di p2)] = some (zdm r) := by
 unfold zSh at h
 exact zJ (g := zdm) h (zqc [] [] ob0 (by kernel_rfl))
noncomputable def zXD (p0 : zd) (p1 : zt0) (p2 : Int) (p3 : zi) (v1 : zt0) (s1_2 s9_14 v1203 : Int) (r : (Bool × (Nat → Bool))) : TM := [(0, (.d (.agg (zr p0)))), (1, (.d (.agg (aB 61 p1)))), (2, (xi p2)), (3, (.d (.agg [(di p3.Low), (di p3.High)]))), (zsp 4), (zsp 5), (zsp 6), (zsp 7), (zsp 8), (zsp 9), (14, (.d (.fn 96 [] [(.pin (aB 61 v1))]))), (15, (xi s1_2)), (10, (xi s1_2)), (11, (xi s9_14)), (21, (xb true)), (12, (xi v1203)), (40, (xb r.1))]
noncomputable def ztj (p0 : zd) (p1 : zt0) (p2 : Int) (p3 : zi) (v1 : zt0) : TM := [(0, (.d (.agg (zr p0)))), (1, (.d (.agg (aB 61 p1)))), (2, (xi p2)), (3, (.d (.agg [(di p3.Low), (di p3.High)]))), (zsp 4), (zsp 5), (zsp 6), (zsp 7), (zsp 8), (zsp 9), (14, (.d (.fn 96 [] [(.pin (aB 61 v1))])))]
noncomputable def zze (p0 : zd) (p1 : zt0) (p2 : Int) (p3 : zi) (v1 : zt0) (s1_2 s9_14 : Int) (s9_27 : zt0) (v1203 : Int) (v1207 : Bool) (r : (Bool × (Nat → Bool))) : St := ⟨(zXD p0 p1 p2 p3 v1 s1_2 s9_14 v1203 r), ⟨[], [[(zc 4 (zr p0)), (zc 5 (aB 61 p1)), (6, (.cells [(xi p2)])), (7, (.cells [(xi p3.Low), (xi p3.High)])), (zc 8 (aB 61 (fun _ => false))), (zc 9 (aB 61 r.2))], []]⟩, [⟨(ztj p0 p1 p2 p3 v1), 0, rfP (blk TE 93 0), rfA (blk TE 93 0), rfB (blk TE 93 0), 93, .busy⟩]⟩
noncomputable def zjD (p0 : zd) (p1 : zt0) (p2 : Int) (p3 : zi) (v1 : zt0) (s1_2 s9_14 v1203 : Int) (v1207 : Bool) : TM := ztj p0 p1 p2 p3 v1 ++ [(15, (xi s1_2)), (10, (xi s1_2)), (11, (xi s9_14)), (21, (xb true)), (12, (xi v1203)), (40, (xb v1207))]
theorem zOn (k : Nat) (p0 : zd) (p1 : zt0) (p2 : Int) (p3 : zi) (v1 : zt0) (s1_2 s9_14 : Int) (s9_27 : zt0) (v1203 : Int) (v1207 : Bool) (r : (Bool × (Nat → Bool))) (h : z0d k p0 p1 p2 p3 v1 s1_2 s9_14 s9_27 v1203 v1207 = some r) : ev TE 93 (cnd TE 93 40) ⟨(zjD p0 p1 p2 p3 v1 s1_2 s9_14 v1203 v1207), ⟨[], [[(zc 4 (zr p0)), (zc 5 (aB 61 p1)), (6, (.cells [(xi p2)])), (7, (.cells [(xi p3.Low), (xi p3.High)])), (zc 8 (aB 61 (fun _ => false))), (zc 9 (aB 61 s9_27))], []]⟩, [⟨(ztj p0 p1 p2 p3 v1), 0, rfP (blk TE 93 0), rfA (blk TE 93 0), rfB (blk TE 93 0), 93, .busy⟩]⟩ = some (.nor, zze p0 p1 p2 p3 v1 s1_2 s9_14 s9_27 v1203 v1207 r) := by
 unfold z0d at h
 refine zn h (fun h1301 g1 => ?_) (fun h1301 g1 => ?_)
 ·subst h1301
  refine zT g1 (fun h1302 g2 => ?_)
  exact zA (g := fun r => (Ex.nor, zze p0 p1 p2 p3 v1 s1_2 s9_14 s9_27 v1203 true r)) g2 (zqe [(93, 9, 1, .q (.ptr 0 9 (v1203.toNat))), (93, 9, 2, .st ((aB 61 (upd s9_27 v1203.toNat true)).map .d))] [] (ob (zId (m := 61) 0 9 0 1 v1203.toNat h1302 (by omega)) (ob (zVk 61 s9_27 v1203.toNat true (by have := h1302; simp only [Bool.and_eq_true, decide_eq_true_eq] at this; omega)) ob0)) (by kernel_rfl))
 ·subst h1301
  exact zA (g := fun r => (Ex.nor, zze p0 p1 p2 p3 v1 s1_2 s9_14 s9_27 v1203 false r)) g1 (zqe [] [] ob0 (by kernel_rfl))
noncomputable def z9D (p0 : zd) (p1 : zt0) (p2 : Int) (p3 : zi) (v1 : zt0) (s1_2 s9_14 v1204 : Int) (r : (Bool × (Nat → Bool))) : TM := ztj p0 p1 p2 p3 v1 ++ [(15, (xi s1_2)), (10, (xi s1_2)), (11, (xi s9_14)), (21, (xb true)), (12, (xi v1204)), (40, (xb r.1))]
noncomputable def zBe (p0 : zd) (p1 : zt0) (p2 : Int) (p3 : zi) (v1 : zt0) (s1_2 s9_14 : Int) (s9_27 : zt0) (v1204 : Int) (v1208 : Bool) (r : (Bool × (Nat → Bool))) : St := ⟨(z9D p0 p1 p2 p3 v1 s1_2 s9_14 v1204 r), ⟨[], [[(zc 4 (zr p0)), (zc 5 (aB 61 p1)), (6, (.cells [(xi p2)])), (7, (.cells [(xi p3.Low), (xi p3.High)])), (zc 8 (aB 61 (fun _ => false))), (zc 9 (aB 61 r.2))], []]⟩, [⟨(ztj p0 p1 p2 p3 v1), 0, rfP (blk TE 93 0), rfA (blk TE 93 0), rfB (blk TE 93 0), 93, .busy⟩]⟩
noncomputable def zOD (p0 : zd) (p1 : zt0) (p2 : Int) (p3 : zi) (v1 : zt0) (s1_2 s9_14 v1204 : Int) (v1208 : Bool) : TM := ztj p0 p1 p2 p3 v1 ++ [(15, (xi s1_2)), (10, (xi s1_2)), (11, (xi s9_14)), (21, (xb true)), (12, (xi v1204)), (40, (xb v1208))]
theorem zMn (k : Nat) (p0 : zd) (p1 : zt0) (p2 : Int) (p3 : zi) (v1 : zt0) (s1_2 s9_14 : Int) (s9_27 : zt0) (v1204 : Int) (v1208 : Bool) (r : (Bool × (Nat → Bool))) (h : zTd k p0 p1 p2 p3 v1 s1_2 s9_14 s9_27 v1204 v1208 = some r) : ev TE 93 (cnd TE 93 40) ⟨(zOD p0 p1 p2 p3 v1 s1_2 s9_14 v1204 v1208), ⟨[], [[(zc 4 (zr p0)), (zc 5 (aB 61 p1)), (6, (.cells [(xi p2)])), (7, (.cells [(xi p3.Low), (xi p3.High)])), (zc 8 (aB 61 (fun _ => false))), (zc 9 (aB 61 s9_27))], []]⟩, [⟨(ztj p0 p1 p2 p3 v1), 0, rfP (blk TE 93 0), rfA (blk TE 93 0), rfB (blk TE 93 0), 93, .busy⟩]⟩ = some (.nor, zBe p0 p1 p2 p3 v1 s1_2 s9_14 s9_27 v1204 v1208 r) := by
 unfold zTd at h
 refine zn h (fun h1401 g1 => ?_) (fun h1401 g1 => ?_)
 ·subst h1401
  refine zT g1 (fun h1402 g2 => ?_)
  exact zA (g := fun r => (Ex.nor, zBe p0 p1 p2 p3 v1 s1_2 s9_14 s9_27 v1204 true r)) g2 (zqe [(93, 9, 1, .q (.ptr 0 9 (v1204.toNat))), (93, 9, 2, .st ((aB 61 (upd s9_27 v1204.toNat true)).map .d))] [] (ob (zId (m := 61) 0 9 0 1 v1204.toNat h1402 (by omega)) (ob (zVk 61 s9_27 v1204.toNat true (by have := h1402; simp only [Bool.and_eq_true, decide_eq_true_eq] at this; omega)) ob0)) (by kernel_rfl))
 ·subst h1401
  exact zA (g := fun r => (Ex.nor, zBe p0 p1 p2 p3 v1 s1_2 s9_14 s9_27 v1204 false r)) g1 (zqe [] [] ob0 (by kernel_rfl))
noncomputable def z0o (p0 : zd) (p1 : zt0) (p2 : Int) (p3 : zi) (v1 : zt0) (s1_2 s9_14 : Int) (s9_27 : zt0) : St := ⟨(ztj p0 p1 p2 p3 v1 ++ [(15, (xi s1_2)), (10, (xi s1_2)), (11, (xi s9_14))]), ⟨[], [[(zc 4 (zr p0)), (zc 5 (aB 61 p1)), (6, (.cells [(xi p2)])), (7, (.cells [(xi p3.Low), (xi p3.High)])), (zc 8 (aB 61 (fun _ => false))), (zc 9 (aB 61 s9_27))], []]⟩, [⟨(ztj p0 p1 p2 p3 v1), 0, rfP (blk TE 93 0), rfA (blk TE 93 0), rfB (blk TE 93 0), 93, .busy⟩]⟩
noncomputable def zEg (p0 : zd) (p1 : zt0) (p2 : Int) (p3 : zi) (v1 : zt0) (s1_2 : Int) (r : zt11) : St := ⟨(ztj p0 p1 p2 p3 v1 ++ [(15, (xi s1_2)), (10, (xi s1_2)), (11, (xi r.1)), (21, (xb false))]), ⟨[], [[(zc 4 (zr p0)), (zc 5 (aB 61 p1)), (6, (.cells [(xi p2)])), (7, (.cells [(xi p3.Low), (xi p3.High)])), (zc 8 (aB 61 (fun _ => false))), (zc 9 (aB 61 r.2))], []]⟩, [⟨(ztj p0 p1 p2 p3 v1), 0, rfP (blk TE 93 0), rfA (blk TE 93 0), rfB (blk TE 93 0), 93, .busy⟩]⟩
noncomputable def ztp (p0 : zd) (p1 : zt0) (p2 : Int) (p3 : zi) (v1 : zt0) (s1_2 : Int) : (Int × (Nat → Bool)) → Ex × St := fun r => ((.exit 2), zEg p0 p1 p2 p3 v1 s1_2 r)
theorem zzo (k : Nat) (p0 : zd) (p1 : zt0) (p2 : Int) (p3 : zi) (v1 : zt0) (s1_2 s9_14 : Int) (s9_27 : zt0) (x : (Int × (Nat → Bool)) ⊕ (Int × (Nat → Bool))) (h : zic k p0 p1 p2 p3 v1 s1_2 s9_14 s9_27 = some x) : zQ TE 93 (blk TE 93 2) (fun s : (Int × (Nat → Bool)) => z0o p0 p1 p2 p3 v1 s1_2 s.1 s.2) (ztp p0 p1 p2 p3 v1 s1_2) (s9_14, s9_27) x := by
 unfold zic at h
 refine zn h (fun h1201 g1 => ?_) (fun h1201 g1 => ?_)
 ·refine zn g1 (fun h1202 g2 => ?_) (fun h1202 g2 => ?_)
  ·refine zk g2 (fun v1203 h1204 g3 => ?_)
   refine zk g3 (fun v1205 h1206 g4 => ?_)
   refine zk g4 (fun v1207 h1208 g5 => ?_)
   refine zk g5 (fun v1209 h1210 g6 => ?_)
   exact zqn ((w64 (s9_14 + 1)), v1209.2) [] [(93, 5, 3, .q (xb true)), (93, 7, 1, .q (.d (.pin [(.fn 114 [] []), (.fn 115 [] [])]))), (93, 7, 6, .c (di v1203)), (93, 8, 6, .q (.d (.pin (zo v1205)))), (93, 8, 9, .c (db v1207))] [(93, 2000040, (.nor, zze p0 p1 p2 p3 v1 s1_2 s9_14 s9_27 v1203 v1207 v1209))] g6 (ob (o_b h1201) (ob (z8x [(.fn 114 [] []), (.fn 115 [] [])] 2 1 (j := 0) (eq_of_beq h1202) (by decide)) (ob (zCq k p0 s1_2 s9_14 _ h1204) (ob (o_ia (e := zo) 3 h1206 rfl) (ob (zH k v1203 0 v1205.Room _ h1208) (ob (zOn k p0 p1 p2 p3 v1 s1_2 s9_14 s9_27 v1203 v1207 _ h1210) ob0)))))) (by kernel_rfl)
  ·refine zn g2 (fun h1203 g3 => ?_) (fun h1203 g3 => ?_)
   ·refine zk g3 (fun v1204 h1205 g4 => ?_)
    refine zk g4 (fun v1206 h1207 g5 => ?_)
    refine zk g5 (fun v1208 h1209 g6 => ?_)
    refine zk g6 (fun v1210 h1211 g7 => ?_)
    exact zqn ((w64 (s9_14 + 1)), v1210.2) [] [(93, 5, 3, .q (xb true)), (93, 7, 1, .q (.d (.pin [(.fn 115 [] [])]))), (93, 7, 6, .c (di v1204)), (93, 8, 6, .q (.d (.pin (zo v1206)))), (93, 8, 9, .c (db v1208))] [(93, 2000040, (.nor, zBe p0 p1 p2 p3 v1 s1_2 s9_14 s9_27 v1204 v1208 v1210))] g7 (ob (o_b h1201) (ob (z8x [(.fn 114 [] []), (.fn 115 [] [])] 2 1 (j := 1) (eq_of_beq h1203) (by decide)) (ob (zxq k p0 s1_2 s9_14 _ h1205) (ob (o_ia (e := zo) 3 h1207 rfl) (ob (zH k v1204 0 v1206.Room _ h1209) (ob (zMn k p0 p1 p2 p3 v1 s1_2 s9_14 s9_27 v1204 v1208 _ h1211) ob0)))))) (by kernel_rfl)
   ·cases g3
 ·exact zqo [(93, 5, 3, .q (xb false))] [] g1 (ob (o_b h1201) ob0) (by kernel_rfl)
noncomputable def zbD (v1 : zt0) (s1_2 : Int) : TM := [(0, (.yld 0)), (1, (.d (.pin (aB 61 v1)))), (5, (.d (.agg (aB 61 v1)))), (6, (xi s1_2)), (7, (xb true)), (3, (xi s1_2)), (4, (xb (v1 s1_2.toNat))), (16, (xb false))]
noncomputable def zXe (p0 : zd) (p1 : zt0) (p2 : Int) (p3 : zi) (v1 : zt0) (s1_2 : Int) (s1_15 r : zt0) : St := ⟨(zbD v1 s1_2), ⟨[], [[(zc 4 (zr p0)), (zc 5 (aB 61 p1)), (6, (.cells [(xi p2)])), (7, (.cells [(xi p3.Low), (xi p3.High)])), (zc 8 (aB 61 (fun _ => false))), (zc 9 (aB 61 r))]]⟩, [⟨(ztj p0 p1 p2 p3 v1), 0, rfP (blk TE 93 0), rfA (blk TE 93 0), rfB (blk TE 93 0), 93, .rdy⟩]⟩
noncomputable def zKD (v1 : zt0) (s1_2 : Int) : TM := [(0, (.yld 0)), (1, (.d (.pin (aB 61 v1)))), (5, (.d (.agg (aB 61 v1)))), (6, (xi s1_2)), (7, (xb true)), (3, (xi s1_2)), (4, (xb (v1 s1_2.toNat)))]
theorem zFo (k : Nat) (p0 : zd) (p1 : zt0) (p2 : Int) (p3 : zi) (v1 : zt0) (s1_2 : Int) (s1_15 r : zt0) (h : z1f k p0 p1 p2 p3 v1 s1_2 s1_15 = some r) : ev TE 96 (rgn TE 96 3) ⟨(zKD v1 s1_2), ⟨[], [[(zc 4 (zr p0)), (zc 5 (aB 61 p1)), (6, (.cells [(xi p2)])), (7, (.cells [(xi p3.Low), (xi p3.High)])), (zc 8 (aB 61 (fun _ => false))), (zc 9 (aB 61 s1_15))]]⟩, [⟨(ztj p0 p1 p2 p3 v1), 0, rfP (blk TE 93 0), rfA (blk TE 93 0), rfB (blk TE 93 0), 93, .rdy⟩]⟩ = some (.nor, zXe p0 p1 p2 p3 v1 s1_2 s1_15 r) := by
 unfold z1f at h
 refine zn h (fun h901 g1 => ?_) (fun h901 g1 => ?_)
 ·refine zk g1 (fun v902 h903 g2 => ?_)
  exact zA (g := fun r => (Ex.nor, zXe p0 p1 p2 p3 v1 s1_2 s1_15 r)) g2 (zqe [(96, 3, 1, .q (xb true))] [(93, 2, (.nor, zEg p0 p1 p2 p3 v1 s1_2 v902))] (ob (o_b h901) (ob (zG (id := 2) (r' := (.nor, zEg p0 p1 p2 p3 v1 s1_2 v902)) (zib (zzo k p0 p1 p2 p3 v1 s1_2) k _ _ h903) rfl) ob0)) (by kernel_rfl))
 ·exact zA (g := fun r => (Ex.nor, zXe p0 p1 p2 p3 v1 s1_2 s1_15 r)) g1 (zqe [(96, 3, 1, .q (xb false))] [] (ob (o_b h901) ob0) (by kernel_rfl))
noncomputable def zaE (v1 : zt0) (s1_2 : Int) : TM := [(0, (.yld 0)), (1, (.d (.pin (aB 61 v1)))), (5, (.d (.agg (aB 61 v1)))), (6, (xi s1_2))]
noncomputable def zep (p0 : zd) (p1 : zt0) (p2 : Int) (p3 : zi) (v1 : zt0) (s1_2 : Int) (s1_15 : zt0) : St := ⟨(zaE v1 s1_2), ⟨[], [[(zc 4 (zr p0)), (zc 5 (aB 61 p1)), (6, (.cells [(xi p2)])), (7, (.cells [(xi p3.Low), (xi p3.High)])), (zc 8 (aB 61 (fun _ => false))), (zc 9 (aB 61 s1_15))]]⟩, [⟨(ztj p0 p1 p2 p3 v1), 0, rfP (blk TE 93 0), rfA (blk TE 93 0), rfB (blk TE 93 0), 93, .rdy⟩]⟩
noncomputable def zfE (v1 : zt0) (r : zt11) : TM := [(0, (.yld 0)), (1, (.d (.pin (aB 61 v1)))), (5, (.d (.agg (aB 61 v1)))), (6, (xi r.1)), (7, (xb false))]
noncomputable def zyg (p0 : zd) (p1 : zt0) (p2 : Int) (p3 : zi) (v1 : zt0) (r : zt11) : St := ⟨(zfE v1 r), ⟨[], [[(zc 4 (zr p0)), (zc 5 (aB 61 p1)), (6, (.cells [(xi p2)])), (7, (.cells [(xi p3.Low), (xi p3.High)])), (zc 8 (aB 61 (fun _ => false))), (zc 9 (aB 61 r.2))]]⟩, [⟨(ztj p0 p1 p2 p3 v1), 0, rfP (blk TE 93 0), rfA (blk TE 93 0), rfB (blk TE 93 0), 93, .rdy⟩]⟩
noncomputable def znp (p0 : zd) (p1 : zt0) (p2 : Int) (p3 : zi) (v1 : zt0) : (Int × (Nat → Bool)) → Ex × St := fun r => ((.exit 0), zyg p0 p1 p2 p3 v1 r)
theorem zwo (k : Nat) (p0 : zd) (p1 : zt0) (p2 : Int) (p3 : zi) (v1 : zt0) (s1_2 : Int) (s1_15 : zt0) (x : (Int × (Nat → Bool)) ⊕ (Int × (Nat → Bool))) (h : zfe k p0 p1 p2 p3 v1 s1_2 s1_15 = some x) : zQ TE 96 (blk TE 96 0) (fun s : (Int × (Nat → Bool)) => zep p0 p1 p2 p3 v1 s.1 s.2) (znp p0 p1 p2 p3 v1) (s1_2, s1_15) x := by
 unfold zfe at h
 refine zn h (fun h801 g1 => ?_) (fun h801 g1 => ?_)
 ·refine zT g1 (fun h802 g2 => ?_)
  refine zk g2 (fun v803 h804 g3 => ?_)
  exact zqn ((w64 (s1_2 + 1)), v803) [] [(96, 1, 0, .q (xb true)), (96, 2, 1, .q (xb (v1 s1_2.toNat)))] [(96, 1000003, (.nor, zXe p0 p1 p2 p3 v1 s1_2 s1_15 v803))] g3 (ob (o_b h801) (ob (z7s 61 v1 s1_2 h802) (ob (zFo k p0 p1 p2 p3 v1 s1_2 s1_15 _ h804) ob0))) (by kernel_rfl)
 ·exact zqo [(96, 1, 0, .q (xb false))] [] g1 (ob (o_b h801) ob0) (by kernel_rfl)
theorem zmk (k : Nat) (p0 : zd) (p1 : zt0) (p2 : Int) (p3 : zi) (r : zt0) (h : ztd k p0 p1 p2 p3 = some r) : zM TE (ev TE) 93 [(.agg (zr p0)), (.agg (aB 61 p1)), (di p2), (.agg [(di p3.Low), (di p3.High)])] = some (z1k r) := by
 unfold ztd at h
 refine zk h (fun v1 h2 g1 => ?_)
 refine zk g1 (fun v3 h4 g2 => ?_)
 exact zJ (g := z1k) g2 (zqc [(93, 2, 1, .c (.fn 96 [] [(.pin (aB 61 v1))]))] [(96, 0, (.nor, zyg p0 p1 p2 p3 v1 v3))] (ob (zce k p1 _ h2) (ob (zG (id := 0) (r' := (.nor, zyg p0 p1 p2 p3 v1 v3)) (zib (zwo k p0 p1 p2 p3 v1) k _ _ h4) rfl) ob0)) (by kernel_rfl))
noncomputable def zCD (p0 : zd) (p1 : zt0) (p2 s1_11 : Int) (r : Bool) : TM := [(0, (.d (.agg (zr p0)))), (1, (.d (.agg (aB 61 p1)))), (2, (xi p2)), (zsp 3), (zsp 4), (zsp 6), (12, (.d (dl zj p0.ShelfBook.Counts.1 p0.ShelfBook.Counts.2))), (13, (xi (p0.ShelfBook.Counts.1.length : Int))), (14, (xi s1_11)), (15, (xb true)), (zsp 8), (7, (xi s1_11)), (37, (xb r))]
noncomputable def z5b (p0 : zd) (p1 : zt0) (p2 s1_11 : Int) (s1_19 : zt0) (v602 : zq) (r : Bool) : St := ⟨(zCD p0 p1 p2 s1_11 r), ⟨[(zc 3 (zr p0)), (zc 4 (aB 61 s1_19)), (zc 6 (aB 61 (fun _ => false))), (zc 8 (zj v602))], []⟩, []⟩
noncomputable def zuv (p0 : zd) (p1 : zt0) (p2 s1_11 : Int) : TM := [(0, (.d (.agg (zr p0)))), (1, (.d (.agg (aB 61 p1)))), (2, (xi p2)), (zsp 3), (zsp 4), (zsp 6), (12, (.d (dl zj p0.ShelfBook.Counts.1 p0.ShelfBook.Counts.2))), (13, (xi (p0.ShelfBook.Counts.1.length : Int))), (14, (xi s1_11)), (15, (xb true)), (zsp 8), (7, (xi s1_11))]
theorem zji (k : Nat) (p0 : zd) (p1 : zt0) (p2 s1_11 : Int) (s1_19 : zt0) (v602 : zq) (r : Bool) (h : zRe k p0 p1 p2 s1_11 s1_19 v602 = some r) : ev TE 95 (rgn TE 95 4) ⟨(zuv p0 p1 p2 s1_11), ⟨[(zc 3 (zr p0)), (zc 4 (aB 61 s1_19)), (zc 6 (aB 61 (fun _ => false))), (zc 8 (zj v602))], []⟩, []⟩ = some (.nor, z5b p0 p1 p2 s1_11 s1_19 v602 r) := by
 unfold zRe at h
 refine zn h (fun h701 g1 => ?_) (fun h701 g1 => ?_)
 ·exact zA (g := fun r => (Ex.nor, z5b p0 p1 p2 s1_11 s1_19 v602 r)) g1 (zqe [(95, 4, 4, .q (xb true))] [] (ob (o_b h701) ob0) (by kernel_rfl))
 ·refine zn g1 (fun h702 g2 => ?_) (fun h702 g2 => ?_)
  ·exact zA (g := fun r => (Ex.nor, z5b p0 p1 p2 s1_11 s1_19 v602 r)) g2 (zqe [(95, 4, 4, .q (xb false)), (95, 4, 11, .q (xb true))] [] (ob (o_b h701) (ob (o_b h702) ob0)) (by kernel_rfl))
  ·refine zn g2 (fun h703 g3 => ?_) (fun h703 g3 => ?_)
   ·cases g3
   ·exact zA (g := fun r => (Ex.nor, z5b p0 p1 p2 s1_11 s1_19 v602 r)) g3 (zqe [(95, 4, 4, .q (xb false)), (95, 4, 11, .q (xb false)), (95, 4, 15, .q (xi (z7 p0.left s1_11)))] [] (ob (o_b h701) (ob (o_b h702) (ob (zVe (x := p0.left) h703) ob0))) (by kernel_rfl))
noncomputable def zbe (p0 : zd) (p1 : zt0) (p2 s1_11 : Int) (v602 : zq) (s7_15 : Int) (s7_23 r : zt0) : St := ⟨(zuv p0 p1 p2 s1_11 ++ [(37, (xb false)), (38, (xi s7_15)), (39, (xb true)), (9, (xi s7_15))]), ⟨[(zc 3 (zr p0)), (zc 4 (aB 61 r)), (zc 6 (aB 61 (fun _ => false))), (zc 8 (zj v602))], []⟩, []⟩
theorem zZm (k : Nat) (p0 : zd) (p1 : zt0) (p2 s1_11 : Int) (v602 : zq) (s7_15 : Int) (s7_23 r : zt0) (h : z3e k p0 p1 p2 s1_11 v602 s7_15 s7_23 = some r) : ev TE 95 (rgn TE 95 8) ⟨(zuv p0 p1 p2 s1_11 ++ [(37, (xb false)), (38, (xi s7_15)), (39, (xb true)), (9, (xi s7_15))]), ⟨[(zc 3 (zr p0)), (zc 4 (aB 61 s7_23)), (zc 6 (aB 61 (fun _ => false))), (zc 8 (zj v602))], []⟩, []⟩ = some (.nor, zbe p0 p1 p2 s1_11 v602 s7_15 s7_23 r) := by
 unfold z3e at h
 refine zT h (fun h1001 g1 => ?_)
 refine zn g1 (fun h1002 g2 => ?_) (fun h1002 g2 => ?_)
 ·refine zk g2 (fun v1003 h1004 g3 => ?_)
  exact zA (g := fun r => (Ex.nor, zbe p0 p1 p2 s1_11 v602 s7_15 s7_23 r)) g3 (zqe [(95, 8, 2, .q (.ptr 0 4 (s7_15.toNat))), (95, 8, 3, .q (xb (s7_23 s7_15.toNat))), (95, 8, 4, .q (xb true)), (95, 8, 16, .c (db v1003)), (95, 8, 18, .q (.ptr 0 4 (s7_15.toNat))), (95, 8, 19, .st ((aB 61 (upd s7_23 s7_15.toNat v1003)).map .d))] [] (ob (zId (m := 61) 0 4 0 1 s7_15.toNat h1001 (by omega)) (ob (zws 61 s7_23 s7_15.toNat (by have := h1001; simp only [Bool.and_eq_true, decide_eq_true_eq] at this; omega)) (ob (o_b h1002) (ob (zH k s7_15 (w64 (v602.Read - v602.Err)) (w64 (v602.Read + v602.Err)) _ h1004) (ob (zId (m := 61) 0 4 0 1 s7_15.toNat h1001 (by omega)) (ob (zVk 61 s7_23 s7_15.toNat v1003 (by have := h1001; simp only [Bool.and_eq_true, decide_eq_true_eq] at this; omega)) ob0)))))) (by kernel_rfl))
 ·exact zA (g := fun r => (Ex.nor, zbe p0 p1 p2 s1_11 v602 s7_15 s7_23 r)) g2 (zqe [(95, 8, 2, .q (.ptr 0 4 (s7_15.toNat))), (95, 8, 3, .q (xb (s7_23 s7_15.toNat))), (95, 8, 4, .q (xb false)), (95, 8, 18, .q (.ptr 0 4 (s7_15.toNat))), (95, 8, 19, .st ((aB 61 (upd s7_23 s7_15.toNat false)).map .d))] [] (ob (zId (m := 61) 0 4 0 1 s7_15.toNat h1001 (by omega)) (ob (zws 61 s7_23 s7_15.toNat (by have := h1001; simp only [Bool.and_eq_true, decide_eq_true_eq] at this; omega)) (ob (o_b h1002) (ob (zId (m := 61) 0 4 0 1 s7_15.toNat h1001 (by omega)) (ob (zVk 61 s7_23 s7_15.toNat false (by have := h1001; simp only [Bool.and_eq_true, decide_eq_true_eq] at this; omega)) ob0))))) (by kernel_rfl))
noncomputable def zEn (p0 : zd) (p1 : zt0) (p2 s1_11 : Int) (v602 : zq) (s7_15 : Int) (s7_23 : zt0) : St := ⟨(zuv p0 p1 p2 s1_11 ++ [(37, (xb false)), (38, (xi s7_15))]), ⟨[(zc 3 (zr p0)), (zc 4 (aB 61 s7_23)), (zc 6 (aB 61 (fun _ => false))), (zc 8 (zj v602))], []⟩, []⟩
noncomputable def zJf (p0 : zd) (p1 : zt0) (p2 s1_11 : Int) (v602 : zq) (r : zt11) : St := ⟨(zuv p0 p1 p2 s1_11 ++ [(37, (xb false)), (38, (xi r.1)), (39, (xb false))]), ⟨[(zc 3 (zr p0)), (zc 4 (aB 61 r.2)), (zc 6 (aB 61 (fun _ => false))), (zc 8 (zj v602))], []⟩, []⟩
noncomputable def zJn (p0 : zd) (p1 : zt0) (p2 s1_11 : Int) (v602 : zq) : (Int × (Nat → Bool)) → Ex × St := fun r => ((.exit 2), zJf p0 p1 p2 s1_11 v602 r)
theorem zwn (k : Nat) (p0 : zd) (p1 : zt0) (p2 s1_11 : Int) (v602 : zq) (s7_15 : Int) (s7_23 : zt0) (x : (Int × (Nat → Bool)) ⊕ (Int × (Nat → Bool))) (h : zwc k p0 p1 p2 s1_11 v602 s7_15 s7_23 = some x) : zQ TE 95 (blk TE 95 2) (fun s : (Int × (Nat → Bool)) => zEn p0 p1 p2 s1_11 v602 s.1 s.2) (zJn p0 p1 p2 s1_11 v602) (s7_15, s7_23) x := by
 unfold zwc at h
 refine zn h (fun h901 g1 => ?_) (fun h901 g1 => ?_)
 ·refine zk g1 (fun v902 h903 g2 => ?_)
  exact zqn ((w64 (s7_15 + 1)), v902) [] [(95, 6, 0, .q (xb true))] [(95, 1000008, (.nor, zbe p0 p1 p2 s1_11 v602 s7_15 s7_23 v902))] g2 (ob (o_b h901) (ob (zZm k p0 p1 p2 s1_11 v602 s7_15 s7_23 _ h903) ob0)) (by kernel_rfl)
 ·exact zqo [(95, 6, 0, .q (xb false))] [] g1 (ob (o_b h901) ob0) (by kernel_rfl)
noncomputable def zhD (p0 : zd) (p1 : zt0) (p2 s1_11 : Int) : TM := [(0, (.d (.agg (zr p0)))), (1, (.d (.agg (aB 61 p1)))), (2, (xi p2)), (zsp 3), (zsp 4), (zsp 6), (12, (.d (dl zj p0.ShelfBook.Counts.1 p0.ShelfBook.Counts.2))), (13, (xi (p0.ShelfBook.Counts.1.length : Int))), (14, (xi s1_11))]
noncomputable def zPn (p0 : zd) (p1 : zt0) (p2 s1_11 : Int) (s1_19 : zt0) : St := ⟨(zhD p0 p1 p2 s1_11), ⟨[(zc 3 (zr p0)), (zc 4 (aB 61 s1_19)), (zc 6 (aB 61 (fun _ => false)))], []⟩, []⟩
noncomputable def zED (p0 : zd) (p1 : zt0) (p2 : Int) (r : zt11) : TM := [(0, (.d (.agg (zr p0)))), (1, (.d (.agg (aB 61 p1)))), (2, (xi p2)), (zsp 3), (zsp 4), (zsp 6), (12, (.d (dl zj p0.ShelfBook.Counts.1 p0.ShelfBook.Counts.2))), (13, (xi (p0.ShelfBook.Counts.1.length : Int))), (14, (xi r.1)), (15, (xb false))]
noncomputable def zKf (p0 : zd) (p1 : zt0) (p2 : Int) (r : zt11) : St := ⟨(zED p0 p1 p2 r), ⟨[(zc 3 (zr p0)), (zc 4 (aB 61 r.2)), (zc 6 (aB 61 (fun _ => false)))], []⟩, []⟩
noncomputable def zGn (p0 : zd) (p1 : zt0) (p2 : Int) : (Int × (Nat → Bool)) → Ex × St := fun r => ((.exit 0), zKf p0 p1 p2 r)
theorem z1m (k : Nat) (p0 : zd) (p1 : zt0) (p2 s1_11 : Int) (s1_19 : zt0) (x : (Int × (Nat → Bool)) ⊕ (Int × (Nat → Bool))) (h : zFd k p0 p1 p2 s1_11 s1_19 = some x) : zQ TE 95 (blk TE 95 0) (fun s : (Int × (Nat → Bool)) => zPn p0 p1 p2 s.1 s.2) (zGn p0 p1 p2) (s1_11, s1_19) x := by
 unfold zFd at h
 refine zn h (fun h601 g1 => ?_) (fun h601 g1 => ?_)
 ·refine zk g1 (fun v602 h603 g2 => ?_)
  refine zk g2 (fun v604 h605 g3 => ?_)
  refine zn g3 (fun h606 g4 => ?_) (fun h606 g4 => ?_)
  ·subst h606
   exact zqn ((w64 (s1_11 + 1)), s1_19) [] [(95, 2, 0, .q (xb true)), (95, 3, 1, .q (.d (.pin (zj v602))))] [(95, 1000004, (.nor, z5b p0 p1 p2 s1_11 s1_19 v602 true))] g4 (ob (o_b h601) (ob (o_ia (e := zj) 4 h603 rfl) (ob (zji k p0 p1 p2 s1_11 s1_19 v602 _ h605) ob0))) (by kernel_rfl)
  ·subst h606
   refine zk g4 (fun v607 h608 g5 => ?_)
   exact zqn ((w64 (s1_11 + 1)), v607.2) [] [(95, 2, 0, .q (xb true)), (95, 3, 1, .q (.d (.pin (zj v602))))] [(95, 1000004, (.nor, z5b p0 p1 p2 s1_11 s1_19 v602 false)), (95, 2, (.nor, zJf p0 p1 p2 s1_11 v602 v607))] g5 (ob (o_b h601) (ob (o_ia (e := zj) 4 h603 rfl) (ob (zji k p0 p1 p2 s1_11 s1_19 v602 _ h605) (ob (zG (id := 2) (r' := (.nor, zJf p0 p1 p2 s1_11 v602 v607)) (zib (zwn k p0 p1 p2 s1_11 v602) k _ _ h608) rfl) ob0)))) (by kernel_rfl)
 ·exact zqo [(95, 2, 0, .q (xb false))] [] g1 (ob (o_b h601) ob0) (by kernel_rfl)
theorem zFj (k : Nat) (p0 : zd) (p1 : zt0) (p2 : Int) (r : zt0) (h : zvd k p0 p1 p2 = some r) : zM TE (ev TE) 95 [(.agg (zr p0)), (.agg (aB 61 p1)), (di p2)] = some (zXj r) := by
 unfold zvd at h
 refine zk h (fun v1 h2 g1 => ?_)
 exact zJ (g := zXj) g1 (zqc [(95, 1, 3, .q (xi (p0.ShelfBook.Counts.1.length : Int)))] [(95, 0, (.nor, zKf p0 p1 p2 v1))] (ob (zy zj p0.ShelfBook.Counts.1) (ob (zG (id := 0) (r' := (.nor, zKf p0 p1 p2 v1)) (zib (z1m k p0 p1 p2) k _ _ h2) rfl) ob0)) (by kernel_rfl))
noncomputable def zHD (v1 : zt0) (s1_2 : Int) : TM := [(0, (.yld 0)), (1, (.d (.pin (aB 61 v1)))), (5, (.d (.agg (aB 61 v1)))), (6, (xi s1_2)), (7, (xb true)), (3, (xi s1_2)), (4, (xb (v1 s1_2.toNat))), (16, (xb false))]
noncomputable def zKw (p0 p1 v1 : zt0) : TM := [(0, (.d (.agg (aB 61 p0)))), (1, (.d (.agg (aB 61 p1)))), (zsp 2), (zsp 3), (zsp 4), (7, (.d (.fn 96 [] [(.pin (aB 61 v1))])))]
noncomputable def z2h (p0 p1 v1 : zt0) (s1_2 : Int) (s1_3 r : zt0) : St := ⟨(zHD v1 s1_2), ⟨[], [[(zc 2 (aB 61 r)), (zc 3 (aB 61 p1)), (zc 4 (aB 61 (fun _ => false)))]]⟩, [⟨(zKw p0 p1 v1), 0, rfP (blk TE 94 0), rfA (blk TE 94 0), rfB (blk TE 94 0), 94, .rdy⟩]⟩
noncomputable def ziD (v1 : zt0) (s1_2 : Int) : TM := [(0, (.yld 0)), (1, (.d (.pin (aB 61 v1)))), (5, (.d (.agg (aB 61 v1)))), (6, (xi s1_2)), (7, (xb true)), (3, (xi s1_2)), (4, (xb (v1 s1_2.toNat)))]
theorem zKr (k : Nat) (p0 p1 v1 : zt0) (s1_2 : Int) (s1_3 r : zt0) (h : zdj k p0 p1 v1 s1_2 s1_3 = some r) : ev TE 96 (rgn TE 96 3) ⟨(ziD v1 s1_2), ⟨[], [[(zc 2 (aB 61 s1_3)), (zc 3 (aB 61 p1)), (zc 4 (aB 61 (fun _ => false)))]]⟩, [⟨(zKw p0 p1 v1), 0, rfP (blk TE 94 0), rfA (blk TE 94 0), rfB (blk TE 94 0), 94, .rdy⟩]⟩ = some (.nor, z2h p0 p1 v1 s1_2 s1_3 r) := by
 unfold zdj at h
 refine zn h (fun h401 g1 => ?_) (fun h401 g1 => ?_)
 ·refine zT g1 (fun h402 g2 => ?_)
  exact zA (g := fun r => (Ex.nor, z2h p0 p1 v1 s1_2 s1_3 r)) g2 (zqe [(96, 3, 1, .q (xb true)), (94, 3, 1, .q (.ptr 0 2 (s1_2.toNat))), (94, 3, 2, .st ((aB 61 (upd s1_3 s1_2.toNat true)).map .d))] [] (ob (o_b h401) (ob (zId (m := 61) 0 2 0 1 s1_2.toNat h402 (by omega)) (ob (zVk 61 s1_3 s1_2.toNat true (by have := h402; simp only [Bool.and_eq_true, decide_eq_true_eq] at this; omega)) ob0))) (by kernel_rfl))
 ·exact zA (g := fun r => (Ex.nor, z2h p0 p1 v1 s1_2 s1_3 r)) g1 (zqe [(96, 3, 1, .q (xb false))] [] (ob (o_b h401) ob0) (by kernel_rfl))
noncomputable def z9C (v1 : zt0) (s1_2 : Int) : TM := [(0, (.yld 0)), (1, (.d (.pin (aB 61 v1)))), (5, (.d (.agg (aB 61 v1)))), (6, (xi s1_2))]
noncomputable def zFs (p0 p1 v1 : zt0) (s1_2 : Int) (s1_3 : zt0) : St := ⟨(z9C v1 s1_2), ⟨[], [[(zc 2 (aB 61 s1_3)), (zc 3 (aB 61 p1)), (zc 4 (aB 61 (fun _ => false)))]]⟩, [⟨(zKw p0 p1 v1), 0, rfP (blk TE 94 0), rfA (blk TE 94 0), rfB (blk TE 94 0), 94, .rdy⟩]⟩
noncomputable def zYD (v1 : zt0) (r : zt11) : TM := [(0, (.yld 0)), (1, (.d (.pin (aB 61 v1)))), (5, (.d (.agg (aB 61 v1)))), (6, (xi r.1)), (7, (xb false))]
noncomputable def zoj (p0 p1 v1 : zt0) (r : zt11) : St := ⟨(zYD v1 r), ⟨[], [[(zc 2 (aB 61 r.2)), (zc 3 (aB 61 p1)), (zc 4 (aB 61 (fun _ => false)))]]⟩, [⟨(zKw p0 p1 v1), 0, rfP (blk TE 94 0), rfA (blk TE 94 0), rfB (blk TE 94 0), 94, .rdy⟩]⟩
noncomputable def zvs (p0 p1 v1 : zt0) : (Int × (Nat → Bool)) → Ex × St := fun r => ((.exit 0), zoj p0 p1 v1 r)
theorem zLr (k : Nat) (p0 p1 v1 : zt0) (s1_2 : Int) (s1_3 : zt0) (x : (Int × (Nat → Bool)) ⊕ (Int × (Nat → Bool))) (h : zGh k p0 p1 v1 s1_2 s1_3 = some x) : zQ TE 96 (blk TE 96 0) (fun s : (Int × (Nat → Bool)) => zFs p0 p1 v1 s.1 s.2) (zvs p0 p1 v1) (s1_2, s1_3) x := by
 unfold zGh at h
 refine zn h (fun h301 g1 => ?_) (fun h301 g1 => ?_)
 ·refine zT g1 (fun h302 g2 => ?_)
  refine zk g2 (fun v303 h304 g3 => ?_)
  exact zqn ((w64 (s1_2 + 1)), v303) [] [(96, 1, 0, .q (xb true)), (96, 2, 1, .q (xb (v1 s1_2.toNat)))] [(96, 1000003, (.nor, z2h p0 p1 v1 s1_2 s1_3 v303))] g3 (ob (o_b h301) (ob (z7s 61 v1 s1_2 h302) (ob (zKr k p0 p1 v1 s1_2 s1_3 _ h304) ob0))) (by kernel_rfl)
 ·exact zqo [(96, 1, 0, .q (xb false))] [] g1 (ob (o_b h301) ob0) (by kernel_rfl)
theorem zbq (k : Nat) (p0 p1 r : zt0) (h : zxi k p0 p1 = some r) : zM TE (ev TE) 94 [(.agg (aB 61 p0)), (.agg (aB 61 p1))] = some (zHq r) := by
 unfold zxi at h
 refine zk h (fun v1 h2 g1 => ?_)
 refine zk g1 (fun v3 h4 g2 => ?_)
 exact zJ (g := zHq) g2 (zqc [(94, 1, 1, .c (.fn 96 [] [(.pin (aB 61 v1))]))] [(96, 0, (.nor, zoj p0 p1 v1 v3))] (ob (zce k p1 _ h2) (ob (zG (id := 0) (r' := (.nor, zoj p0 p1 v1 v3)) (zib (zLr k p0 p1 v1) k _ _ h4) rfl) ob0)) (by kernel_rfl))
noncomputable def z1C (v3105 : zt5) (s31_10 s36_15 : Int) (r : Bool) : TM := [(0, (.yld 0)), (1, (.d (.pin [(di v3105.1), (dl zo v3105.2.1.1 v3105.2.1.2), (dl zp v3105.2.2.1.1 v3105.2.2.1.2), (dl zh v3105.2.2.2.1.1 v3105.2.2.2.1.2), (dl zj v3105.2.2.2.2.1.1 v3105.2.2.2.2.1.2), (di v3105.2.2.2.2.2.1), (di v3105.2.2.2.2.2.2.1)]))), (2, (.d (.pin [(di v3105.2.2.2.2.2.2.2.1)]))), (3, (.d (.pin [(di v3105.2.2.2.2.2.2.2.2)]))), (14, (xi (zO 1 (v3105.2.2.2.1.1.length : Int)))), (15, (xi s31_10)), (16, (xb true)), (5, (xi s31_10)), (20, (.d (dl zh v3105.2.2.2.1.1 v3105.2.2.2.1.2))), (21, (xi (v3105.2.2.2.1.1.length : Int))), (22, (xi s36_15)), (23, (xb true)), (7, (.ptr 1 7 0)), (6, (xi s36_15)), (8, (xb ((ztb (z7 v3105.2.2.2.2.2.2.2.1 s36_15) 1) == 1))), (9, (xb ((ztb (z7 s31_10 s36_15) 1) == 1))), (41, (xb false)), (76, (xb r))]
noncomputable def z3l (p0 : zd) (s1_8 s21_11 : Int) (v3105 : zt5) : TM := [(0, (.d (.agg (zr p0)))), (zsp 1), (2, (.d .nilm)), (zsp 3), (18, (xi p0.ShelfBook.Days)), (19, (xi s1_8)), (20, (xb true)), (zsp 4), (26, (xi (zO 1 (p0.ShelfBook.Deliveries.1.length : Int)))), (27, (xi s21_11)), (28, (xb true)), (zsp 5), (zsp 6), (38, (xb false)), (42, (.d (.fn 97 [] [(.pin [(di v3105.1), (dl zo v3105.2.1.1 v3105.2.1.2), (dl zp v3105.2.2.1.1 v3105.2.2.1.2), (dl zh v3105.2.2.2.1.1 v3105.2.2.2.1.2), (dl zj v3105.2.2.2.2.1.1 v3105.2.2.2.2.1.2), (di v3105.2.2.2.2.2.1), (di v3105.2.2.2.2.2.2.1)]), (.pin [(di v3105.2.2.2.2.2.2.2.1)]), (.pin [(di v3105.2.2.2.2.2.2.2.2)])])))]
noncomputable def zY (p0 : zd) (s1_8 s21_11 : Int) (s21_19 : zt2) (v3105 : zt5) (s31_10 : Int) (s31_18 : zt2) (s36_15 : Int) (v3802 : zt) (r : Bool) : St := ⟨(z1C v3105 s31_10 s36_15 r), ⟨[(zc 7 (zh v3802))], [[(zc 1 (zr p0)), (11, (.map (em (fun k => D.agg (zD k)) (fun v => D.agg ((aB 61) v)) s31_18))), (3, (.cells [(.map 0 11)])), (4, (.cells [(xi s1_8)])), (5, (.cells [(xi s21_11)])), (zc 6 (aB 61 ((zab zC (⟨(w64 (s1_8 - 1)), s21_11⟩ : zw) s21_19).getD (fun _ => false))))]]⟩, [⟨(z3l p0 s1_8 s21_11 v3105), 0, rfP (blk TE 81 4), rfA (blk TE 81 4), rfB (blk TE 81 4), 81, .rdy⟩]⟩
noncomputable def zGD (v3105 : zt5) (s31_10 s36_15 : Int) : TM := [(0, (.yld 0)), (1, (.d (.pin [(di v3105.1), (dl zo v3105.2.1.1 v3105.2.1.2), (dl zp v3105.2.2.1.1 v3105.2.2.1.2), (dl zh v3105.2.2.2.1.1 v3105.2.2.2.1.2), (dl zj v3105.2.2.2.2.1.1 v3105.2.2.2.2.1.2), (di v3105.2.2.2.2.2.1), (di v3105.2.2.2.2.2.2.1)]))), (2, (.d (.pin [(di v3105.2.2.2.2.2.2.2.1)]))), (3, (.d (.pin [(di v3105.2.2.2.2.2.2.2.2)]))), (14, (xi (zO 1 (v3105.2.2.2.1.1.length : Int)))), (15, (xi s31_10)), (16, (xb true)), (5, (xi s31_10)), (20, (.d (dl zh v3105.2.2.2.1.1 v3105.2.2.2.1.2))), (21, (xi (v3105.2.2.2.1.1.length : Int))), (22, (xi s36_15)), (23, (xb true)), (7, (.ptr 1 7 0)), (6, (xi s36_15)), (8, (xb ((ztb (z7 v3105.2.2.2.2.2.2.2.1 s36_15) 1) == 1))), (9, (xb ((ztb (z7 s31_10 s36_15) 1) == 1))), (41, (xb false))]
theorem zEi (k : Nat) (p0 : zd) (s1_8 s21_11 : Int) (s21_19 : zt2) (v3105 : zt5) (s31_10 : Int) (s31_18 : zt2) (s36_15 : Int) (v3802 : zt) (r : Bool) (h : zrf k p0 s1_8 s21_11 s21_19 v3105 s31_10 s31_18 s36_15 v3802 = some r) : ev TE 97 (rgn TE 97 9) ⟨(zGD v3105 s31_10 s36_15), ⟨[(zc 7 (zh v3802))], [[(zc 1 (zr p0)), (11, (.map (em (fun k => D.agg (zD k)) (fun v => D.agg ((aB 61) v)) s31_18))), (3, (.cells [(.map 0 11)])), (4, (.cells [(xi s1_8)])), (5, (.cells [(xi s21_11)])), (zc 6 (aB 61 ((zab zC (⟨(w64 (s1_8 - 1)), s21_11⟩ : zw) s21_19).getD (fun _ => false))))]]⟩, [⟨(z3l p0 s1_8 s21_11 v3105), 0, rfP (blk TE 81 4), rfA (blk TE 81 4), rfB (blk TE 81 4), 81, .rdy⟩]⟩ = some (.nor, zY p0 s1_8 s21_11 s21_19 v3105 s31_10 s31_18 s36_15 v3802 r) := by
 unfold zrf at h
 refine zn h (fun h3901 g1 => ?_) (fun h3901 g1 => ?_)
 ·refine zn g1 (fun h3902 g2 => ?_) (fun h3902 g2 => ?_)
  ·exact zA (g := fun r => (Ex.nor, zY p0 s1_8 s21_11 s21_19 v3105 s31_10 s31_18 s36_15 v3802 r)) g2 (zqe [(97, 9, 1, .q (xb true)), (97, 9, 5, .q (xb true))] [] (ob (o_b h3901) (ob (o_b h3902) ob0)) (by kernel_rfl))
  ·refine zn g2 (fun h3903 g3 => ?_) (fun h3903 g3 => ?_)
   ·refine zn g3 (fun h3904 g4 => ?_) (fun h3904 g4 => ?_)
    ·refine zk g4 (fun v3905 h3906 g5 => ?_)
     refine zn g5 (fun h3907 g6 => ?_) (fun h3907 g6 => ?_)
     ·exact zA (g := fun r => (Ex.nor, zY p0 s1_8 s21_11 s21_19 v3105 s31_10 s31_18 s36_15 v3802 r)) g6 (zqe [(97, 9, 1, .q (xb true)), (97, 9, 5, .q (xb false)), (97, 9, 7, .q (xb true)), (97, 9, 11, .q (xb true)), (97, 9, 19, .c (db v3905)), (97, 9, 23, .q (xb true))] [] (ob (o_b h3901) (ob (o_b h3902) (ob (o_b h3903) (ob (o_b h3904) (ob (zH k v3105.2.2.2.2.2.2.2.2 v3802.Days.Low v3802.Days.High _ h3906) (ob (o_b h3907) ob0)))))) (by kernel_rfl))
     ·exact zA (g := fun r => (Ex.nor, zY p0 s1_8 s21_11 s21_19 v3105 s31_10 s31_18 s36_15 v3802 r)) g6 (zqe [(97, 9, 1, .q (xb true)), (97, 9, 5, .q (xb false)), (97, 9, 7, .q (xb true)), (97, 9, 11, .q (xb true)), (97, 9, 19, .c (db v3905)), (97, 9, 23, .q (xb false)), (97, 9, 26, .q (xb false))] [] (ob (o_b h3901) (ob (o_b h3902) (ob (o_b h3903) (ob (o_b h3904) (ob (zH k v3105.2.2.2.2.2.2.2.2 v3802.Days.Low v3802.Days.High _ h3906) (ob (o_b h3907) (ob (o_b h3902) ob0))))))) (by kernel_rfl))
    ·exact zA (g := fun r => (Ex.nor, zY p0 s1_8 s21_11 s21_19 v3105 s31_10 s31_18 s36_15 v3802 r)) g4 (zqe [(97, 9, 1, .q (xb true)), (97, 9, 5, .q (xb false)), (97, 9, 7, .q (xb true)), (97, 9, 11, .q (xb false)), (97, 9, 26, .q (xb false))] [] (ob (o_b h3901) (ob (o_b h3902) (ob (o_b h3903) (ob (o_b h3904) (ob (o_b h3902) ob0))))) (by kernel_rfl))
   ·exact zA (g := fun r => (Ex.nor, zY p0 s1_8 s21_11 s21_19 v3105 s31_10 s31_18 s36_15 v3802 r)) g3 (zqe [(97, 9, 1, .q (xb true)), (97, 9, 5, .q (xb false)), (97, 9, 7, .q (xb false)), (97, 9, 26, .q (xb false))] [] (ob (o_b h3901) (ob (o_b h3902) (ob (o_b h3903) (ob (o_b h3902) ob0)))) (by kernel_rfl))
 ·refine zn g1 (fun h3902 g2 => ?_) (fun h3902 g2 => ?_)
  ·refine zn g2 (fun h3903 g3 => ?_) (fun h3903 g3 => ?_)
   ·refine zk g3 (fun v3904 h3905 g4 => ?_)
    refine zn g4 (fun h3906 g5 => ?_) (fun h3906 g5 => ?_)
    ·exact zA (g := fun r => (Ex.nor, zY p0 s1_8 s21_11 s21_19 v3105 s31_10 s31_18 s36_15 v3802 r)) g5 (zqe [(97, 9, 1, .q (xb false)), (97, 9, 7, .q (xb true)), (97, 9, 11, .q (xb true)), (97, 9, 19, .c (db v3904)), (97, 9, 23, .q (xb true))] [] (ob (o_b h3901) (ob (o_b h3902) (ob (o_b h3903) (ob (zH k v3105.2.2.2.2.2.2.2.2 v3802.Days.Low v3802.Days.High _ h3905) (ob (o_b h3906) ob0))))) (by kernel_rfl))
    ·refine zn g5 (fun h3907 g6 => ?_) (fun h3907 g6 => ?_)
     ·exact zA (g := fun r => (Ex.nor, zY p0 s1_8 s21_11 s21_19 v3105 s31_10 s31_18 s36_15 v3802 r)) g6 (zqe [(97, 9, 1, .q (xb false)), (97, 9, 7, .q (xb true)), (97, 9, 11, .q (xb true)), (97, 9, 19, .c (db v3904)), (97, 9, 23, .q (xb false)), (97, 9, 26, .q (xb true))] [] (ob (o_b h3901) (ob (o_b h3902) (ob (o_b h3903) (ob (zH k v3105.2.2.2.2.2.2.2.2 v3802.Days.Low v3802.Days.High _ h3905) (ob (o_b h3906) (ob (o_b h3907) ob0)))))) (by kernel_rfl))
     ·exact zA (g := fun r => (Ex.nor, zY p0 s1_8 s21_11 s21_19 v3105 s31_10 s31_18 s36_15 v3802 r)) g6 (zqe [(97, 9, 1, .q (xb false)), (97, 9, 7, .q (xb true)), (97, 9, 11, .q (xb true)), (97, 9, 19, .c (db v3904)), (97, 9, 23, .q (xb false)), (97, 9, 26, .q (xb false))] [] (ob (o_b h3901) (ob (o_b h3902) (ob (o_b h3903) (ob (zH k v3105.2.2.2.2.2.2.2.2 v3802.Days.Low v3802.Days.High _ h3905) (ob (o_b h3906) (ob (o_b h3907) ob0)))))) (by kernel_rfl))
   ·refine zn g3 (fun h3904 g4 => ?_) (fun h3904 g4 => ?_)
    ·exact zA (g := fun r => (Ex.nor, zY p0 s1_8 s21_11 s21_19 v3105 s31_10 s31_18 s36_15 v3802 r)) g4 (zqe [(97, 9, 1, .q (xb false)), (97, 9, 7, .q (xb true)), (97, 9, 11, .q (xb false)), (97, 9, 26, .q (xb true))] [] (ob (o_b h3901) (ob (o_b h3902) (ob (o_b h3903) (ob (o_b h3904) ob0)))) (by kernel_rfl))
    ·exact zA (g := fun r => (Ex.nor, zY p0 s1_8 s21_11 s21_19 v3105 s31_10 s31_18 s36_15 v3802 r)) g4 (zqe [(97, 9, 1, .q (xb false)), (97, 9, 7, .q (xb true)), (97, 9, 11, .q (xb false)), (97, 9, 26, .q (xb false))] [] (ob (o_b h3901) (ob (o_b h3902) (ob (o_b h3903) (ob (o_b h3904) ob0)))) (by kernel_rfl))
  ·refine zn g2 (fun h3903 g3 => ?_) (fun h3903 g3 => ?_)
   ·exact zA (g := fun r => (Ex.nor, zY p0 s1_8 s21_11 s21_19 v3105 s31_10 s31_18 s36_15 v3802 r)) g3 (zqe [(97, 9, 1, .q (xb false)), (97, 9, 7, .q (xb false)), (97, 9, 26, .q (xb true))] [] (ob (o_b h3901) (ob (o_b h3902) (ob (o_b h3903) ob0))) (by kernel_rfl))
   ·exact zA (g := fun r => (Ex.nor, zY p0 s1_8 s21_11 s21_19 v3105 s31_10 s31_18 s36_15 v3802 r)) g3 (zqe [(97, 9, 1, .q (xb false)), (97, 9, 7, .q (xb false)), (97, 9, 26, .q (xb false))] [] (ob (o_b h3901) (ob (o_b h3902) (ob (o_b h3903) ob0))) (by kernel_rfl))
noncomputable def zZC (v3105 : zt5) (s31_10 s36_15 : Int) : TM := [(0, (.yld 0)), (1, (.d (.pin [(di v3105.1), (dl zo v3105.2.1.1 v3105.2.1.2), (dl zp v3105.2.2.1.1 v3105.2.2.1.2), (dl zh v3105.2.2.2.1.1 v3105.2.2.2.1.2), (dl zj v3105.2.2.2.2.1.1 v3105.2.2.2.2.1.2), (di v3105.2.2.2.2.2.1), (di v3105.2.2.2.2.2.2.1)]))), (2, (.d (.pin [(di v3105.2.2.2.2.2.2.2.1)]))), (3, (.d (.pin [(di v3105.2.2.2.2.2.2.2.2)]))), (14, (xi (zO 1 (v3105.2.2.2.1.1.length : Int)))), (15, (xi s31_10)), (16, (xb true)), (5, (xi s31_10)), (20, (.d (dl zh v3105.2.2.2.1.1 v3105.2.2.2.1.2))), (21, (xi (v3105.2.2.2.1.1.length : Int))), (22, (xi s36_15))]
noncomputable def zmo (p0 : zd) (s1_8 s21_11 : Int) (s21_19 : zt2) (v3105 : zt5) (s31_10 : Int) (s31_18 : zt2) (s36_15 : Int) : St := ⟨(zZC v3105 s31_10 s36_15), ⟨[], [[(zc 1 (zr p0)), (11, (.map (em (fun k => D.agg (zD k)) (fun v => D.agg ((aB 61) v)) s31_18))), (3, (.cells [(.map 0 11)])), (4, (.cells [(xi s1_8)])), (5, (.cells [(xi s21_11)])), (zc 6 (aB 61 ((zab zC (⟨(w64 (s1_8 - 1)), s21_11⟩ : zw) s21_19).getD (fun _ => false))))]]⟩, [⟨(z3l p0 s1_8 s21_11 v3105), 0, rfP (blk TE 81 4), rfA (blk TE 81 4), rfB (blk TE 81 4), 81, .rdy⟩]⟩
noncomputable def zrD (v3105 : zt5) (s31_10 : Int) (r : (Int × Bool × Bool × Int × Int × Int × Int × Int)) : TM := [(0, (.yld 0)), (1, (.d (.pin [(di v3105.1), (dl zo v3105.2.1.1 v3105.2.1.2), (dl zp v3105.2.2.1.1 v3105.2.2.1.2), (dl zh v3105.2.2.2.1.1 v3105.2.2.2.1.2), (dl zj v3105.2.2.2.2.1.1 v3105.2.2.2.2.1.2), (di v3105.2.2.2.2.2.1), (di v3105.2.2.2.2.2.2.1)]))), (2, (.d (.pin [(di v3105.2.2.2.2.2.2.2.1)]))), (3, (.d (.pin [(di v3105.2.2.2.2.2.2.2.2)]))), (14, (xi (zO 1 (v3105.2.2.2.1.1.length : Int)))), (15, (xi s31_10)), (16, (xb true)), (5, (xi s31_10)), (20, (.d (dl zh v3105.2.2.2.1.1 v3105.2.2.2.1.2))), (21, (xi (v3105.2.2.2.1.1.length : Int))), (22, (xi r.1)), (23, (xb true)), (7, (.ptr 1 7 0)), (6, (xi r.1)), (8, (xb r.2.1)), (9, (xb r.2.2.1)), (41, (xb true)), (42, (xb true))]
noncomputable def zcg (p0 : zd) (s1_8 s21_11 : Int) (s21_19 : zt2) (v3105 : zt5) (s31_10 : Int) (s31_18 : zt2) (r : (Int × Bool × Bool × Int × Int × Int × Int × Int)) : St := ⟨(zrD v3105 s31_10 r), ⟨[(7, (.cells [(xi r.2.2.2.1), (xi r.2.2.2.2.1), (xi r.2.2.2.2.2.1), (xi r.2.2.2.2.2.2.1), (xi r.2.2.2.2.2.2.2)]))], [[(zc 1 (zr p0)), (11, (.map (em (fun k => D.agg (zD k)) (fun v => D.agg ((aB 61) v)) s31_18))), (3, (.cells [(.map 0 11)])), (4, (.cells [(xi s1_8)])), (5, (.cells [(xi s21_11)])), (zc 6 (aB 61 ((zab zC (⟨(w64 (s1_8 - 1)), s21_11⟩ : zw) s21_19).getD (fun _ => false))))]]⟩, [⟨(z3l p0 s1_8 s21_11 v3105), 0, rfP (blk TE 81 4), rfA (blk TE 81 4), rfB (blk TE 81 4), 81, .rdy⟩]⟩
noncomputable def zWD (v3105 : zt5) (s31_10 : Int) (r : (Int × Bool × Bool × Int × Int × Int × Int × Int)) : TM := [(0, (.yld 0)), (1, (.d (.pin [(di v3105.1), (dl zo v3105.2.1.1 v3105.2.1.2), (dl zp v3105.2.2.1.1 v3105.2.2.1.2), (dl zh v3105.2.2.2.1.1 v3105.2.2.2.1.2), (dl zj v3105.2.2.2.2.1.1 v3105.2.2.2.2.1.2), (di v3105.2.2.2.2.2.1), (di v3105.2.2.2.2.2.2.1)]))), (2, (.d (.pin [(di v3105.2.2.2.2.2.2.2.1)]))), (3, (.d (.pin [(di v3105.2.2.2.2.2.2.2.2)]))), (14, (xi (zO 1 (v3105.2.2.2.1.1.length : Int)))), (15, (xi s31_10)), (16, (xb true)), (5, (xi s31_10)), (20, (.d (dl zh v3105.2.2.2.1.1 v3105.2.2.2.1.2))), (21, (xi (v3105.2.2.2.1.1.length : Int))), (22, (xi r.1)), (23, (xb true)), (7, (.ptr 1 7 0)), (6, (xi r.1)), (8, (xb r.2.1)), (9, (xb r.2.2.1)), (41, (xb false)), (76, (xb true))]
noncomputable def zbg (p0 : zd) (s1_8 s21_11 : Int) (s21_19 : zt2) (v3105 : zt5) (s31_10 : Int) (s31_18 : zt2) (r : (Int × Bool × Bool × Int × Int × Int × Int × Int)) : St := ⟨(zWD v3105 s31_10 r), ⟨[(7, (.cells [(xi r.2.2.2.1), (xi r.2.2.2.2.1), (xi r.2.2.2.2.2.1), (xi r.2.2.2.2.2.2.1), (xi r.2.2.2.2.2.2.2)]))], [[(zc 1 (zr p0)), (11, (.map (em (fun k => D.agg (zD k)) (fun v => D.agg ((aB 61) v)) s31_18))), (3, (.cells [(.map 0 11)])), (4, (.cells [(xi s1_8)])), (5, (.cells [(xi s21_11)])), (zc 6 (aB 61 ((zab zC (⟨(w64 (s1_8 - 1)), s21_11⟩ : zw) s21_19).getD (fun _ => false))))]]⟩, [⟨(z3l p0 s1_8 s21_11 v3105), 0, rfP (blk TE 81 4), rfA (blk TE 81 4), rfB (blk TE 81 4), 81, .rdy⟩]⟩
noncomputable def zND (v3105 : zt5) (s31_10 r : Int) : TM := [(0, (.yld 0)), (1, (.d (.pin [(di v3105.1), (dl zo v3105.2.1.1 v3105.2.1.2), (dl zp v3105.2.2.1.1 v3105.2.2.1.2), (dl zh v3105.2.2.2.1.1 v3105.2.2.2.1.2), (dl zj v3105.2.2.2.2.1.1 v3105.2.2.2.2.1.2), (di v3105.2.2.2.2.2.1), (di v3105.2.2.2.2.2.2.1)]))), (2, (.d (.pin [(di v3105.2.2.2.2.2.2.2.1)]))), (3, (.d (.pin [(di v3105.2.2.2.2.2.2.2.2)]))), (14, (xi (zO 1 (v3105.2.2.2.1.1.length : Int)))), (15, (xi s31_10)), (16, (xb true)), (5, (xi s31_10)), (20, (.d (dl zh v3105.2.2.2.1.1 v3105.2.2.2.1.2))), (21, (xi (v3105.2.2.2.1.1.length : Int))), (22, (xi r)), (23, (xb false))]
noncomputable def z9f (p0 : zd) (s1_8 s21_11 : Int) (s21_19 : zt2) (v3105 : zt5) (s31_10 : Int) (s31_18 : zt2) (r : Int) : St := ⟨(zND v3105 s31_10 r), ⟨[], [[(zc 1 (zr p0)), (11, (.map (em (fun k => D.agg (zD k)) (fun v => D.agg ((aB 61) v)) s31_18))), (3, (.cells [(.map 0 11)])), (4, (.cells [(xi s1_8)])), (5, (.cells [(xi s21_11)])), (zc 6 (aB 61 ((zab zC (⟨(w64 (s1_8 - 1)), s21_11⟩ : zw) s21_19).getD (fun _ => false))))]]⟩, [⟨(z3l p0 s1_8 s21_11 v3105), 0, rfP (blk TE 81 4), rfA (blk TE 81 4), rfB (blk TE 81 4), 81, .rdy⟩]⟩
noncomputable def zoo (p0 : zd) (s1_8 s21_11 : Int) (s21_19 : zt2) (v3105 : zt5) (s31_10 : Int) (s31_18 : zt2) : ((Int × Bool × Bool × Int × Int × Int × Int × Int) ⊕ ((Int × Bool × Bool × Int × Int × Int × Int × Int) ⊕ Int)) → Ex × St := Sum.elim (fun r => ((.exit 1), zcg p0 s1_8 s21_11 s21_19 v3105 s31_10 s31_18 r)) (Sum.elim (fun r => ((.exit 1), zbg p0 s1_8 s21_11 s21_19 v3105 s31_10 s31_18 r)) (fun r => ((.exit 2), z9f p0 s1_8 s21_11 s21_19 v3105 s31_10 s31_18 r)))
theorem zfg (k : Nat) (p0 : zd) (s1_8 s21_11 : Int) (s21_19 : zt2) (v3105 : zt5) (s31_10 : Int) (s31_18 : zt2) (s36_15 : Int) (x : Int ⊕ ((Int × Bool × Bool × Int × Int × Int × Int × Int) ⊕ ((Int × Bool × Bool × Int × Int × Int × Int × Int) ⊕ Int))) (h : zRc k p0 s1_8 s21_11 s21_19 v3105 s31_10 s31_18 s36_15 = some x) : zQ TE 97 (blk TE 97 2) (fun s : Int => zmo p0 s1_8 s21_11 s21_19 v3105 s31_10 s31_18 s) (zoo p0 s1_8 s21_11 s21_19 v3105 s31_10 s31_18) s36_15 x := by
 unfold zRc at h
 refine zn h (fun h3801 g1 => ?_) (fun h3801 g1 => ?_)
 ·refine zk g1 (fun v3802 h3803 g2 => ?_)
  refine zn g2 (fun h3804 g3 => ?_) (fun h3804 g3 => ?_)
  ·cases g3
  ·refine zn g3 (fun h3805 g4 => ?_) (fun h3805 g4 => ?_)
   ·refine zn g4 (fun h3806 g5 => ?_) (fun h3806 g5 => ?_)
    ·exact zqo [(97, 4, 0, .q (xb true)), (97, 5, 1, .q (.d (.pin (zh v3802)))), (97, 6, 2, .q (xi (z7 v3105.2.2.2.2.2.2.2.1 s36_15))), (97, 6, 7, .q (xi (z7 s31_10 s36_15))), (97, 7, 4, .q (xb true)), (97, 8, 0, .q (xb true))] [] g5 (ob (o_b h3801) (ob (o_ia (e := zh) 5 h3803 rfl) (ob (zVe (x := v3105.2.2.2.2.2.2.2.1) h3804) (ob (zVe (x := s31_10) h3804) (ob (o_b h3805) (ob (o_b h3806) ob0)))))) (by kernel_rfl)
    ·exact zqn (w64 (s36_15 + 1)) [] [(97, 4, 0, .q (xb true)), (97, 5, 1, .q (.d (.pin (zh v3802)))), (97, 6, 2, .q (xi (z7 v3105.2.2.2.2.2.2.2.1 s36_15))), (97, 6, 7, .q (xi (z7 s31_10 s36_15))), (97, 7, 4, .q (xb true)), (97, 8, 0, .q (xb false))] [] g5 (ob (o_b h3801) (ob (o_ia (e := zh) 5 h3803 rfl) (ob (zVe (x := v3105.2.2.2.2.2.2.2.1) h3804) (ob (zVe (x := s31_10) h3804) (ob (o_b h3805) (ob (o_b h3806) ob0)))))) (by kernel_rfl)
   ·refine zk g4 (fun v3806 h3807 g5 => ?_)
    refine zn g5 (fun h3808 g6 => ?_) (fun h3808 g6 => ?_)
    ·subst h3808
     exact zqo [(97, 4, 0, .q (xb true)), (97, 5, 1, .q (.d (.pin (zh v3802)))), (97, 6, 2, .q (xi (z7 v3105.2.2.2.2.2.2.2.1 s36_15))), (97, 6, 7, .q (xi (z7 s31_10 s36_15))), (97, 7, 4, .q (xb false))] [(97, 1000009, (.nor, zY p0 s1_8 s21_11 s21_19 v3105 s31_10 s31_18 s36_15 v3802 true))] g6 (ob (o_b h3801) (ob (o_ia (e := zh) 5 h3803 rfl) (ob (zVe (x := v3105.2.2.2.2.2.2.2.1) h3804) (ob (zVe (x := s31_10) h3804) (ob (o_b h3805) (ob (zEi k p0 s1_8 s21_11 s21_19 v3105 s31_10 s31_18 s36_15 v3802 _ h3807) ob0)))))) (by kernel_rfl)
    ·subst h3808
     exact zqn (w64 (s36_15 + 1)) [] [(97, 4, 0, .q (xb true)), (97, 5, 1, .q (.d (.pin (zh v3802)))), (97, 6, 2, .q (xi (z7 v3105.2.2.2.2.2.2.2.1 s36_15))), (97, 6, 7, .q (xi (z7 s31_10 s36_15))), (97, 7, 4, .q (xb false))] [(97, 1000009, (.nor, zY p0 s1_8 s21_11 s21_19 v3105 s31_10 s31_18 s36_15 v3802 false))] g6 (ob (o_b h3801) (ob (o_ia (e := zh) 5 h3803 rfl) (ob (zVe (x := v3105.2.2.2.2.2.2.2.1) h3804) (ob (zVe (x := s31_10) h3804) (ob (o_b h3805) (ob (zEi k p0 s1_8 s21_11 s21_19 v3105 s31_10 s31_18 s36_15 v3802 _ h3807) ob0)))))) (by kernel_rfl)
 ·exact zqo [(97, 4, 0, .q (xb false))] [] g1 (ob (o_b h3801) ob0) (by kernel_rfl)
noncomputable def zBD (p0 : zd) (s1_8 s21_11 : Int) (v3105 : zt5) (s31_10 : Int) (v3606 : (SL zF)) (s39_27 : Int) : TM := z3l p0 s1_8 s21_11 v3105 ++ [(43, (xi s31_10)), (7, (xi s31_10)), (8, (.ptr 2 8 0)), (50, (.d (dl zR v3606.1 v3606.2))), (51, (xi (v3606.1.length : Int))), (52, (xi s39_27))]
noncomputable def zpo (p0 : zd) (s1_8 s21_11 : Int) (s21_19 : zt2) (v3105 : zt5) (s31_10 : Int) (s31_18 : zt2) (v3606 : (SL zF)) (s39_27 : Int) (s39_28 : zt0) : St := ⟨(zBD p0 s1_8 s21_11 v3105 s31_10 v3606 s39_27), ⟨[(zc 8 (aB 61 s39_28))], [[(zc 1 (zr p0)), (11, (.map (em (fun k => D.agg (zD k)) (fun v => D.agg ((aB 61) v)) s31_18))), (3, (.cells [(.map 0 11)])), (4, (.cells [(xi s1_8)])), (5, (.cells [(xi s21_11)])), (zc 6 (aB 61 ((zab zC (⟨(w64 (s1_8 - 1)), s21_11⟩ : zw) s21_19).getD (fun _ => false))))], []]⟩, [⟨(z3l p0 s1_8 s21_11 v3105), 0, rfP (blk TE 81 4), rfA (blk TE 81 4), rfB (blk TE 81 4), 81, .busy⟩]⟩
noncomputable def ztD (p0 : zd) (s1_8 s21_11 : Int) (v3105 : zt5) (s31_10 : Int) (v3606 : (SL zF)) (r : zt11) : TM := z3l p0 s1_8 s21_11 v3105 ++ [(43, (xi s31_10)), (7, (xi s31_10)), (8, (.ptr 2 8 0)), (50, (.d (dl zR v3606.1 v3606.2))), (51, (xi (v3606.1.length : Int))), (52, (xi r.1)), (53, (xb false))]
noncomputable def zag (p0 : zd) (s1_8 s21_11 : Int) (s21_19 : zt2) (v3105 : zt5) (s31_10 : Int) (s31_18 : zt2) (v3606 : (SL zF)) (r : zt11) : St := ⟨(ztD p0 s1_8 s21_11 v3105 s31_10 v3606 r), ⟨[(zc 8 (aB 61 r.2))], [[(zc 1 (zr p0)), (11, (.map (em (fun k => D.agg (zD k)) (fun v => D.agg ((aB 61) v)) s31_18))), (3, (.cells [(.map 0 11)])), (4, (.cells [(xi s1_8)])), (5, (.cells [(xi s21_11)])), (zc 6 (aB 61 ((zab zC (⟨(w64 (s1_8 - 1)), s21_11⟩ : zw) s21_19).getD (fun _ => false))))], []]⟩, [⟨(z3l p0 s1_8 s21_11 v3105), 0, rfP (blk TE 81 4), rfA (blk TE 81 4), rfB (blk TE 81 4), 81, .busy⟩]⟩
noncomputable def zGo (p0 : zd) (s1_8 s21_11 : Int) (s21_19 : zt2) (v3105 : zt5) (s31_10 : Int) (s31_18 : zt2) (v3606 : (SL zF)) : (Int × (Nat → Bool)) → Ex × St := fun r => ((.exit 6), zag p0 s1_8 s21_11 s21_19 v3105 s31_10 s31_18 v3606 r)
theorem zFn (k : Nat) (p0 : zd) (s1_8 s21_11 : Int) (s21_19 : zt2) (v3105 : zt5) (s31_10 : Int) (s31_18 : zt2) (v3606 : (SL zF)) (s39_27 : Int) (s39_28 : zt0) (x : (Int × (Nat → Bool)) ⊕ (Int × (Nat → Bool))) (h : zPc k p0 s1_8 s21_11 s21_19 v3105 s31_10 s31_18 v3606 s39_27 s39_28 = some x) : zQ TE 81 (blk TE 81 6) (fun s : (Int × (Nat → Bool)) => zpo p0 s1_8 s21_11 s21_19 v3105 s31_10 s31_18 v3606 s.1 s.2) (zGo p0 s1_8 s21_11 s21_19 v3105 s31_10 s31_18 v3606) (s39_27, s39_28) x := by
 unfold zPc at h
 refine zn h (fun h4001 g1 => ?_) (fun h4001 g1 => ?_)
 ·refine zk g1 (fun v4002 h4003 g2 => ?_)
  refine zk g2 (fun v4004 h4005 g3 => ?_)
  exact zqn ((w64 (s39_27 + 1)), v4004) [] [(81, 14, 0, .q (xb true)), (81, 15, 0, .q (.d (.pin (zR v4002)))), (81, 16, 6, .c (.agg (aB 61 v4004)))] [] g3 (ob (o_b h4001) (ob (o_ia (e := zR) 3 h4003 rfl) (ob (zmk k p0 s39_28 v4002.way v4002.by_ _ h4005) ob0))) (by kernel_rfl)
 ·exact zqo [(81, 14, 0, .q (xb false))] [] g1 (ob (o_b h4001) ob0) (by kernel_rfl)
noncomputable def zbE (v3105 : zt5) (s31_10 : Int) : TM := [(0, (.yld 0)), (1, (.d (.pin [(di v3105.1), (dl zo v3105.2.1.1 v3105.2.1.2), (dl zp v3105.2.2.1.1 v3105.2.2.1.2), (dl zh v3105.2.2.2.1.1 v3105.2.2.2.1.2), (dl zj v3105.2.2.2.2.1.1 v3105.2.2.2.2.1.2), (di v3105.2.2.2.2.2.1), (di v3105.2.2.2.2.2.2.1)]))), (2, (.d (.pin [(di v3105.2.2.2.2.2.2.2.1)]))), (3, (.d (.pin [(di v3105.2.2.2.2.2.2.2.2)]))), (14, (xi (zO 1 (v3105.2.2.2.1.1.length : Int)))), (15, (xi s31_10))]
noncomputable def zKo (p0 : zd) (s1_8 s21_11 : Int) (s21_19 : zt2) (v3105 : zt5) (s31_10 : Int) (s31_18 : zt2) : St := ⟨(zbE v3105 s31_10), ⟨[], [[(zc 1 (zr p0)), (11, (.map (em (fun k => D.agg (zD k)) (fun v => D.agg ((aB 61) v)) s31_18))), (3, (.cells [(.map 0 11)])), (4, (.cells [(xi s1_8)])), (5, (.cells [(xi s21_11)])), (zc 6 (aB 61 ((zab zC (⟨(w64 (s1_8 - 1)), s21_11⟩ : zw) s21_19).getD (fun _ => false))))]]⟩, [⟨(z3l p0 s1_8 s21_11 v3105), 0, rfP (blk TE 81 4), rfA (blk TE 81 4), rfB (blk TE 81 4), 81, .rdy⟩]⟩
noncomputable def z0C (v3105 : zt5) (r : zt7) : TM := [(0, (.yld 0)), (1, (.d (.pin [(di v3105.1), (dl zo v3105.2.1.1 v3105.2.1.2), (dl zp v3105.2.2.1.1 v3105.2.2.1.2), (dl zh v3105.2.2.2.1.1 v3105.2.2.2.1.2), (dl zj v3105.2.2.2.2.1.1 v3105.2.2.2.2.1.2), (di v3105.2.2.2.2.2.1), (di v3105.2.2.2.2.2.2.1)]))), (2, (.d (.pin [(di v3105.2.2.2.2.2.2.2.1)]))), (3, (.d (.pin [(di v3105.2.2.2.2.2.2.2.2)]))), (14, (xi (zO 1 (v3105.2.2.2.1.1.length : Int)))), (15, (xi r.1)), (16, (xb false))]
noncomputable def zdg (p0 : zd) (s1_8 s21_11 : Int) (s21_19 : zt2) (v3105 : zt5) (r : zt7) : St := ⟨(z0C v3105 r), ⟨[], [[(zc 1 (zr p0)), (11, (.map (em (fun k => D.agg (zD k)) (fun v => D.agg ((aB 61) v)) r.2))), (3, (.cells [(.map 0 11)])), (4, (.cells [(xi s1_8)])), (5, (.cells [(xi s21_11)])), (zc 6 (aB 61 ((zab zC (⟨(w64 (s1_8 - 1)), s21_11⟩ : zw) s21_19).getD (fun _ => false))))]]⟩, [⟨(z3l p0 s1_8 s21_11 v3105), 0, rfP (blk TE 81 4), rfA (blk TE 81 4), rfB (blk TE 81 4), 81, .rdy⟩]⟩
noncomputable def zDo (p0 : zd) (s1_8 s21_11 : Int) (s21_19 : zt2) (v3105 : zt5) : (Int × (List (zw × (Nat → Bool)))) → Ex × St := fun r => ((.exit 0), zdg p0 s1_8 s21_11 s21_19 v3105 r)
theorem zLn (k : Nat) (p0 : zd) (s1_8 s21_11 : Int) (s21_19 : zt2) (v3105 : zt5) (s31_10 : Int) (s31_18 : zt2) (x : (Int × (List (zw × (Nat → Bool)))) ⊕ (Int × (List (zw × (Nat → Bool))))) (h : zLc k p0 s1_8 s21_11 s21_19 v3105 s31_10 s31_18 = some x) : zQ TE 97 (blk TE 97 0) (fun s : (Int × (List (zw × (Nat → Bool)))) => zKo p0 s1_8 s21_11 s21_19 v3105 s.1 s.2) (zDo p0 s1_8 s21_11 s21_19 v3105) (s31_10, s31_18) x := by
 unfold zLc at h
 refine zn h (fun h3601 g1 => ?_) (fun h3601 g1 => ?_)
 ·refine zk g1 (fun v3602 h3603 g2 => ?_)
  refine zwd g2 (fun v3605 hh g3_0 => ?_) (fun w2_0 hh g3_0 => ?_)
  ·subst hh
   exact zqn ((w64 (s31_10 + 1)), s31_18) [] [(97, 1, 0, .q (xb true)), (97, 3, 3, .q (xi (v3105.2.2.2.1.1.length : Int)))] [(97, 2, ((.exit 1), zcg p0 s1_8 s21_11 s21_19 v3105 s31_10 s31_18 v3605))] g3_0 (ob (o_b h3601) (ob (zy zh v3105.2.2.2.1.1) (ob (zG (id := 2) (r' := ((.exit 1), zcg p0 s1_8 s21_11 s21_19 v3105 s31_10 s31_18 v3605)) (ztc (zfg k p0 s1_8 s21_11 s21_19 v3105 s31_10 s31_18) k _ _ h3603) rfl) ob0))) (by kernel_rfl)
  ·subst hh
   refine zwd g3_0 (fun v3605 hh g3_1 => ?_) (fun v3605 hh g3_1 => ?_)
   ·subst hh
    exact zqn ((w64 (s31_10 + 1)), s31_18) [] [(97, 1, 0, .q (xb true)), (97, 3, 3, .q (xi (v3105.2.2.2.1.1.length : Int)))] [(97, 2, ((.exit 1), zbg p0 s1_8 s21_11 s21_19 v3105 s31_10 s31_18 v3605))] g3_1 (ob (o_b h3601) (ob (zy zh v3105.2.2.2.1.1) (ob (zG (id := 2) (r' := ((.exit 1), zbg p0 s1_8 s21_11 s21_19 v3105 s31_10 s31_18 v3605)) (ztc (zfg k p0 s1_8 s21_11 s21_19 v3105 s31_10 s31_18) k _ _ h3603) rfl) ob0))) (by kernel_rfl)
   ·subst hh
    refine zk g3_1 (fun v3606 h3607 g4 => ?_)
    refine zk g4 (fun v3608 h3609 g5 => ?_)
    refine zk g5 (fun v3610 h3611 g6 => ?_)
    refine zk g6 (fun v3612 h3613 g7 => ?_)
    exact zqn ((w64 (s31_10 + 1)), (mset zC (⟨s1_8, s31_10⟩ : zw) v3612 s31_18)) [] [(97, 1, 0, .q (xb true)), (97, 3, 3, .q (xi (v3105.2.2.2.1.1.length : Int))), (81, 13, 5, .c (dl zR v3606.1 v3606.2)), (81, 13, 6, .q (xi (v3606.1.length : Int))), (81, 18, 8, .q (.d (.agg (aB 61 ((zab zC (⟨s1_8, s31_10⟩ : zw) s31_18).getD (fun _ => false)))))), (81, 18, 12, .c (.agg (aB 61 v3610))), (81, 18, 13, .c (.agg (aB 61 v3612))), (81, 18, 14, .mp (em (fun k => D.agg (zD k)) (fun v => D.agg ((aB 61) v)) (mset zC (⟨s1_8, s31_10⟩ : zw) v3612 s31_18)))] [(97, 2, (.nor, z9f p0 s1_8 s21_11 s21_19 v3105 s31_10 s31_18 v3605)), (81, 6, (.nor, zag p0 s1_8 s21_11 s21_19 v3105 s31_10 s31_18 v3606 v3608))] g7 (ob (o_b h3601) (ob (zy zh v3105.2.2.2.1.1) (ob (zG (id := 2) (r' := (.nor, z9f p0 s1_8 s21_11 s21_19 v3105 s31_10 s31_18 v3605)) (ztc (zfg k p0 s1_8 s21_11 s21_19 v3105 s31_10 s31_18) k _ _ h3603) rfl) (ob (znk k p0 s1_8 (zHk s31_10 s21_11) _ h3607) (ob (zy zR v3606.1) (ob (zG (id := 6) (r' := (.nor, zag p0 s1_8 s21_11 s21_19 v3105 s31_10 s31_18 v3606 v3608)) (zib (zFn k p0 s1_8 s21_11 s21_19 v3105 s31_10 s31_18 v3606) k _ _ h3609) rfl) (ob (zWj (ek := (fun k => D.agg (zD k))) (evl := (fun v => D.agg ((aB 61) v))) (q := zC) (fun _ _ => rfl) (⟨s1_8, s31_10⟩ : zw) s31_18 (fun _ => false)) (ob (zFj k p0 v3608.2 s1_8 _ h3611) (ob (zbq k ((zab zC (⟨s1_8, s31_10⟩ : zw) s31_18).getD (fun _ => false)) v3610 _ h3613) (ob (zzs (ek := (fun k => D.agg (zD k))) (evl := (fun v => D.agg ((aB 61) v))) (q := zC) (fun _ _ => rfl) (⟨s1_8, s31_10⟩ : zw) v3612 s31_18) ob0)))))))))) (by kernel_rfl)
 ·exact zqo [(97, 1, 0, .q (xb false))] [] g1 (ob (o_b h3601) ob0) (by kernel_rfl)
noncomputable def zQD (p0 : zd) (s1_8 s21_11 : Int) : TM := [(0, (.d (.agg (zr p0)))), (zsp 1), (2, (.d .nilm)), (zsp 3), (18, (xi p0.ShelfBook.Days)), (19, (xi s1_8)), (20, (xb true)), (zsp 4), (26, (xi (zO 1 (p0.ShelfBook.Deliveries.1.length : Int)))), (27, (xi s21_11))]
noncomputable def zQo (p0 : zd) (s1_8 s21_11 : Int) (s21_19 : zt2) : St := ⟨(zQD p0 s1_8 s21_11), ⟨[(zc 1 (zr p0)), (11, (.map (em (fun k => D.agg (zD k)) (fun v => D.agg ((aB 61) v)) s21_19))), (3, (.cells [(.map 0 11)])), (4, (.cells [(xi s1_8)]))], []⟩, []⟩
noncomputable def zZD (p0 : zd) (s1_8 : Int) (r : zt7) : TM := [(0, (.d (.agg (zr p0)))), (zsp 1), (2, (.d .nilm)), (zsp 3), (18, (xi p0.ShelfBook.Days)), (19, (xi s1_8)), (20, (xb true)), (zsp 4), (26, (xi (zO 1 (p0.ShelfBook.Deliveries.1.length : Int)))), (27, (xi r.1)), (28, (xb false))]
noncomputable def z8f (p0 : zd) (s1_8 : Int) (r : zt7) : St := ⟨(zZD p0 s1_8 r), ⟨[(zc 1 (zr p0)), (11, (.map (em (fun k => D.agg (zD k)) (fun v => D.agg ((aB 61) v)) r.2))), (3, (.cells [(.map 0 11)])), (4, (.cells [(xi s1_8)]))], []⟩, []⟩
noncomputable def zNo (p0 : zd) (s1_8 : Int) : (Int × (List (zw × (Nat → Bool)))) → Ex × St := fun r => ((.exit 2), z8f p0 s1_8 r)
theorem z0n (k : Nat) (p0 : zd) (s1_8 s21_11 : Int) (s21_19 : zt2) (x : (Int × (List (zw × (Nat → Bool)))) ⊕ (Int × (List (zw × (Nat → Bool))))) (h : zMc k p0 s1_8 s21_11 s21_19 = some x) : zQ TE 81 (blk TE 81 2) (fun s : (Int × (List (zw × (Nat → Bool)))) => zQo p0 s1_8 s.1 s.2) (zNo p0 s1_8) (s21_11, s21_19) x := by
 unfold zMc at h
 refine zn h (fun h3101 g1 => ?_) (fun h3101 g1 => ?_)
 ·refine zk g1 (fun v3102 h3103 g2 => ?_)
  refine zn g2 (fun h3104 g3 => ?_) (fun h3104 g3 => ?_)
  ·exact zqn ((w64 (s21_11 + 1)), s21_19) [] [(81, 6, 0, .q (xb true)), (81, 8, 5, .q (.d (.agg (aB 61 ((zab zC (⟨(w64 (s1_8 - 1)), s21_11⟩ : zw) s21_19).getD (fun _ => false)))))), (81, 9, 1, .c (.agg (aB 61 v3102))), (81, 9, 2, .q (xb true))] [] g3 (ob (o_b h3101) (ob (zWj (ek := (fun k => D.agg (zD k))) (evl := (fun v => D.agg ((aB 61) v))) (q := zC) (fun _ _ => rfl) (⟨(w64 (s1_8 - 1)), s21_11⟩ : zw) s21_19 (fun _ => false)) (ob (zth k _ h3103) (ob (o_b h3104) ob0)))) (by kernel_rfl)
  ·refine zk g3 (fun v3105 h3106 g4 => ?_)
   refine zn g4 (fun h3107 g5 => ?_) (fun h3107 g5 => ?_)
   ·cases g5
   ·refine zk g5 (fun v3108 h3109 g6 => ?_)
    exact zqn ((w64 (s21_11 + 1)), v3108.2) [] [(81, 6, 0, .q (xb true)), (81, 8, 5, .q (.d (.agg (aB 61 ((zab zC (⟨(w64 (s1_8 - 1)), s21_11⟩ : zw) s21_19).getD (fun _ => false)))))), (81, 9, 1, .c (.agg (aB 61 v3102))), (81, 9, 2, .q (xb false)), (81, 10, 3, .c (.fn 97 [] [(.pin [(di v3105.1), (dl zo v3105.2.1.1 v3105.2.1.2), (dl zp v3105.2.2.1.1 v3105.2.2.1.2), (dl zh v3105.2.2.2.1.1 v3105.2.2.2.1.2), (dl zj v3105.2.2.2.2.1.1 v3105.2.2.2.2.1.2), (di v3105.2.2.2.2.2.1), (di v3105.2.2.2.2.2.2.1)]), (.pin [(di v3105.2.2.2.2.2.2.2.1)]), (.pin [(di v3105.2.2.2.2.2.2.2.2)])])), (97, 0, 3, .q (xi (v3105.2.2.2.1.1.length : Int))), (97, 0, 4, .q (xi (zO 1 (v3105.2.2.2.1.1.length : Int))))] [(97, 0, (.nor, zdg p0 s1_8 s21_11 s21_19 v3105 v3108))] g6 (ob (o_b h3101) (ob (zWj (ek := (fun k => D.agg (zD k))) (evl := (fun v => D.agg ((aB 61) v))) (q := zC) (fun _ _ => rfl) (⟨(w64 (s1_8 - 1)), s21_11⟩ : zw) s21_19 (fun _ => false)) (ob (zth k _ h3103) (ob (o_b h3104) (ob (zkl k p0 s1_8 s21_11 _ h3106) (ob (zy zh v3105.2.2.2.1.1) (ob (zBc (x := 1) h3107) (ob (zG (id := 0) (r' := (.nor, zdg p0 s1_8 s21_11 s21_19 v3105 v3108)) (zib (zLn k p0 s1_8 s21_11 s21_19 v3105) k _ _ h3109) rfl) ob0)))))))) (by kernel_rfl)
 ·exact zqo [(81, 6, 0, .q (xb false))] [] g1 (ob (o_b h3101) ob0) (by kernel_rfl)
noncomputable def zeE (p0 : zd) (s1_8 : Int) : TM := [(0, (.d (.agg (zr p0)))), (zsp 1), (2, (.d .nilm)), (zsp 3), (18, (xi p0.ShelfBook.Days)), (19, (xi s1_8))]
noncomputable def zvp (p0 : zd) (s1_8 : Int) (s1_16 : zt2) : St := ⟨(zeE p0 s1_8), ⟨[(zc 1 (zr p0)), (11, (.map (em (fun k => D.agg (zD k)) (fun v => D.agg ((aB 61) v)) s1_16))), (3, (.cells [(.map 0 11)]))], []⟩, []⟩
noncomputable def zAD (p0 : zd) (r : zt7) : TM := [(0, (.d (.agg (zr p0)))), (zsp 1), (2, (.d .nilm)), (zsp 3), (18, (xi p0.ShelfBook.Days)), (19, (xi r.1)), (20, (xb false))]
noncomputable def zAg (p0 : zd) (r : zt7) : St := ⟨(zAD p0 r), ⟨[(zc 1 (zr p0)), (11, (.map (em (fun k => D.agg (zD k)) (fun v => D.agg ((aB 61) v)) r.2))), (3, (.cells [(.map 0 11)]))], []⟩, []⟩
noncomputable def z6o (p0 : zd) : (Int × (List (zw × (Nat → Bool)))) → Ex × St := fun r => ((.exit 0), zAg p0 r)
theorem zIo (k : Nat) (p0 : zd) (s1_8 : Int) (s1_16 : zt2) (x : (Int × (List (zw × (Nat → Bool)))) ⊕ (Int × (List (zw × (Nat → Bool))))) (h : zke k p0 s1_8 s1_16 = some x) : zQ TE 81 (blk TE 81 0) (fun s : (Int × (List (zw × (Nat → Bool)))) => zvp p0 s.1 s.2) (z6o p0) (s1_8, s1_16) x := by
 unfold zke at h
 refine zn h (fun h2101 g1 => ?_) (fun h2101 g1 => ?_)
 ·refine zn g1 (fun h2102 g2 => ?_) (fun h2102 g2 => ?_)
  ·cases g2
  ·refine zk g2 (fun v2103 h2104 g3 => ?_)
   exact zqn ((w64 (s1_8 + 1)), v2103.2) [] [(81, 3, 0, .q (xb true)), (81, 5, 3, .q (xi (p0.ShelfBook.Deliveries.1.length : Int))), (81, 5, 4, .q (xi (zO 1 (p0.ShelfBook.Deliveries.1.length : Int))))] [(81, 2, (.nor, z8f p0 s1_8 v2103))] g3 (ob (o_b h2101) (ob (zy zh p0.ShelfBook.Deliveries.1) (ob (zBc (x := 1) h2102) (ob (zG (id := 2) (r' := (.nor, z8f p0 s1_8 v2103)) (zib (z0n k p0 s1_8) k _ _ h2104) rfl) ob0)))) (by kernel_rfl)
 ·exact zqo [(81, 3, 0, .q (xb false))] [] g1 (ob (o_b h2101) ob0) (by kernel_rfl)
theorem zPh (k : Nat) (p0 : zd) (r : zt2) (h : zre k p0 = some r) : zM TE (ev TE) 81 [(.agg (zr p0))] = some (z7k r) := by
 unfold zre at h
 refine zk h (fun v1 h2 g1 => ?_)
 refine zk g1 (fun v3 h4 g2 => ?_)
 exact zJ (g := z7k) g2 (zqc [(81, 1, 3, .c (.agg (aB 61 v1)))] [(81, 0, (.nor, zAg p0 v3))] (ob (zgq k p0 _ h2) (ob (zG (id := 0) (r' := (.nor, zAg p0 v3)) (zib (zIo k p0) k _ _ h4) rfl) ob0)) (by kernel_rfl))
noncomputable def zyD (p0 : zd) (v1 : zt2) (s1_10 : Int) : TM := [(0, (.d (.agg (zr p0)))), (zsp 1), (2, (xb false)), (3, (.d (.mp (em (fun k => D.agg (zD k)) (fun v => D.agg ((aB 61) v)) v1)))), (11, (xi (zO 1 (p0.ShelfBook.Deliveries.1.length : Int)))), (12, (xi s1_10))]
noncomputable def zeq (p0 : zd) (v1 : zt2) (s1_10 : Int) : St := ⟨(zyD p0 v1 s1_10), ⟨[(zc 1 (zr p0))], []⟩, []⟩
noncomputable def zcE (p0 : zd) (v1 : zt2) (r : Int) : TM := [(0, (.d (.agg (zr p0)))), (zsp 1), (2, (xb true)), (3, (.d (.mp (em (fun k => D.agg (zD k)) (fun v => D.agg ((aB 61) v)) v1)))), (11, (xi (zO 1 (p0.ShelfBook.Deliveries.1.length : Int)))), (12, (xi r)), (13, (xb true)), (4, (xi r)), (24, (xb true))]
noncomputable def zxh (p0 : zd) (v1 : zt2) (r : Int) : St := ⟨(zcE p0 v1 r), ⟨[(zc 1 (zr p0))], []⟩, []⟩
noncomputable def z6D (p0 : zd) (v1 : zt2) (r : Int) : TM := [(0, (.d (.agg (zr p0)))), (zsp 1), (2, (xb false)), (3, (.d (.mp (em (fun k => D.agg (zD k)) (fun v => D.agg ((aB 61) v)) v1)))), (11, (xi (zO 1 (p0.ShelfBook.Deliveries.1.length : Int)))), (12, (xi r)), (13, (xb false))]
noncomputable def zoh (p0 : zd) (v1 : zt2) (r : Int) : St := ⟨(z6D p0 v1 r), ⟨[(zc 1 (zr p0))], []⟩, []⟩
noncomputable def zfq (p0 : zd) (v1 : zt2) : (Int ⊕ Int) → Ex × St := Sum.elim (fun r => (.ret, zxh p0 v1 r)) (fun r => ((.exit 0), zoh p0 v1 r))
theorem z0j (k : Nat) (p0 : zd) (v1 : zt2) (s1_10 : Int) (x : Int ⊕ (Int ⊕ Int)) (h : znf k p0 v1 s1_10 = some x) : zQ TE 67 (blk TE 67 0) (fun s : Int => zeq p0 v1 s) (zfq p0 v1) s1_10 x := by
 unfold znf at h
 refine zn h (fun h201 g1 => ?_) (fun h201 g1 => ?_)
 ·refine zk g1 (fun v202 h203 g2 => ?_)
  refine zn g2 (fun h204 g3 => ?_) (fun h204 g3 => ?_)
  ·exact zqo [(67, 3, 0, .q (xb true)), (67, 5, 7, .q (.d (.agg (aB 61 ((zab zC (⟨(w64 (p0.ShelfBook.Days - 1)), s1_10⟩ : zw) v1).getD (fun _ => false)))))), (67, 5, 8, .c (.agg (aB 61 v202))), (67, 5, 9, .q (xb true))] [] g3 (ob (o_b h201) (ob (zWj (ek := (fun k => D.agg (zD k))) (evl := (fun v => D.agg ((aB 61) v))) (q := zC) (fun _ _ => rfl) (⟨(w64 (p0.ShelfBook.Days - 1)), s1_10⟩ : zw) v1 (fun _ => false)) (ob (zth k _ h203) (ob (o_b h204) ob0)))) (by kernel_rfl)
  ·exact zqn (w64 (s1_10 + 1)) [] [(67, 3, 0, .q (xb true)), (67, 5, 7, .q (.d (.agg (aB 61 ((zab zC (⟨(w64 (p0.ShelfBook.Days - 1)), s1_10⟩ : zw) v1).getD (fun _ => false)))))), (67, 5, 8, .c (.agg (aB 61 v202))), (67, 5, 9, .q (xb false))] [] g3 (ob (o_b h201) (ob (zWj (ek := (fun k => D.agg (zD k))) (evl := (fun v => D.agg ((aB 61) v))) (q := zC) (fun _ _ => rfl) (⟨(w64 (p0.ShelfBook.Days - 1)), s1_10⟩ : zw) v1 (fun _ => false)) (ob (zth k _ h203) (ob (o_b h204) ob0)))) (by kernel_rfl)
 ·exact zqo [(67, 3, 0, .q (xb false))] [] g1 (ob (o_b h201) ob0) (by kernel_rfl)
theorem zlf (k : Nat) (p0 : zd) (r : Bool) (h : zne k p0 = some r) : zM TE (ev TE) 67 [(.agg (zr p0))] = some (zxj r) := by
 unfold zne at h
 refine zk h (fun v1 h2 g1 => ?_)
 refine zn g1 (fun h3 g2 => ?_) (fun h3 g2 => ?_)
 ·cases g2
 ·refine zk g2 (fun v4 h5 g3 => ?_)
  refine zwd g3 (fun v7 hh g4_0 => ?_) (fun v7 hh g4_0 => ?_)
  ·subst hh
   exact zJ (g := zxj) g4_0 (zqc [(67, 1, 1, .c (.mp (em (fun k => D.agg (zD k)) (fun v => D.agg ((aB 61) v)) v1))), (67, 2, 3, .q (xi (p0.ShelfBook.Deliveries.1.length : Int))), (67, 2, 4, .q (xi (zO 1 (p0.ShelfBook.Deliveries.1.length : Int))))] [(67, 0, (.ret, zxh p0 v1 v7))] (ob (zPh k p0 _ h2) (ob (zy zh p0.ShelfBook.Deliveries.1) (ob (zBc (x := 1) h3) (ob (zG (id := 0) (r' := (.ret, zxh p0 v1 v7)) (ztc (z0j k p0 v1) k _ _ h5) rfl) ob0)))) (by kernel_rfl))
  ·subst hh
   exact zJ (g := zxj) g4_0 (zqc [(67, 1, 1, .c (.mp (em (fun k => D.agg (zD k)) (fun v => D.agg ((aB 61) v)) v1))), (67, 2, 3, .q (xi (p0.ShelfBook.Deliveries.1.length : Int))), (67, 2, 4, .q (xi (zO 1 (p0.ShelfBook.Deliveries.1.length : Int))))] [(67, 0, (.nor, zoh p0 v1 v7))] (ob (zPh k p0 _ h2) (ob (zy zh p0.ShelfBook.Deliveries.1) (ob (zBc (x := 1) h3) (ob (zG (id := 0) (r' := (.nor, zoh p0 v1 v7)) (ztc (z0j k p0 v1) k _ _ h5) rfl) ob0)))) (by kernel_rfl))
noncomputable def zPD (p0 : za) (p1 s1_8 : Int) : TM := [(0, (.d (.agg (zb p0)))), (1, (xi p1)), (zsp 2), (4, (xb false)), (9, (xi (p0.Shelves.1.length : Int))), (10, (xi s1_8))]
noncomputable def zbr (p0 : za) (p1 s1_8 : Int) : St := ⟨(zPD p0 p1 s1_8), ⟨[(zc 2 (zb p0))], []⟩, []⟩
noncomputable def zVD (p0 : za) (p1 r : Int) : TM := [(0, (.d (.agg (zb p0)))), (1, (xi p1)), (zsp 2), (4, (xb false)), (9, (xi (p0.Shelves.1.length : Int))), (10, (xi r)), (11, (xb true)), (5, (xi r)), (6, (.d (.fn 67 [(.agg ((zb p0) ++ [(di r), (di p1)]))] []))), (20, (xb true))]
noncomputable def zgi (p0 : za) (p1 r : Int) : St := ⟨(zVD p0 p1 r), ⟨[(zc 2 (zb p0))], []⟩, []⟩
noncomputable def zUD (p0 : za) (p1 r : Int) : TM := [(0, (.d (.agg (zb p0)))), (1, (xi p1)), (zsp 2), (4, (xb false)), (9, (xi (p0.Shelves.1.length : Int))), (10, (xi r)), (11, (xb false))]
noncomputable def zii (p0 : za) (p1 r : Int) : St := ⟨(zUD p0 p1 r), ⟨[(zc 2 (zb p0))], []⟩, []⟩
noncomputable def zhr (p0 : za) (p1 : Int) : (Int ⊕ Int) → Ex × St := Sum.elim (fun r => (.ret, zgi p0 p1 r)) (fun r => ((.exit 0), zii p0 p1 r))
theorem zDl (k : Nat) (p0 : za) (p1 s1_8 : Int) (x : Int ⊕ (Int ⊕ Int)) (h : zqg k p0 p1 s1_8 = some x) : zQ TE 76 (blk TE 76 0) (fun s : Int => zbr p0 p1 s) (zhr p0 p1) s1_8 x := by
 unfold zqg at h
 refine zn h (fun h201 g1 => ?_) (fun h201 g1 => ?_)
 ·refine zk g1 (fun v202 h203 g2 => ?_)
  refine zn g2 (fun h204 g3 => ?_) (fun h204 g3 => ?_)
  ·exact zqo [(76, 2, 0, .q (xb true)), (76, 5, 1, .c (db v202)), (76, 5, 2, .q (xb true))] [] g3 (ob (o_b h201) (ob (zlf k (⟨p0, s1_8, p1⟩ : zd) _ h203) (ob (o_b h204) ob0))) (by kernel_rfl)
  ·exact zqn (w64 (s1_8 + 1)) [] [(76, 2, 0, .q (xb true)), (76, 5, 1, .c (db v202)), (76, 5, 2, .q (xb false))] [] g3 (ob (o_b h201) (ob (zlf k (⟨p0, s1_8, p1⟩ : zd) _ h203) (ob (o_b h204) ob0))) (by kernel_rfl)
 ·exact zqo [(76, 2, 0, .q (xb false))] [] g1 (ob (o_b h201) ob0) (by kernel_rfl)
theorem zOb (k : Nat) (p0 : za) (p1 : Int) (r : Bool) (h : zFb k p0 p1 = some r) : zM TE (ev TE) 76 [(.agg (zb p0)), (di p1)] = some (zDk r) := by
 unfold zFb at h
 refine zk h (fun v1 h2 g1 => ?_)
 refine zwd g1 (fun v4 hh g2_0 => ?_) (fun v4 hh g2_0 => ?_)
 ·subst hh
  exact zJ (g := zDk) g2_0 (zqc [(76, 1, 2, .q (xi (p0.Shelves.1.length : Int)))] [(76, 0, (.ret, zgi p0 p1 v4))] (ob (zy zo p0.Shelves.1) (ob (zG (id := 0) (r' := (.ret, zgi p0 p1 v4)) (ztc (zDl k p0 p1) k _ _ h2) rfl) ob0)) (by kernel_rfl))
 ·subst hh
  exact zJ (g := zDk) g2_0 (zqc [(76, 1, 2, .q (xi (p0.Shelves.1.length : Int)))] [(76, 0, (.nor, zii p0 p1 v4))] (ob (zy zo p0.Shelves.1) (ob (zG (id := 0) (r' := (.nor, zii p0 p1 v4)) (ztc (zDl k p0 p1) k _ _ h2) rfl) ob0)) (by kernel_rfl))
theorem zCb (k : Nat) (p0 : za) (p1 : Bool) (r : Int) (h : zNd k p0 p1 = some r) : zM TE (ev TE) 51 [(.agg (zb p0)), (db p1)] = some (zFh r) := by
 unfold zNd at h
 refine zk h (fun v1 h2 g1 => ?_)
 refine zn g1 (fun h3 g2 => ?_) (fun h3 g2 => ?_)
 ·exact zJ (g := zFh) g2 (zqc [(51, 1, 1, .c (di v1)), (51, 2, 1, .q (xb true))] [] (ob (zpe k p0 _ h2) (ob (o_b h3) ob0)) (by kernel_rfl))
 ·refine zn g2 (fun h4 g3 => ?_) (fun h4 g3 => ?_)
  ·exact zJ (g := zFh) g3 (zqc [(51, 1, 1, .c (di v1)), (51, 2, 1, .q (xb false)), (51, 4, 1, .q (xb true))] [] (ob (zpe k p0 _ h2) (ob (o_b h3) (ob (o_b h4) ob0))) (by kernel_rfl))
  ·refine zk g3 (fun v5 h6 g4 => ?_)
   refine zn g4 (fun h7 g5 => ?_) (fun h7 g5 => ?_)
   ·exact zJ (g := zFh) g5 (zqc [(51, 1, 1, .c (di v1)), (51, 2, 1, .q (xb false)), (51, 4, 1, .q (xb false)), (51, 6, 1, .c (db v5)), (51, 6, 2, .q (xb true))] [] (ob (zpe k p0 _ h2) (ob (o_b h3) (ob (o_b h4) (ob (zOb k p0 0 _ h6) (ob (o_b h7) ob0))))) (by kernel_rfl))
   ·exact zJ (g := zFh) g5 (zqc [(51, 1, 1, .c (di v1)), (51, 2, 1, .q (xb false)), (51, 4, 1, .q (xb false)), (51, 6, 1, .c (db v5)), (51, 6, 2, .q (xb false))] [] (ob (zpe k p0 _ h2) (ob (o_b h3) (ob (o_b h4) (ob (zOb k p0 0 _ h6) (ob (o_b h7) ob0))))) (by kernel_rfl))
noncomputable def zvD (p0 : zd) (s1_8 : Int) (v302 : zW) (s3_12 : Int) : TM := [(0, (.d (.agg (zr p0)))), (zsp 1), (2, (.d .nilm)), (zsp 3), (19, (xi (zO 1 (p0.ShelfBook.Deliveries.1.length : Int)))), (20, (xi s1_8)), (21, (xb true)), (4, (xi s1_8)), (zsp 5), (31, (xi (w64 (v302.Room + 1)))), (32, (xi s3_12))]
noncomputable def zNp (p0 : zd) (s1_8 : Int) (s1_16 : zt2) (v302 : zW) (s3_12 : Int) (s3_21 : zt0) : St := ⟨(zvD p0 s1_8 v302 s3_12), ⟨[(zc 1 (zr p0)), (14, (.map (em (fun k => D.agg (zD k)) (fun v => D.agg ((aB 61) v)) s1_16))), (3, (.cells [(.map 0 14)])), (zc 5 (aB 61 s3_21))], []⟩, []⟩
noncomputable def z7D (p0 : zd) (s1_8 : Int) (v302 : zW) (r : zt11) : TM := [(0, (.d (.agg (zr p0)))), (zsp 1), (2, (.d .nilm)), (zsp 3), (19, (xi (zO 1 (p0.ShelfBook.Deliveries.1.length : Int)))), (20, (xi s1_8)), (21, (xb true)), (4, (xi s1_8)), (zsp 5), (31, (xi (w64 (v302.Room + 1)))), (32, (xi r.1)), (33, (xb false))]
noncomputable def z9g (p0 : zd) (s1_8 : Int) (s1_16 : zt2) (v302 : zW) (r : zt11) : St := ⟨(z7D p0 s1_8 v302 r), ⟨[(zc 1 (zr p0)), (14, (.map (em (fun k => D.agg (zD k)) (fun v => D.agg ((aB 61) v)) s1_16))), (3, (.cells [(.map 0 14)])), (zc 5 (aB 61 r.2))], []⟩, []⟩
noncomputable def zQp (p0 : zd) (s1_8 : Int) (s1_16 : zt2) (v302 : zW) : (Int × (Nat → Bool)) → Ex × St := fun r => ((.exit 2), z9g p0 s1_8 s1_16 v302 r)
theorem z7o (k : Nat) (p0 : zd) (s1_8 : Int) (s1_16 : zt2) (v302 : zW) (s3_12 : Int) (s3_21 : zt0) (x : (Int × (Nat → Bool)) ⊕ (Int × (Nat → Bool))) (h : zxd k p0 s1_8 s1_16 v302 s3_12 s3_21 = some x) : zQ TE 82 (blk TE 82 2) (fun s : (Int × (Nat → Bool)) => zNp p0 s1_8 s1_16 v302 s.1 s.2) (zQp p0 s1_8 s1_16 v302) (s3_12, s3_21) x := by
 unfold zxd at h
 refine zn h (fun h401 g1 => ?_) (fun h401 g1 => ?_)
 ·refine zT g1 (fun h402 g2 => ?_)
  exact zqn ((w64 (s3_12 + 1)), (upd s3_21 s3_12.toNat true)) [] [(82, 7, 0, .q (xb true)), (82, 9, 1, .q (.ptr 0 5 (s3_12.toNat))), (82, 9, 2, .st ((aB 61 (upd s3_21 s3_12.toNat true)).map .d))] [] g2 (ob (o_b h401) (ob (zId (m := 61) 0 5 0 1 s3_12.toNat h402 (by omega)) (ob (zVk 61 s3_21 s3_12.toNat true (by have := h402; simp only [Bool.and_eq_true, decide_eq_true_eq] at this; omega)) ob0))) (by kernel_rfl)
 ·exact zqo [(82, 7, 0, .q (xb false))] [] g1 (ob (o_b h401) ob0) (by kernel_rfl)
noncomputable def zfD (p0 : zd) (s1_8 : Int) : TM := [(0, (.d (.agg (zr p0)))), (zsp 1), (2, (.d .nilm)), (zsp 3), (19, (xi (zO 1 (p0.ShelfBook.Deliveries.1.length : Int)))), (20, (xi s1_8))]
noncomputable def zzp (p0 : zd) (s1_8 : Int) (s1_16 : zt2) : St := ⟨(zfD p0 s1_8), ⟨[(zc 1 (zr p0)), (14, (.map (em (fun k => D.agg (zD k)) (fun v => D.agg ((aB 61) v)) s1_16))), (3, (.cells [(.map 0 14)]))], []⟩, []⟩
noncomputable def zlD (p0 : zd) (r : zt7) : TM := [(0, (.d (.agg (zr p0)))), (zsp 1), (2, (.d .nilm)), (zsp 3), (19, (xi (zO 1 (p0.ShelfBook.Deliveries.1.length : Int)))), (20, (xi r.1)), (21, (xb false))]
noncomputable def z1g (p0 : zd) (r : zt7) : St := ⟨(zlD p0 r), ⟨[(zc 1 (zr p0)), (14, (.map (em (fun k => D.agg (zD k)) (fun v => D.agg ((aB 61) v)) r.2))), (3, (.cells [(.map 0 14)]))], []⟩, []⟩
noncomputable def z0p (p0 : zd) : (Int × (List (zw × (Nat → Bool)))) → Ex × St := fun r => ((.exit 0), z1g p0 r)
theorem zYo (k : Nat) (p0 : zd) (s1_8 : Int) (s1_16 : zt2) (x : (Int × (List (zw × (Nat → Bool)))) ⊕ (Int × (List (zw × (Nat → Bool))))) (h : zFe k p0 s1_8 s1_16 = some x) : zQ TE 82 (blk TE 82 0) (fun s : (Int × (List (zw × (Nat → Bool)))) => zzp p0 s.1 s.2) (z0p p0) (s1_8, s1_16) x := by
 unfold zFe at h
 refine zn h (fun h301 g1 => ?_) (fun h301 g1 => ?_)
 ·refine zk g1 (fun v302 h303 g2 => ?_)
  refine zk g2 (fun v304 h305 g3 => ?_)
  exact zqn ((w64 (s1_8 + 1)), (mset zC (⟨(w64 (p0.ShelfBook.Days - 1)), s1_8⟩ : zw) v304.2 s1_16)) [] [(82, 3, 0, .q (xb true)), (82, 6, 5, .q (.d (.pin (zo v302)))), (82, 11, 8, .mp (em (fun k => D.agg (zD k)) (fun v => D.agg ((aB 61) v)) (mset zC (⟨(w64 (p0.ShelfBook.Days - 1)), s1_8⟩ : zw) v304.2 s1_16)))] [(82, 2, (.nor, z9g p0 s1_8 s1_16 v302 v304))] g3 (ob (o_b h301) (ob (o_ia (e := zo) 3 h303 rfl) (ob (zG (id := 2) (r' := (.nor, z9g p0 s1_8 s1_16 v302 v304)) (zib (z7o k p0 s1_8 s1_16 v302) k _ _ h305) rfl) (ob (zzs (ek := (fun k => D.agg (zD k))) (evl := (fun v => D.agg ((aB 61) v))) (q := zC) (fun _ _ => rfl) (⟨(w64 (p0.ShelfBook.Days - 1)), s1_8⟩ : zw) v304.2 s1_16) ob0)))) (by kernel_rfl)
 ·exact zqo [(82, 3, 0, .q (xb false))] [] g1 (ob (o_b h301) ob0) (by kernel_rfl)
noncomputable def zuD (v3402 : zt5) (s34_10 s39_15 : Int) (r : Bool) : TM := [(0, (.yld 0)), (1, (.d (.pin [(di v3402.1), (dl zo v3402.2.1.1 v3402.2.1.2), (dl zp v3402.2.2.1.1 v3402.2.2.1.2), (dl zh v3402.2.2.2.1.1 v3402.2.2.2.1.2), (dl zj v3402.2.2.2.2.1.1 v3402.2.2.2.2.1.2), (di v3402.2.2.2.2.2.1), (di v3402.2.2.2.2.2.2.1)]))), (2, (.d (.pin [(di v3402.2.2.2.2.2.2.2.1)]))), (3, (.d (.pin [(di v3402.2.2.2.2.2.2.2.2)]))), (14, (xi (zO 1 (v3402.2.2.2.1.1.length : Int)))), (15, (xi s34_10)), (16, (xb true)), (5, (xi s34_10)), (20, (.d (dl zh v3402.2.2.2.1.1 v3402.2.2.2.1.2))), (21, (xi (v3402.2.2.2.1.1.length : Int))), (22, (xi s39_15)), (23, (xb true)), (7, (.ptr 1 7 0)), (6, (xi s39_15)), (8, (xb ((ztb (z7 v3402.2.2.2.2.2.2.2.1 s39_15) 1) == 1))), (9, (xb ((ztb (z7 s34_10 s39_15) 1) == 1))), (41, (xb false)), (76, (xb r))]
noncomputable def zTl (p0 : zd) (v2 : zt7) (s24_12 : Int) (v3402 : zt5) : TM := [(0, (.d (.agg (zr p0)))), (zsp 1), (2, (.d .nilm)), (zsp 3), (19, (xi (zO 1 (p0.ShelfBook.Deliveries.1.length : Int)))), (20, (xi v2.1)), (21, (xb false)), (zsp 7), (52, (xb true)), (59, (xi (zO 1 (p0.ShelfBook.Deliveries.1.length : Int)))), (60, (xi s24_12)), (61, (xb true)), (zsp 8), (66, (.d (.fn 97 [] [(.pin [(di v3402.1), (dl zo v3402.2.1.1 v3402.2.1.2), (dl zp v3402.2.2.1.1 v3402.2.2.1.2), (dl zh v3402.2.2.2.1.1 v3402.2.2.2.1.2), (dl zj v3402.2.2.2.2.1.1 v3402.2.2.2.2.1.2), (di v3402.2.2.2.2.2.1), (di v3402.2.2.2.2.2.2.1)]), (.pin [(di v3402.2.2.2.2.2.2.2.1)]), (.pin [(di v3402.2.2.2.2.2.2.2.2)])])))]
noncomputable def zZ (p0 : zd) (v2 : zt7) (s4_18 s24_12 : Int) (v3402 : zt5) (s34_10 : Int) (s34_18 : zt2) (s39_15 : Int) (v4102 : zt) (r : Bool) : St := ⟨(zuD v3402 s34_10 s39_15 r), ⟨[(zc 7 (zh v4102))], [[(zc 1 (zr p0)), (14, (.map (em (fun k => D.agg (zD k)) (fun v => D.agg ((aB 61) v)) s34_18))), (3, (.cells [(.map 0 14)])), (7, (.cells [(xi s4_18)])), (8, (.cells [(xi s24_12)]))]]⟩, [⟨(zTl p0 v2 s24_12 v3402), 0, rfP (blk TE 82 8), rfA (blk TE 82 8), rfB (blk TE 82 8), 82, .rdy⟩]⟩
noncomputable def zLD (v3402 : zt5) (s34_10 s39_15 : Int) : TM := [(0, (.yld 0)), (1, (.d (.pin [(di v3402.1), (dl zo v3402.2.1.1 v3402.2.1.2), (dl zp v3402.2.2.1.1 v3402.2.2.1.2), (dl zh v3402.2.2.2.1.1 v3402.2.2.2.1.2), (dl zj v3402.2.2.2.2.1.1 v3402.2.2.2.2.1.2), (di v3402.2.2.2.2.2.1), (di v3402.2.2.2.2.2.2.1)]))), (2, (.d (.pin [(di v3402.2.2.2.2.2.2.2.1)]))), (3, (.d (.pin [(di v3402.2.2.2.2.2.2.2.2)]))), (14, (xi (zO 1 (v3402.2.2.2.1.1.length : Int)))), (15, (xi s34_10)), (16, (xb true)), (5, (xi s34_10)), (20, (.d (dl zh v3402.2.2.2.1.1 v3402.2.2.2.1.2))), (21, (xi (v3402.2.2.2.1.1.length : Int))), (22, (xi s39_15)), (23, (xb true)), (7, (.ptr 1 7 0)), (6, (xi s39_15)), (8, (xb ((ztb (z7 v3402.2.2.2.2.2.2.2.1 s39_15) 1) == 1))), (9, (xb ((ztb (z7 s34_10 s39_15) 1) == 1))), (41, (xb false))]
theorem zbj (k : Nat) (p0 : zd) (v2 : zt7) (s4_18 s24_12 : Int) (v3402 : zt5) (s34_10 : Int) (s34_18 : zt2) (s39_15 : Int) (v4102 : zt) (r : Bool) (h : z5f k p0 v2 s4_18 s24_12 v3402 s34_10 s34_18 s39_15 v4102 = some r) : ev TE 97 (rgn TE 97 9) ⟨(zLD v3402 s34_10 s39_15), ⟨[(zc 7 (zh v4102))], [[(zc 1 (zr p0)), (14, (.map (em (fun k => D.agg (zD k)) (fun v => D.agg ((aB 61) v)) s34_18))), (3, (.cells [(.map 0 14)])), (7, (.cells [(xi s4_18)])), (8, (.cells [(xi s24_12)]))]]⟩, [⟨(zTl p0 v2 s24_12 v3402), 0, rfP (blk TE 82 8), rfA (blk TE 82 8), rfB (blk TE 82 8), 82, .rdy⟩]⟩ = some (.nor, zZ p0 v2 s4_18 s24_12 v3402 s34_10 s34_18 s39_15 v4102 r) := by
 unfold z5f at h
 refine zn h (fun h4201 g1 => ?_) (fun h4201 g1 => ?_)
 ·refine zn g1 (fun h4202 g2 => ?_) (fun h4202 g2 => ?_)
  ·exact zA (g := fun r => (Ex.nor, zZ p0 v2 s4_18 s24_12 v3402 s34_10 s34_18 s39_15 v4102 r)) g2 (zqe [(97, 9, 1, .q (xb true)), (97, 9, 5, .q (xb true))] [] (ob (o_b h4201) (ob (o_b h4202) ob0)) (by kernel_rfl))
  ·refine zn g2 (fun h4203 g3 => ?_) (fun h4203 g3 => ?_)
   ·refine zn g3 (fun h4204 g4 => ?_) (fun h4204 g4 => ?_)
    ·refine zk g4 (fun v4205 h4206 g5 => ?_)
     refine zn g5 (fun h4207 g6 => ?_) (fun h4207 g6 => ?_)
     ·exact zA (g := fun r => (Ex.nor, zZ p0 v2 s4_18 s24_12 v3402 s34_10 s34_18 s39_15 v4102 r)) g6 (zqe [(97, 9, 1, .q (xb true)), (97, 9, 5, .q (xb false)), (97, 9, 7, .q (xb true)), (97, 9, 11, .q (xb true)), (97, 9, 19, .c (db v4205)), (97, 9, 23, .q (xb true))] [] (ob (o_b h4201) (ob (o_b h4202) (ob (o_b h4203) (ob (o_b h4204) (ob (zH k v3402.2.2.2.2.2.2.2.2 v4102.Days.Low v4102.Days.High _ h4206) (ob (o_b h4207) ob0)))))) (by kernel_rfl))
     ·exact zA (g := fun r => (Ex.nor, zZ p0 v2 s4_18 s24_12 v3402 s34_10 s34_18 s39_15 v4102 r)) g6 (zqe [(97, 9, 1, .q (xb true)), (97, 9, 5, .q (xb false)), (97, 9, 7, .q (xb true)), (97, 9, 11, .q (xb true)), (97, 9, 19, .c (db v4205)), (97, 9, 23, .q (xb false)), (97, 9, 26, .q (xb false))] [] (ob (o_b h4201) (ob (o_b h4202) (ob (o_b h4203) (ob (o_b h4204) (ob (zH k v3402.2.2.2.2.2.2.2.2 v4102.Days.Low v4102.Days.High _ h4206) (ob (o_b h4207) (ob (o_b h4202) ob0))))))) (by kernel_rfl))
    ·exact zA (g := fun r => (Ex.nor, zZ p0 v2 s4_18 s24_12 v3402 s34_10 s34_18 s39_15 v4102 r)) g4 (zqe [(97, 9, 1, .q (xb true)), (97, 9, 5, .q (xb false)), (97, 9, 7, .q (xb true)), (97, 9, 11, .q (xb false)), (97, 9, 26, .q (xb false))] [] (ob (o_b h4201) (ob (o_b h4202) (ob (o_b h4203) (ob (o_b h4204) (ob (o_b h4202) ob0))))) (by kernel_rfl))
   ·exact zA (g := fun r => (Ex.nor, zZ p0 v2 s4_18 s24_12 v3402 s34_10 s34_18 s39_15 v4102 r)) g3 (zqe [(97, 9, 1, .q (xb true)), (97, 9, 5, .q (xb false)), (97, 9, 7, .q (xb false)), (97, 9, 26, .q (xb false))] [] (ob (o_b h4201) (ob (o_b h4202) (ob (o_b h4203) (ob (o_b h4202) ob0)))) (by kernel_rfl))
 ·refine zn g1 (fun h4202 g2 => ?_) (fun h4202 g2 => ?_)
  ·refine zn g2 (fun h4203 g3 => ?_) (fun h4203 g3 => ?_)
   ·refine zk g3 (fun v4204 h4205 g4 => ?_)
    refine zn g4 (fun h4206 g5 => ?_) (fun h4206 g5 => ?_)
    ·exact zA (g := fun r => (Ex.nor, zZ p0 v2 s4_18 s24_12 v3402 s34_10 s34_18 s39_15 v4102 r)) g5 (zqe [(97, 9, 1, .q (xb false)), (97, 9, 7, .q (xb true)), (97, 9, 11, .q (xb true)), (97, 9, 19, .c (db v4204)), (97, 9, 23, .q (xb true))] [] (ob (o_b h4201) (ob (o_b h4202) (ob (o_b h4203) (ob (zH k v3402.2.2.2.2.2.2.2.2 v4102.Days.Low v4102.Days.High _ h4205) (ob (o_b h4206) ob0))))) (by kernel_rfl))
    ·refine zn g5 (fun h4207 g6 => ?_) (fun h4207 g6 => ?_)
     ·exact zA (g := fun r => (Ex.nor, zZ p0 v2 s4_18 s24_12 v3402 s34_10 s34_18 s39_15 v4102 r)) g6 (zqe [(97, 9, 1, .q (xb false)), (97, 9, 7, .q (xb true)), (97, 9, 11, .q (xb true)), (97, 9, 19, .c (db v4204)), (97, 9, 23, .q (xb false)), (97, 9, 26, .q (xb true))] [] (ob (o_b h4201) (ob (o_b h4202) (ob (o_b h4203) (ob (zH k v3402.2.2.2.2.2.2.2.2 v4102.Days.Low v4102.Days.High _ h4205) (ob (o_b h4206) (ob (o_b h4207) ob0)))))) (by kernel_rfl))
     ·exact zA (g := fun r => (Ex.nor, zZ p0 v2 s4_18 s24_12 v3402 s34_10 s34_18 s39_15 v4102 r)) g6 (zqe [(97, 9, 1, .q (xb false)), (97, 9, 7, .q (xb true)), (97, 9, 11, .q (xb true)), (97, 9, 19, .c (db v4204)), (97, 9, 23, .q (xb false)), (97, 9, 26, .q (xb false))] [] (ob (o_b h4201) (ob (o_b h4202) (ob (o_b h4203) (ob (zH k v3402.2.2.2.2.2.2.2.2 v4102.Days.Low v4102.Days.High _ h4205) (ob (o_b h4206) (ob (o_b h4207) ob0)))))) (by kernel_rfl))
   ·refine zn g3 (fun h4204 g4 => ?_) (fun h4204 g4 => ?_)
    ·exact zA (g := fun r => (Ex.nor, zZ p0 v2 s4_18 s24_12 v3402 s34_10 s34_18 s39_15 v4102 r)) g4 (zqe [(97, 9, 1, .q (xb false)), (97, 9, 7, .q (xb true)), (97, 9, 11, .q (xb false)), (97, 9, 26, .q (xb true))] [] (ob (o_b h4201) (ob (o_b h4202) (ob (o_b h4203) (ob (o_b h4204) ob0)))) (by kernel_rfl))
    ·exact zA (g := fun r => (Ex.nor, zZ p0 v2 s4_18 s24_12 v3402 s34_10 s34_18 s39_15 v4102 r)) g4 (zqe [(97, 9, 1, .q (xb false)), (97, 9, 7, .q (xb true)), (97, 9, 11, .q (xb false)), (97, 9, 26, .q (xb false))] [] (ob (o_b h4201) (ob (o_b h4202) (ob (o_b h4203) (ob (o_b h4204) ob0)))) (by kernel_rfl))
  ·refine zn g2 (fun h4203 g3 => ?_) (fun h4203 g3 => ?_)
   ·exact zA (g := fun r => (Ex.nor, zZ p0 v2 s4_18 s24_12 v3402 s34_10 s34_18 s39_15 v4102 r)) g3 (zqe [(97, 9, 1, .q (xb false)), (97, 9, 7, .q (xb false)), (97, 9, 26, .q (xb true))] [] (ob (o_b h4201) (ob (o_b h4202) (ob (o_b h4203) ob0))) (by kernel_rfl))
   ·exact zA (g := fun r => (Ex.nor, zZ p0 v2 s4_18 s24_12 v3402 s34_10 s34_18 s39_15 v4102 r)) g3 (zqe [(97, 9, 1, .q (xb false)), (97, 9, 7, .q (xb false)), (97, 9, 26, .q (xb false))] [] (ob (o_b h4201) (ob (o_b h4202) (ob (o_b h4203) ob0))) (by kernel_rfl))
noncomputable def z2C (v3402 : zt5) (s34_10 s39_15 : Int) : TM := [(0, (.yld 0)), (1, (.d (.pin [(di v3402.1), (dl zo v3402.2.1.1 v3402.2.1.2), (dl zp v3402.2.2.1.1 v3402.2.2.1.2), (dl zh v3402.2.2.2.1.1 v3402.2.2.2.1.2), (dl zj v3402.2.2.2.2.1.1 v3402.2.2.2.2.1.2), (di v3402.2.2.2.2.2.1), (di v3402.2.2.2.2.2.2.1)]))), (2, (.d (.pin [(di v3402.2.2.2.2.2.2.2.1)]))), (3, (.d (.pin [(di v3402.2.2.2.2.2.2.2.2)]))), (14, (xi (zO 1 (v3402.2.2.2.1.1.length : Int)))), (15, (xi s34_10)), (16, (xb true)), (5, (xi s34_10)), (20, (.d (dl zh v3402.2.2.2.1.1 v3402.2.2.2.1.2))), (21, (xi (v3402.2.2.2.1.1.length : Int))), (22, (xi s39_15))]
noncomputable def zhp (p0 : zd) (v2 : zt7) (s4_18 s24_12 : Int) (v3402 : zt5) (s34_10 : Int) (s34_18 : zt2) (s39_15 : Int) : St := ⟨(z2C v3402 s34_10 s39_15), ⟨[], [[(zc 1 (zr p0)), (14, (.map (em (fun k => D.agg (zD k)) (fun v => D.agg ((aB 61) v)) s34_18))), (3, (.cells [(.map 0 14)])), (7, (.cells [(xi s4_18)])), (8, (.cells [(xi s24_12)]))]]⟩, [⟨(zTl p0 v2 s24_12 v3402), 0, rfP (blk TE 82 8), rfA (blk TE 82 8), rfB (blk TE 82 8), 82, .rdy⟩]⟩
noncomputable def zMD (v3402 : zt5) (s34_10 : Int) (r : (Int × Bool × Bool × Int × Int × Int × Int × Int)) : TM := [(0, (.yld 0)), (1, (.d (.pin [(di v3402.1), (dl zo v3402.2.1.1 v3402.2.1.2), (dl zp v3402.2.2.1.1 v3402.2.2.1.2), (dl zh v3402.2.2.2.1.1 v3402.2.2.2.1.2), (dl zj v3402.2.2.2.2.1.1 v3402.2.2.2.2.1.2), (di v3402.2.2.2.2.2.1), (di v3402.2.2.2.2.2.2.1)]))), (2, (.d (.pin [(di v3402.2.2.2.2.2.2.2.1)]))), (3, (.d (.pin [(di v3402.2.2.2.2.2.2.2.2)]))), (14, (xi (zO 1 (v3402.2.2.2.1.1.length : Int)))), (15, (xi s34_10)), (16, (xb true)), (5, (xi s34_10)), (20, (.d (dl zh v3402.2.2.2.1.1 v3402.2.2.2.1.2))), (21, (xi (v3402.2.2.2.1.1.length : Int))), (22, (xi r.1)), (23, (xb true)), (7, (.ptr 1 7 0)), (6, (xi r.1)), (8, (xb r.2.1)), (9, (xb r.2.2.1)), (41, (xb true)), (42, (xb true))]
noncomputable def zFg (p0 : zd) (v2 : zt7) (s4_18 s24_12 : Int) (v3402 : zt5) (s34_10 : Int) (s34_18 : zt2) (r : (Int × Bool × Bool × Int × Int × Int × Int × Int)) : St := ⟨(zMD v3402 s34_10 r), ⟨[(7, (.cells [(xi r.2.2.2.1), (xi r.2.2.2.2.1), (xi r.2.2.2.2.2.1), (xi r.2.2.2.2.2.2.1), (xi r.2.2.2.2.2.2.2)]))], [[(zc 1 (zr p0)), (14, (.map (em (fun k => D.agg (zD k)) (fun v => D.agg ((aB 61) v)) s34_18))), (3, (.cells [(.map 0 14)])), (7, (.cells [(xi s4_18)])), (8, (.cells [(xi s24_12)]))]]⟩, [⟨(zTl p0 v2 s24_12 v3402), 0, rfP (blk TE 82 8), rfA (blk TE 82 8), rfB (blk TE 82 8), 82, .rdy⟩]⟩
noncomputable def z3D (v3402 : zt5) (s34_10 : Int) (r : (Int × Bool × Bool × Int × Int × Int × Int × Int)) : TM := [(0, (.yld 0)), (1, (.d (.pin [(di v3402.1), (dl zo v3402.2.1.1 v3402.2.1.2), (dl zp v3402.2.2.1.1 v3402.2.2.1.2), (dl zh v3402.2.2.2.1.1 v3402.2.2.2.1.2), (dl zj v3402.2.2.2.2.1.1 v3402.2.2.2.2.1.2), (di v3402.2.2.2.2.2.1), (di v3402.2.2.2.2.2.2.1)]))), (2, (.d (.pin [(di v3402.2.2.2.2.2.2.2.1)]))), (3, (.d (.pin [(di v3402.2.2.2.2.2.2.2.2)]))), (14, (xi (zO 1 (v3402.2.2.2.1.1.length : Int)))), (15, (xi s34_10)), (16, (xb true)), (5, (xi s34_10)), (20, (.d (dl zh v3402.2.2.2.1.1 v3402.2.2.2.1.2))), (21, (xi (v3402.2.2.2.1.1.length : Int))), (22, (xi r.1)), (23, (xb true)), (7, (.ptr 1 7 0)), (6, (xi r.1)), (8, (xb r.2.1)), (9, (xb r.2.2.1)), (41, (xb false)), (76, (xb true))]
noncomputable def zCg (p0 : zd) (v2 : zt7) (s4_18 s24_12 : Int) (v3402 : zt5) (s34_10 : Int) (s34_18 : zt2) (r : (Int × Bool × Bool × Int × Int × Int × Int × Int)) : St := ⟨(z3D v3402 s34_10 r), ⟨[(7, (.cells [(xi r.2.2.2.1), (xi r.2.2.2.2.1), (xi r.2.2.2.2.2.1), (xi r.2.2.2.2.2.2.1), (xi r.2.2.2.2.2.2.2)]))], [[(zc 1 (zr p0)), (14, (.map (em (fun k => D.agg (zD k)) (fun v => D.agg ((aB 61) v)) s34_18))), (3, (.cells [(.map 0 14)])), (7, (.cells [(xi s4_18)])), (8, (.cells [(xi s24_12)]))]]⟩, [⟨(zTl p0 v2 s24_12 v3402), 0, rfP (blk TE 82 8), rfA (blk TE 82 8), rfB (blk TE 82 8), 82, .rdy⟩]⟩
noncomputable def zxD (v3402 : zt5) (s34_10 r : Int) : TM := [(0, (.yld 0)), (1, (.d (.pin [(di v3402.1), (dl zo v3402.2.1.1 v3402.2.1.2), (dl zp v3402.2.2.1.1 v3402.2.2.1.2), (dl zh v3402.2.2.2.1.1 v3402.2.2.2.1.2), (dl zj v3402.2.2.2.2.1.1 v3402.2.2.2.2.1.2), (di v3402.2.2.2.2.2.1), (di v3402.2.2.2.2.2.2.1)]))), (2, (.d (.pin [(di v3402.2.2.2.2.2.2.2.1)]))), (3, (.d (.pin [(di v3402.2.2.2.2.2.2.2.2)]))), (14, (xi (zO 1 (v3402.2.2.2.1.1.length : Int)))), (15, (xi s34_10)), (16, (xb true)), (5, (xi s34_10)), (20, (.d (dl zh v3402.2.2.2.1.1 v3402.2.2.2.1.2))), (21, (xi (v3402.2.2.2.1.1.length : Int))), (22, (xi r)), (23, (xb false))]
noncomputable def zxg (p0 : zd) (v2 : zt7) (s4_18 s24_12 : Int) (v3402 : zt5) (s34_10 : Int) (s34_18 : zt2) (r : Int) : St := ⟨(zxD v3402 s34_10 r), ⟨[], [[(zc 1 (zr p0)), (14, (.map (em (fun k => D.agg (zD k)) (fun v => D.agg ((aB 61) v)) s34_18))), (3, (.cells [(.map 0 14)])), (7, (.cells [(xi s4_18)])), (8, (.cells [(xi s24_12)]))]]⟩, [⟨(zTl p0 v2 s24_12 v3402), 0, rfP (blk TE 82 8), rfA (blk TE 82 8), rfB (blk TE 82 8), 82, .rdy⟩]⟩
noncomputable def z3o (p0 : zd) (v2 : zt7) (s4_18 s24_12 : Int) (v3402 : zt5) (s34_10 : Int) (s34_18 : zt2) : ((Int × Bool × Bool × Int × Int × Int × Int × Int) ⊕ ((Int × Bool × Bool × Int × Int × Int × Int × Int) ⊕ Int)) → Ex × St := Sum.elim (fun r => ((.exit 1), zFg p0 v2 s4_18 s24_12 v3402 s34_10 s34_18 r)) (Sum.elim (fun r => ((.exit 1), zCg p0 v2 s4_18 s24_12 v3402 s34_10 s34_18 r)) (fun r => ((.exit 2), zxg p0 v2 s4_18 s24_12 v3402 s34_10 s34_18 r)))
theorem zPg (k : Nat) (p0 : zd) (v2 : zt7) (s4_18 s24_12 : Int) (v3402 : zt5) (s34_10 : Int) (s34_18 : zt2) (s39_15 : Int) (x : Int ⊕ ((Int × Bool × Bool × Int × Int × Int × Int × Int) ⊕ ((Int × Bool × Bool × Int × Int × Int × Int × Int) ⊕ Int))) (h : z6c k p0 v2 s4_18 s24_12 v3402 s34_10 s34_18 s39_15 = some x) : zQ TE 97 (blk TE 97 2) (fun s : Int => zhp p0 v2 s4_18 s24_12 v3402 s34_10 s34_18 s) (z3o p0 v2 s4_18 s24_12 v3402 s34_10 s34_18) s39_15 x := by
 unfold z6c at h
 refine zn h (fun h4101 g1 => ?_) (fun h4101 g1 => ?_)
 ·refine zk g1 (fun v4102 h4103 g2 => ?_)
  refine zn g2 (fun h4104 g3 => ?_) (fun h4104 g3 => ?_)
  ·cases g3
  ·refine zn g3 (fun h4105 g4 => ?_) (fun h4105 g4 => ?_)
   ·refine zn g4 (fun h4106 g5 => ?_) (fun h4106 g5 => ?_)
    ·exact zqo [(97, 4, 0, .q (xb true)), (97, 5, 1, .q (.d (.pin (zh v4102)))), (97, 6, 2, .q (xi (z7 v3402.2.2.2.2.2.2.2.1 s39_15))), (97, 6, 7, .q (xi (z7 s34_10 s39_15))), (97, 7, 4, .q (xb true)), (97, 8, 0, .q (xb true))] [] g5 (ob (o_b h4101) (ob (o_ia (e := zh) 5 h4103 rfl) (ob (zVe (x := v3402.2.2.2.2.2.2.2.1) h4104) (ob (zVe (x := s34_10) h4104) (ob (o_b h4105) (ob (o_b h4106) ob0)))))) (by kernel_rfl)
    ·exact zqn (w64 (s39_15 + 1)) [] [(97, 4, 0, .q (xb true)), (97, 5, 1, .q (.d (.pin (zh v4102)))), (97, 6, 2, .q (xi (z7 v3402.2.2.2.2.2.2.2.1 s39_15))), (97, 6, 7, .q (xi (z7 s34_10 s39_15))), (97, 7, 4, .q (xb true)), (97, 8, 0, .q (xb false))] [] g5 (ob (o_b h4101) (ob (o_ia (e := zh) 5 h4103 rfl) (ob (zVe (x := v3402.2.2.2.2.2.2.2.1) h4104) (ob (zVe (x := s34_10) h4104) (ob (o_b h4105) (ob (o_b h4106) ob0)))))) (by kernel_rfl)
   ·refine zk g4 (fun v4106 h4107 g5 => ?_)
    refine zn g5 (fun h4108 g6 => ?_) (fun h4108 g6 => ?_)
    ·subst h4108
     exact zqo [(97, 4, 0, .q (xb true)), (97, 5, 1, .q (.d (.pin (zh v4102)))), (97, 6, 2, .q (xi (z7 v3402.2.2.2.2.2.2.2.1 s39_15))), (97, 6, 7, .q (xi (z7 s34_10 s39_15))), (97, 7, 4, .q (xb false))] [(97, 1000009, (.nor, zZ p0 v2 s4_18 s24_12 v3402 s34_10 s34_18 s39_15 v4102 true))] g6 (ob (o_b h4101) (ob (o_ia (e := zh) 5 h4103 rfl) (ob (zVe (x := v3402.2.2.2.2.2.2.2.1) h4104) (ob (zVe (x := s34_10) h4104) (ob (o_b h4105) (ob (zbj k p0 v2 s4_18 s24_12 v3402 s34_10 s34_18 s39_15 v4102 _ h4107) ob0)))))) (by kernel_rfl)
    ·subst h4108
     exact zqn (w64 (s39_15 + 1)) [] [(97, 4, 0, .q (xb true)), (97, 5, 1, .q (.d (.pin (zh v4102)))), (97, 6, 2, .q (xi (z7 v3402.2.2.2.2.2.2.2.1 s39_15))), (97, 6, 7, .q (xi (z7 s34_10 s39_15))), (97, 7, 4, .q (xb false))] [(97, 1000009, (.nor, zZ p0 v2 s4_18 s24_12 v3402 s34_10 s34_18 s39_15 v4102 false))] g6 (ob (o_b h4101) (ob (o_ia (e := zh) 5 h4103 rfl) (ob (zVe (x := v3402.2.2.2.2.2.2.2.1) h4104) (ob (zVe (x := s34_10) h4104) (ob (o_b h4105) (ob (zbj k p0 v2 s4_18 s24_12 v3402 s34_10 s34_18 s39_15 v4102 _ h4107) ob0)))))) (by kernel_rfl)
 ·exact zqo [(97, 4, 0, .q (xb false))] [] g1 (ob (o_b h4101) ob0) (by kernel_rfl)
noncomputable def z2D (p0 : zd) (v2 : zt7) (s24_12 : Int) (v3402 : zt5) (s34_10 : Int) (v3908 : (SL zF)) (s42_27 : Int) : TM := zTl p0 v2 s24_12 v3402 ++ [(67, (xi s34_10)), (9, (xi s34_10)), (10, (.ptr 2 10 0)), (11, (.d (dl zR v3908.1 v3908.2))), (83, (xi (v3908.1.length : Int))), (84, (xi s42_27))]
noncomputable def zrp (p0 : zd) (v2 : zt7) (s4_18 s24_12 : Int) (v3402 : zt5) (s34_10 : Int) (s34_18 : zt2) (v3908 : (SL zF)) (s42_27 : Int) (s42_28 : zt0) : St := ⟨(z2D p0 v2 s24_12 v3402 s34_10 v3908 s42_27), ⟨[(zc 10 (aB 61 s42_28))], [[(zc 1 (zr p0)), (14, (.map (em (fun k => D.agg (zD k)) (fun v => D.agg ((aB 61) v)) s34_18))), (3, (.cells [(.map 0 14)])), (7, (.cells [(xi s4_18)])), (8, (.cells [(xi s24_12)]))], []]⟩, [⟨(zTl p0 v2 s24_12 v3402), 0, rfP (blk TE 82 8), rfA (blk TE 82 8), rfB (blk TE 82 8), 82, .busy⟩]⟩
noncomputable def zmD (p0 : zd) (v2 : zt7) (s24_12 : Int) (v3402 : zt5) (s34_10 : Int) (v3908 : (SL zF)) (r : zt11) : TM := zTl p0 v2 s24_12 v3402 ++ [(67, (xi s34_10)), (9, (xi s34_10)), (10, (.ptr 2 10 0)), (11, (.d (dl zR v3908.1 v3908.2))), (83, (xi (v3908.1.length : Int))), (84, (xi r.1)), (85, (xb false))]
noncomputable def zDg (p0 : zd) (v2 : zt7) (s4_18 s24_12 : Int) (v3402 : zt5) (s34_10 : Int) (s34_18 : zt2) (v3908 : (SL zF)) (r : zt11) : St := ⟨(zmD p0 v2 s24_12 v3402 s34_10 v3908 r), ⟨[(zc 10 (aB 61 r.2))], [[(zc 1 (zr p0)), (14, (.map (em (fun k => D.agg (zD k)) (fun v => D.agg ((aB 61) v)) s34_18))), (3, (.cells [(.map 0 14)])), (7, (.cells [(xi s4_18)])), (8, (.cells [(xi s24_12)]))], []]⟩, [⟨(zTl p0 v2 s24_12 v3402), 0, rfP (blk TE 82 8), rfA (blk TE 82 8), rfB (blk TE 82 8), 82, .busy⟩]⟩
noncomputable def zap (p0 : zd) (v2 : zt7) (s4_18 s24_12 : Int) (v3402 : zt5) (s34_10 : Int) (s34_18 : zt2) (v3908 : (SL zF)) : (Int × (Nat → Bool)) → Ex × St := fun r => ((.exit 10), zDg p0 v2 s4_18 s24_12 v3402 s34_10 s34_18 v3908 r)
theorem zMo (k : Nat) (p0 : zd) (v2 : zt7) (s4_18 s24_12 : Int) (v3402 : zt5) (s34_10 : Int) (s34_18 : zt2) (v3908 : (SL zF)) (s42_27 : Int) (s42_28 : zt0) (x : (Int × (Nat → Bool)) ⊕ (Int × (Nat → Bool))) (h : z7c k p0 v2 s4_18 s24_12 v3402 s34_10 s34_18 v3908 s42_27 s42_28 = some x) : zQ TE 82 (blk TE 82 10) (fun s : (Int × (Nat → Bool)) => zrp p0 v2 s4_18 s24_12 v3402 s34_10 s34_18 v3908 s.1 s.2) (zap p0 v2 s4_18 s24_12 v3402 s34_10 s34_18 v3908) (s42_27, s42_28) x := by
 unfold z7c at h
 refine zn h (fun h4301 g1 => ?_) (fun h4301 g1 => ?_)
 ·refine zk g1 (fun v4302 h4303 g2 => ?_)
  refine zk g2 (fun v4304 h4305 g3 => ?_)
  exact zqn ((w64 (s42_27 + 1)), v4304) [] [(82, 24, 0, .q (xb true)), (82, 26, 2, .q (xi (v3908.1.length : Int))), (82, 26, 6, .q (.d (.pin (zR v4302)))), (82, 27, 7, .c (.agg (aB 61 v4304)))] [] g3 (ob (o_b h4301) (ob (zy zR v3908.1) (ob (o_ia (e := zR) 3 h4303 rfl) (ob (zmk k p0 s42_28 (w64 (1 - v4302.way)) v4302.by_ _ h4305) ob0)))) (by kernel_rfl)
 ·exact zqo [(82, 24, 0, .q (xb false))] [] g1 (ob (o_b h4301) ob0) (by kernel_rfl)
noncomputable def zRD (v3402 : zt5) (s34_10 : Int) : TM := [(0, (.yld 0)), (1, (.d (.pin [(di v3402.1), (dl zo v3402.2.1.1 v3402.2.1.2), (dl zp v3402.2.2.1.1 v3402.2.2.1.2), (dl zh v3402.2.2.2.1.1 v3402.2.2.2.1.2), (dl zj v3402.2.2.2.2.1.1 v3402.2.2.2.2.1.2), (di v3402.2.2.2.2.2.1), (di v3402.2.2.2.2.2.2.1)]))), (2, (.d (.pin [(di v3402.2.2.2.2.2.2.2.1)]))), (3, (.d (.pin [(di v3402.2.2.2.2.2.2.2.2)]))), (14, (xi (zO 1 (v3402.2.2.2.1.1.length : Int)))), (15, (xi s34_10))]
noncomputable def zfp (p0 : zd) (v2 : zt7) (s4_18 s24_12 : Int) (v3402 : zt5) (s34_10 : Int) (s34_18 : zt2) : St := ⟨(zRD v3402 s34_10), ⟨[], [[(zc 1 (zr p0)), (14, (.map (em (fun k => D.agg (zD k)) (fun v => D.agg ((aB 61) v)) s34_18))), (3, (.cells [(.map 0 14)])), (7, (.cells [(xi s4_18)])), (8, (.cells [(xi s24_12)]))]]⟩, [⟨(zTl p0 v2 s24_12 v3402), 0, rfP (blk TE 82 8), rfA (blk TE 82 8), rfB (blk TE 82 8), 82, .rdy⟩]⟩
noncomputable def z1D (v3402 : zt5) (r : zt7) : TM := [(0, (.yld 0)), (1, (.d (.pin [(di v3402.1), (dl zo v3402.2.1.1 v3402.2.1.2), (dl zp v3402.2.2.1.1 v3402.2.2.1.2), (dl zh v3402.2.2.2.1.1 v3402.2.2.2.1.2), (dl zj v3402.2.2.2.2.1.1 v3402.2.2.2.2.1.2), (di v3402.2.2.2.2.2.1), (di v3402.2.2.2.2.2.2.1)]))), (2, (.d (.pin [(di v3402.2.2.2.2.2.2.2.1)]))), (3, (.d (.pin [(di v3402.2.2.2.2.2.2.2.2)]))), (14, (xi (zO 1 (v3402.2.2.2.1.1.length : Int)))), (15, (xi r.1)), (16, (xb false))]
noncomputable def zKg (p0 : zd) (v2 : zt7) (s4_18 s24_12 : Int) (v3402 : zt5) (r : zt7) : St := ⟨(z1D v3402 r), ⟨[], [[(zc 1 (zr p0)), (14, (.map (em (fun k => D.agg (zD k)) (fun v => D.agg ((aB 61) v)) r.2))), (3, (.cells [(.map 0 14)])), (7, (.cells [(xi s4_18)])), (8, (.cells [(xi s24_12)]))]]⟩, [⟨(zTl p0 v2 s24_12 v3402), 0, rfP (blk TE 82 8), rfA (blk TE 82 8), rfB (blk TE 82 8), 82, .rdy⟩]⟩
noncomputable def zqp (p0 : zd) (v2 : zt7) (s4_18 s24_12 : Int) (v3402 : zt5) : (Int × (List (zw × (Nat → Bool)))) → Ex × St := fun r => ((.exit 0), zKg p0 v2 s4_18 s24_12 v3402 r)
theorem zOo (k : Nat) (p0 : zd) (v2 : zt7) (s4_18 s24_12 : Int) (v3402 : zt5) (s34_10 : Int) (s34_18 : zt2) (x : (Int × (List (zw × (Nat → Bool)))) ⊕ (Int × (List (zw × (Nat → Bool))))) (h : zbd k p0 v2 s4_18 s24_12 v3402 s34_10 s34_18 = some x) : zQ TE 97 (blk TE 97 0) (fun s : (Int × (List (zw × (Nat → Bool)))) => zfp p0 v2 s4_18 s24_12 v3402 s.1 s.2) (zqp p0 v2 s4_18 s24_12 v3402) (s34_10, s34_18) x := by
 unfold zbd at h
 refine zn h (fun h3901 g1 => ?_) (fun h3901 g1 => ?_)
 ·refine zk g1 (fun v3902 h3903 g2 => ?_)
  refine zwd g2 (fun v3905 hh g3_0 => ?_) (fun w2_0 hh g3_0 => ?_)
  ·subst hh
   exact zqn ((w64 (s34_10 + 1)), s34_18) [] [(97, 1, 0, .q (xb true)), (97, 3, 3, .q (xi (v3402.2.2.2.1.1.length : Int)))] [(97, 2, ((.exit 1), zFg p0 v2 s4_18 s24_12 v3402 s34_10 s34_18 v3905))] g3_0 (ob (o_b h3901) (ob (zy zh v3402.2.2.2.1.1) (ob (zG (id := 2) (r' := ((.exit 1), zFg p0 v2 s4_18 s24_12 v3402 s34_10 s34_18 v3905)) (ztc (zPg k p0 v2 s4_18 s24_12 v3402 s34_10 s34_18) k _ _ h3903) rfl) ob0))) (by kernel_rfl)
  ·subst hh
   refine zwd g3_0 (fun v3905 hh g3_1 => ?_) (fun v3905 hh g3_1 => ?_)
   ·subst hh
    exact zqn ((w64 (s34_10 + 1)), s34_18) [] [(97, 1, 0, .q (xb true)), (97, 3, 3, .q (xi (v3402.2.2.2.1.1.length : Int)))] [(97, 2, ((.exit 1), zCg p0 v2 s4_18 s24_12 v3402 s34_10 s34_18 v3905))] g3_1 (ob (o_b h3901) (ob (zy zh v3402.2.2.2.1.1) (ob (zG (id := 2) (r' := ((.exit 1), zCg p0 v2 s4_18 s24_12 v3402 s34_10 s34_18 v3905)) (ztc (zPg k p0 v2 s4_18 s24_12 v3402 s34_10 s34_18) k _ _ h3903) rfl) ob0))) (by kernel_rfl)
   ·subst hh
    refine zk g3_1 (fun v3906 h3907 g4 => ?_)
    refine zk g4 (fun v3908 h3909 g5 => ?_)
    refine zk g5 (fun v3910 h3911 g6 => ?_)
    refine zk g6 (fun v3912 h3913 g7 => ?_)
    exact zqn ((w64 (s34_10 + 1)), (mset zC (⟨(w64 (s4_18 - 1)), s24_12⟩ : zw) v3912 s34_18)) [] [(97, 1, 0, .q (xb true)), (97, 3, 3, .q (xi (v3402.2.2.2.1.1.length : Int))), (82, 21, 5, .q (.d (.agg (aB 61 ((zab zC (⟨s4_18, s34_10⟩ : zw) s34_18).getD (fun _ => false)))))), (82, 21, 7, .c (.agg (aB 61 v3906))), (82, 22, 5, .c (dl zR v3908.1 v3908.2)), (82, 23, 1, .q (xi (v3908.1.length : Int))), (82, 29, 10, .q (.d (.agg (aB 61 ((zab zC (⟨(w64 (s4_18 - 1)), s24_12⟩ : zw) s34_18).getD (fun _ => false)))))), (82, 29, 12, .c (.agg (aB 61 v3912))), (82, 29, 13, .mp (em (fun k => D.agg (zD k)) (fun v => D.agg ((aB 61) v)) (mset zC (⟨(w64 (s4_18 - 1)), s24_12⟩ : zw) v3912 s34_18)))] [(97, 2, (.nor, zxg p0 v2 s4_18 s24_12 v3402 s34_10 s34_18 v3905)), (82, 10, (.nor, zDg p0 v2 s4_18 s24_12 v3402 s34_10 s34_18 v3908 v3910))] g7 (ob (o_b h3901) (ob (zy zh v3402.2.2.2.1.1) (ob (zG (id := 2) (r' := (.nor, zxg p0 v2 s4_18 s24_12 v3402 s34_10 s34_18 v3905)) (ztc (zPg k p0 v2 s4_18 s24_12 v3402 s34_10 s34_18) k _ _ h3903) rfl) (ob (zWj (ek := (fun k => D.agg (zD k))) (evl := (fun v => D.agg ((aB 61) v))) (q := zC) (fun _ _ => rfl) (⟨s4_18, s34_10⟩ : zw) s34_18 (fun _ => false)) (ob (zFj k p0 ((zab zC (⟨s4_18, s34_10⟩ : zw) s34_18).getD (fun _ => false)) s4_18 _ h3907) (ob (znk k p0 s4_18 (zHk s34_10 s24_12) _ h3909) (ob (zy zR v3908.1) (ob (zG (id := 10) (r' := (.nor, zDg p0 v2 s4_18 s24_12 v3402 s34_10 s34_18 v3908 v3910)) (zib (zMo k p0 v2 s4_18 s24_12 v3402 s34_10 s34_18 v3908) k _ _ h3911) rfl) (ob (zWj (ek := (fun k => D.agg (zD k))) (evl := (fun v => D.agg ((aB 61) v))) (q := zC) (fun _ _ => rfl) (⟨(w64 (s4_18 - 1)), s24_12⟩ : zw) s34_18 (fun _ => false)) (ob (zbq k ((zab zC (⟨(w64 (s4_18 - 1)), s24_12⟩ : zw) s34_18).getD (fun _ => false)) v3910.2 _ h3913) (ob (zzs (ek := (fun k => D.agg (zD k))) (evl := (fun v => D.agg ((aB 61) v))) (q := zC) (fun _ _ => rfl) (⟨(w64 (s4_18 - 1)), s24_12⟩ : zw) v3912 s34_18) ob0))))))))))) (by kernel_rfl)
 ·exact zqo [(97, 1, 0, .q (xb false))] [] g1 (ob (o_b h3901) ob0) (by kernel_rfl)
noncomputable def zFD (p0 : zd) (v2 : zt7) (s24_12 : Int) : TM := [(0, (.d (.agg (zr p0)))), (zsp 1), (2, (.d .nilm)), (zsp 3), (19, (xi (zO 1 (p0.ShelfBook.Deliveries.1.length : Int)))), (20, (xi v2.1)), (21, (xb false)), (zsp 7), (52, (xb true)), (59, (xi (zO 1 (p0.ShelfBook.Deliveries.1.length : Int)))), (60, (xi s24_12))]
noncomputable def zZo (p0 : zd) (v2 : zt7) (s4_18 s24_12 : Int) (s24_20 : zt2) : St := ⟨(zFD p0 v2 s24_12), ⟨[(zc 1 (zr p0)), (14, (.map (em (fun k => D.agg (zD k)) (fun v => D.agg ((aB 61) v)) s24_20))), (3, (.cells [(.map 0 14)])), (7, (.cells [(xi s4_18)]))], []⟩, []⟩
noncomputable def zpD (p0 : zd) (v2 r : zt7) : TM := [(0, (.d (.agg (zr p0)))), (zsp 1), (2, (.d .nilm)), (zsp 3), (19, (xi (zO 1 (p0.ShelfBook.Deliveries.1.length : Int)))), (20, (xi v2.1)), (21, (xb false)), (zsp 7), (52, (xb true)), (59, (xi (zO 1 (p0.ShelfBook.Deliveries.1.length : Int)))), (60, (xi r.1)), (61, (xb false))]
noncomputable def zQg (p0 : zd) (v2 : zt7) (s4_18 : Int) (r : zt7) : St := ⟨(zpD p0 v2 r), ⟨[(zc 1 (zr p0)), (14, (.map (em (fun k => D.agg (zD k)) (fun v => D.agg ((aB 61) v)) r.2))), (3, (.cells [(.map 0 14)])), (7, (.cells [(xi s4_18)]))], []⟩, []⟩
noncomputable def zbp (p0 : zd) (v2 : zt7) (s4_18 : Int) : (Int × (List (zw × (Nat → Bool)))) → Ex × St := fun r => ((.exit 6), zQg p0 v2 s4_18 r)
theorem zto (k : Nat) (p0 : zd) (v2 : zt7) (s4_18 s24_12 : Int) (s24_20 : zt2) (x : (Int × (List (zw × (Nat → Bool)))) ⊕ (Int × (List (zw × (Nat → Bool))))) (h : zad k p0 v2 s4_18 s24_12 s24_20 = some x) : zQ TE 82 (blk TE 82 6) (fun s : (Int × (List (zw × (Nat → Bool)))) => zZo p0 v2 s4_18 s.1 s.2) (zbp p0 v2 s4_18) (s24_12, s24_20) x := by
 unfold zad at h
 refine zn h (fun h3401 g1 => ?_) (fun h3401 g1 => ?_)
 ·refine zk g1 (fun v3402 h3403 g2 => ?_)
  refine zn g2 (fun h3404 g3 => ?_) (fun h3404 g3 => ?_)
  ·cases g3
  ·refine zk g3 (fun v3405 h3406 g4 => ?_)
   exact zqn ((w64 (s24_12 + 1)), v3405.2) [] [(82, 17, 0, .q (xb true)), (82, 19, 3, .c (.fn 97 [] [(.pin [(di v3402.1), (dl zo v3402.2.1.1 v3402.2.1.2), (dl zp v3402.2.2.1.1 v3402.2.2.1.2), (dl zh v3402.2.2.2.1.1 v3402.2.2.2.1.2), (dl zj v3402.2.2.2.2.1.1 v3402.2.2.2.2.1.2), (di v3402.2.2.2.2.2.1), (di v3402.2.2.2.2.2.2.1)]), (.pin [(di v3402.2.2.2.2.2.2.2.1)]), (.pin [(di v3402.2.2.2.2.2.2.2.2)])])), (97, 0, 3, .q (xi (v3402.2.2.2.1.1.length : Int))), (97, 0, 4, .q (xi (zO 1 (v3402.2.2.2.1.1.length : Int))))] [(97, 0, (.nor, zKg p0 v2 s4_18 s24_12 v3402 v3405))] g4 (ob (o_b h3401) (ob (zkl k p0 s4_18 s24_12 _ h3403) (ob (zy zh v3402.2.2.2.1.1) (ob (zBc (x := 1) h3404) (ob (zG (id := 0) (r' := (.nor, zKg p0 v2 s4_18 s24_12 v3402 v3405)) (zib (zOo k p0 v2 s4_18 s24_12 v3402) k _ _ h3406) rfl) ob0))))) (by kernel_rfl)
 ·exact zqo [(82, 17, 0, .q (xb false))] [] g1 (ob (o_b h3401) ob0) (by kernel_rfl)
noncomputable def zSA (p0 : zd) (v2 : zt7) : TM := [(0, (.d (.agg (zr p0)))), (zsp 1), (2, (.d .nilm)), (zsp 3), (19, (xi (zO 1 (p0.ShelfBook.Deliveries.1.length : Int)))), (20, (xi v2.1)), (21, (xb false)), (zsp 7)]
noncomputable def zYp (p0 : zd) (v2 : zt7) (s4_17 : zt2) (s4_18 : Int) : St := ⟨(zSA p0 v2), ⟨[(zc 1 (zr p0)), (14, (.map (em (fun k => D.agg (zD k)) (fun v => D.agg ((aB 61) v)) s4_17))), (3, (.cells [(.map 0 14)])), (7, (.cells [(xi s4_18)]))], []⟩, []⟩
noncomputable def zXg (p0 : zd) (v2 : zt7) (r : ((List (zw × (Nat → Bool))) × Int)) : St := ⟨(zSA p0 v2 ++ [(52, (xb false))]), ⟨[(zc 1 (zr p0)), (14, (.map (em (fun k => D.agg (zD k)) (fun v => D.agg ((aB 61) v)) r.1))), (3, (.cells [(.map 0 14)])), (7, (.cells [(xi r.2)]))], []⟩, []⟩
noncomputable def zFp (p0 : zd) (v2 : zt7) : ((List (zw × (Nat → Bool))) × Int) → Ex × St := fun r => ((.exit 4), zXg p0 v2 r)
theorem z8o (k : Nat) (p0 : zd) (v2 : zt7) (s4_17 : zt2) (s4_18 : Int) (x : ((List (zw × (Nat → Bool))) × Int) ⊕ ((List (zw × (Nat → Bool))) × Int)) (h : zPe k p0 v2 s4_17 s4_18 = some x) : zQ TE 82 (blk TE 82 4) (fun s : ((List (zw × (Nat → Bool))) × Int) => zYp p0 v2 s.1 s.2) (zFp p0 v2) (s4_17, s4_18) x := by
 unfold zPe at h
 refine zn h (fun h2401 g1 => ?_) (fun h2401 g1 => ?_)
 ·refine zn g1 (fun h2402 g2 => ?_) (fun h2402 g2 => ?_)
  ·cases g2
  ·refine zk g2 (fun v2403 h2404 g3 => ?_)
   exact zqn (v2403.2, (w64 (s4_18 - 1))) [] [(82, 14, 1, .q (xb true)), (82, 16, 3, .q (xi (p0.ShelfBook.Deliveries.1.length : Int))), (82, 16, 4, .q (xi (zO 1 (p0.ShelfBook.Deliveries.1.length : Int))))] [(82, 6, (.nor, zQg p0 v2 s4_18 v2403))] g3 (ob (o_b h2401) (ob (zy zh p0.ShelfBook.Deliveries.1) (ob (zBc (x := 1) h2402) (ob (zG (id := 6) (r' := (.nor, zQg p0 v2 s4_18 v2403)) (zib (zto k p0 v2 s4_18) k _ _ h2404) rfl) ob0)))) (by kernel_rfl)
 ·exact zqo [(82, 14, 1, .q (xb false))] [] g1 (ob (o_b h2401) ob0) (by kernel_rfl)
theorem zQq (k : Nat) (p0 : zd) (r : zt2) (h : zsg k p0 = some r) : zM TE (ev TE) 82 [(.agg (zr p0))] = some (zfm r) := by
 unfold zsg at h
 refine zn h (fun h1 g1 => ?_) (fun h1 g1 => ?_)
 ·cases g1
 ·refine zk g1 (fun v2 h3 g2 => ?_)
  refine zk g2 (fun v4 h5 g3 => ?_)
  exact zJ (g := zfm) g3 (zqc [(82, 2, 3, .q (xi (p0.ShelfBook.Deliveries.1.length : Int))), (82, 2, 4, .q (xi (zO 1 (p0.ShelfBook.Deliveries.1.length : Int))))] [(82, 0, (.nor, z1g p0 v2)), (82, 4, (.nor, zXg p0 v2 v4))] (ob (zy zh p0.ShelfBook.Deliveries.1) (ob (zBc (x := 1) h1) (ob (zG (id := 0) (r' := (.nor, z1g p0 v2)) (zib (zYo k p0) k _ _ h3) rfl) (ob (zG (id := 4) (r' := (.nor, zXg p0 v2 v4)) (zib (z8o k p0 v2) k _ _ h5) rfl) ob0)))) (by kernel_rfl))
noncomputable def zcD (p0 : zd) (v1 v3 : zt2) (s1_10 s13_13 : Int) (v1902 : zt0) (s19_2 : Int) : TM := [(0, (.d (.agg (zr p0)))), (zsp 1), (zsp 2), (zsp 3), (4, (.d (.mp (em (fun k => D.agg (zD k)) (fun v => D.agg ((aB 61) v)) v1)))), (5, (.d (.mp (em (fun k => D.agg (zD k)) (fun v => D.agg ((aB 61) v)) v3)))), (17, (xi p0.ShelfBook.Days)), (18, (xi s1_10)), (19, (xb true)), (zsp 6), (25, (xi (zO 1 (p0.ShelfBook.Deliveries.1.length : Int)))), (26, (xi s13_13)), (27, (xb true)), (7, (xi s13_13)), (zsp 8), (zsp 9), (38, (.d (.fn 96 [] [(.pin (aB 61 v1902))]))), (39, (xi s19_2)), (10, (xi s19_2))]
noncomputable def zax (p0 : zd) (v1 v3 : zt2) (s1_10 s13_13 : Int) (v1902 : zt0) : TM := [(0, (.d (.agg (zr p0)))), (zsp 1), (zsp 2), (zsp 3), (4, (.d (.mp (em (fun k => D.agg (zD k)) (fun v => D.agg ((aB 61) v)) v1)))), (5, (.d (.mp (em (fun k => D.agg (zD k)) (fun v => D.agg ((aB 61) v)) v3)))), (17, (xi p0.ShelfBook.Days)), (18, (xi s1_10)), (19, (xb true)), (zsp 6), (25, (xi (zO 1 (p0.ShelfBook.Deliveries.1.length : Int)))), (26, (xi s13_13)), (27, (xb true)), (7, (xi s13_13)), (zsp 8), (zsp 9), (38, (.d (.fn 96 [] [(.pin (aB 61 v1902))])))]
noncomputable def z6d (p0 : zd) (v1 v3 : zt2) (s1_10 s13_13 : Int) (v1902 : zt0) (s19_2 : Int) (s19_11 r : zt0) : St := ⟨(zcD p0 v1 v3 s1_10 s13_13 v1902 s19_2), ⟨[], [[(zc 1 (zr p0)), (zc 2 (aB 732 (fun _ => false))), (zc 3 (aB 732 r)), (6, (.cells [(xi s1_10)])), (8, (.cells [(xi s1_10), (xi s13_13)])), (zc 9 (aB 61 ((zab zC (⟨s1_10, s13_13⟩ : zw) v3).getD (fun _ => false))))], []]⟩, [⟨(zax p0 v1 v3 s1_10 s13_13 v1902), 0, rfP (blk TE 53 4), rfA (blk TE 53 4), rfB (blk TE 53 4), 53, .busy⟩]⟩
noncomputable def z4D (p0 : zd) (k : Nat) (v1 v3 : zt2) (s1_10 s13_13 : Int) (v1902 : zt0) (s19_2 : Int) : TM := [(0, (.d (.agg (zr p0)))), (zsp 1), (zsp 2), (zsp 3), (4, (.d (.mp (em (fun k => D.agg (zD k)) (fun v => D.agg ((aB 61) v)) v1)))), (5, (.d (.mp (em (fun k => D.agg (zD k)) (fun v => D.agg ((aB 61) v)) v3)))), (17, (xi p0.ShelfBook.Days)), (18, (xi s1_10)), (19, (xb true)), (zsp 6), (25, (xi (zO 1 (p0.ShelfBook.Deliveries.1.length : Int)))), (26, (xi s13_13)), (27, (xb true)), (7, (xi s13_13)), (zsp 8), (zsp 9), (38, (.d (.fn 96 [] [(.pin (aB 61 v1902))]))), (39, (xi s19_2)), (10, (xi s19_2))]
noncomputable def zNA (p0 : zd) (k : Nat) (v1 v3 : zt2) (s1_10 s13_13 : Int) (v1902 : zt0) : TM := [(0, (.d (.agg (zr p0)))), (zsp 1), (zsp 2), (zsp 3), (4, (.d (.mp (em (fun k => D.agg (zD k)) (fun v => D.agg ((aB 61) v)) v1)))), (5, (.d (.mp (em (fun k => D.agg (zD k)) (fun v => D.agg ((aB 61) v)) v3)))), (17, (xi p0.ShelfBook.Days)), (18, (xi s1_10)), (19, (xb true)), (zsp 6), (25, (xi (zO 1 (p0.ShelfBook.Deliveries.1.length : Int)))), (26, (xi s13_13)), (27, (xb true)), (7, (xi s13_13)), (zsp 8), (zsp 9), (38, (.d (.fn 96 [] [(.pin (aB 61 v1902))])))]
theorem zvn (k : Nat) (p0 : zd) (v1 v3 : zt2) (s1_10 s13_13 : Int) (v1902 : zt0) (s19_2 : Int) (s19_11 r : zt0) (h : zWe k p0 v1 v3 s1_10 s13_13 v1902 s19_2 s19_11 = some r) : ev TE 53 (rgn TE 53 13) ⟨(z4D p0 k v1 v3 s1_10 s13_13 v1902 s19_2), ⟨[], [[(zc 1 (zr p0)), (zc 2 (aB 732 (fun _ => false))), (zc 3 (aB 732 s19_11)), (6, (.cells [(xi s1_10)])), (8, (.cells [(xi s1_10), (xi s13_13)])), (zc 9 (aB 61 ((zab zC (⟨s1_10, s13_13⟩ : zw) v3).getD (fun _ => false))))], []]⟩, [⟨(zNA p0 k v1 v3 s1_10 s13_13 v1902), 0, rfP (blk TE 53 4), rfA (blk TE 53 4), rfB (blk TE 53 4), 53, .busy⟩]⟩ = some (.nor, z6d p0 v1 v3 s1_10 s13_13 v1902 s19_2 s19_11 r) := by
 unfold zWe at h
 refine zT h (fun h2401 g1 => ?_)
 refine zT g1 (fun h2402 g2 => ?_)
 refine zn g2 (fun h2403 g3 => ?_) (fun h2403 g3 => ?_)
 ·exact zA (g := fun r => (Ex.nor, z6d p0 v1 v3 s1_10 s13_13 v1902 s19_2 s19_11 r)) g3 (zqe [(53, 13, 4, .q (.ptr 0 3 ((s1_10.toNat * 61)))), (53, 13, 5, .q (.ptr 0 3 (((s1_10.toNat * 61) + s19_2.toNat)))), (53, 13, 6, .q (xb (s19_11 ((s1_10.toNat * 61) + s19_2.toNat)))), (53, 13, 7, .q (xb true)), (53, 13, 12, .q (.ptr 0 3 ((s1_10.toNat * 61)))), (53, 13, 13, .q (.ptr 0 3 (((s1_10.toNat * 61) + s19_2.toNat)))), (53, 13, 14, .st ((aB 732 (upd s19_11 ((s1_10.toNat * 61) + s19_2.toNat) true)).map .d))] [] (ob (zId (m := 12) 0 3 0 61 (s1_10.toNat * 61) h2401 (by omega)) (ob (zId (m := 61) 0 3 (s1_10.toNat * 61) 1 ((s1_10.toNat * 61) + s19_2.toNat) h2402 (by omega)) (ob (zws 732 s19_11 ((s1_10.toNat * 61) + s19_2.toNat) (by have h1 := h2402; have h2 := h2401; simp only [Bool.and_eq_true, decide_eq_true_eq] at h1 h2; omega)) (ob (o_b h2403) (ob (zId (m := 12) 0 3 0 61 (s1_10.toNat * 61) h2401 (by omega)) (ob (zId (m := 61) 0 3 (s1_10.toNat * 61) 1 ((s1_10.toNat * 61) + s19_2.toNat) h2402 (by omega)) (ob (zVk 732 s19_11 ((s1_10.toNat * 61) + s19_2.toNat) true (by have h1 := h2402; have h2 := h2401; simp only [Bool.and_eq_true, decide_eq_true_eq] at h1 h2; omega)) ob0))))))) (by kernel_rfl))
 ·exact zA (g := fun r => (Ex.nor, z6d p0 v1 v3 s1_10 s13_13 v1902 s19_2 s19_11 r)) g3 (zqe [(53, 13, 4, .q (.ptr 0 3 ((s1_10.toNat * 61)))), (53, 13, 5, .q (.ptr 0 3 (((s1_10.toNat * 61) + s19_2.toNat)))), (53, 13, 6, .q (xb (s19_11 ((s1_10.toNat * 61) + s19_2.toNat)))), (53, 13, 7, .q (xb false)), (53, 13, 9, .q (.ptr 0 9 (s19_2.toNat))), (53, 13, 10, .q (xb (((zab zC (⟨s1_10, s13_13⟩ : zw) v3).getD (fun _ => false)) s19_2.toNat))), (53, 13, 12, .q (.ptr 0 3 ((s1_10.toNat * 61)))), (53, 13, 13, .q (.ptr 0 3 (((s1_10.toNat * 61) + s19_2.toNat)))), (53, 13, 14, .st ((aB 732 (upd s19_11 ((s1_10.toNat * 61) + s19_2.toNat) (((zab zC (⟨s1_10, s13_13⟩ : zw) v3).getD (fun _ => false)) s19_2.toNat))).map .d))] [] (ob (zId (m := 12) 0 3 0 61 (s1_10.toNat * 61) h2401 (by omega)) (ob (zId (m := 61) 0 3 (s1_10.toNat * 61) 1 ((s1_10.toNat * 61) + s19_2.toNat) h2402 (by omega)) (ob (zws 732 s19_11 ((s1_10.toNat * 61) + s19_2.toNat) (by have h1 := h2402; have h2 := h2401; simp only [Bool.and_eq_true, decide_eq_true_eq] at h1 h2; omega)) (ob (o_b h2403) (ob (zId (m := 61) 0 9 0 1 s19_2.toNat h2402 (by omega)) (ob (zws 61 ((zab zC (⟨s1_10, s13_13⟩ : zw) v3).getD (fun _ => false)) s19_2.toNat (by have := h2402; simp only [Bool.and_eq_true, decide_eq_true_eq] at this; omega)) (ob (zId (m := 12) 0 3 0 61 (s1_10.toNat * 61) h2401 (by omega)) (ob (zId (m := 61) 0 3 (s1_10.toNat * 61) 1 ((s1_10.toNat * 61) + s19_2.toNat) h2402 (by omega)) (ob (zVk 732 s19_11 ((s1_10.toNat * 61) + s19_2.toNat) (((zab zC (⟨s1_10, s13_13⟩ : zw) v3).getD (fun _ => false)) s19_2.toNat) (by have h1 := h2402; have h2 := h2401; simp only [Bool.and_eq_true, decide_eq_true_eq] at h1 h2; omega)) ob0))))))))) (by kernel_rfl))
noncomputable def zID (v1902 : zt0) (s19_2 : Int) : TM := [(0, (.yld 0)), (1, (.d (.pin (aB 61 v1902)))), (5, (.d (.agg (aB 61 v1902)))), (6, (xi s19_2)), (7, (xb true)), (3, (xi s19_2)), (4, (xb (v1902 s19_2.toNat))), (16, (xb false))]
noncomputable def z8d (p0 : zd) (v1 v3 : zt2) (s1_10 s13_13 : Int) (v1902 : zt0) (s19_2 : Int) (s19_11 r : zt0) : St := ⟨(zID v1902 s19_2), ⟨[], [[(zc 1 (zr p0)), (zc 2 (aB 732 (fun _ => false))), (zc 3 (aB 732 r)), (6, (.cells [(xi s1_10)])), (8, (.cells [(xi s1_10), (xi s13_13)])), (zc 9 (aB 61 ((zab zC (⟨s1_10, s13_13⟩ : zw) v3).getD (fun _ => false))))]]⟩, [⟨(zax p0 v1 v3 s1_10 s13_13 v1902), 0, rfP (blk TE 53 4), rfA (blk TE 53 4), rfB (blk TE 53 4), 53, .rdy⟩]⟩
noncomputable def zwD (v1902 : zt0) (s19_2 : Int) : TM := [(0, (.yld 0)), (1, (.d (.pin (aB 61 v1902)))), (5, (.d (.agg (aB 61 v1902)))), (6, (xi s19_2)), (7, (xb true)), (3, (xi s19_2)), (4, (xb (v1902 s19_2.toNat)))]
theorem zbn (k : Nat) (p0 : zd) (v1 v3 : zt2) (s1_10 s13_13 : Int) (v1902 : zt0) (s19_2 : Int) (s19_11 r : zt0) (h : z1e k p0 v1 v3 s1_10 s13_13 v1902 s19_2 s19_11 = some r) : ev TE 96 (rgn TE 96 3) ⟨(zwD v1902 s19_2), ⟨[], [[(zc 1 (zr p0)), (zc 2 (aB 732 (fun _ => false))), (zc 3 (aB 732 s19_11)), (6, (.cells [(xi s1_10)])), (8, (.cells [(xi s1_10), (xi s13_13)])), (zc 9 (aB 61 ((zab zC (⟨s1_10, s13_13⟩ : zw) v3).getD (fun _ => false))))]]⟩, [⟨(zNA p0 k v1 v3 s1_10 s13_13 v1902), 0, rfP (blk TE 53 4), rfA (blk TE 53 4), rfB (blk TE 53 4), 53, .rdy⟩]⟩ = some (.nor, z8d p0 v1 v3 s1_10 s13_13 v1902 s19_2 s19_11 r) := by
 unfold z1e at h
 refine zn h (fun h2301 g1 => ?_) (fun h2301 g1 => ?_)
 ·refine zk g1 (fun v2302 h2303 g2 => ?_)
  exact zA (g := fun r => (Ex.nor, z8d p0 v1 v3 s1_10 s13_13 v1902 s19_2 s19_11 r)) g2 (zqe [(96, 3, 1, .q (xb true))] [(53, 1000013, (.nor, z6d p0 v1 v3 s1_10 s13_13 v1902 s19_2 s19_11 v2302))] (ob (o_b h2301) (ob (zvn k p0 v1 v3 s1_10 s13_13 v1902 s19_2 s19_11 _ h2303) ob0)) (by kernel_rfl))
 ·exact zA (g := fun r => (Ex.nor, z8d p0 v1 v3 s1_10 s13_13 v1902 s19_2 s19_11 r)) g1 (zqe [(96, 3, 1, .q (xb false))] [] (ob (o_b h2301) ob0) (by kernel_rfl))
noncomputable def zJD (v1902 : zt0) (s19_2 : Int) : TM := [(0, (.yld 0)), (1, (.d (.pin (aB 61 v1902)))), (5, (.d (.agg (aB 61 v1902)))), (6, (xi s19_2))]
noncomputable def z1n (p0 : zd) (v1 v3 : zt2) (s1_10 s13_13 : Int) (v1902 : zt0) (s19_2 : Int) (s19_11 : zt0) : St := ⟨(zJD v1902 s19_2), ⟨[], [[(zc 1 (zr p0)), (zc 2 (aB 732 (fun _ => false))), (zc 3 (aB 732 s19_11)), (6, (.cells [(xi s1_10)])), (8, (.cells [(xi s1_10), (xi s13_13)])), (zc 9 (aB 61 ((zab zC (⟨s1_10, s13_13⟩ : zw) v3).getD (fun _ => false))))]]⟩, [⟨(zax p0 v1 v3 s1_10 s13_13 v1902), 0, rfP (blk TE 53 4), rfA (blk TE 53 4), rfB (blk TE 53 4), 53, .rdy⟩]⟩
noncomputable def z7C (v1902 : zt0) (r : zt11) : TM := [(0, (.yld 0)), (1, (.d (.pin (aB 61 v1902)))), (5, (.d (.agg (aB 61 v1902)))), (6, (xi r.1)), (7, (xb false))]
noncomputable def zFf (p0 : zd) (v1 v3 : zt2) (s1_10 s13_13 : Int) (v1902 : zt0) (r : zt11) : St := ⟨(z7C v1902 r), ⟨[], [[(zc 1 (zr p0)), (zc 2 (aB 732 (fun _ => false))), (zc 3 (aB 732 r.2)), (6, (.cells [(xi s1_10)])), (8, (.cells [(xi s1_10), (xi s13_13)])), (zc 9 (aB 61 ((zab zC (⟨s1_10, s13_13⟩ : zw) v3).getD (fun _ => false))))]]⟩, [⟨(zax p0 v1 v3 s1_10 s13_13 v1902), 0, rfP (blk TE 53 4), rfA (blk TE 53 4), rfB (blk TE 53 4), 53, .rdy⟩]⟩
noncomputable def zYn (p0 : zd) (v1 v3 : zt2) (s1_10 s13_13 : Int) (v1902 : zt0) : (Int × (Nat → Bool)) → Ex × St := fun r => ((.exit 0), zFf p0 v1 v3 s1_10 s13_13 v1902 r)
theorem zyn (k : Nat) (p0 : zd) (v1 v3 : zt2) (s1_10 s13_13 : Int) (v1902 : zt0) (s19_2 : Int) (s19_11 : zt0) (x : (Int × (Nat → Bool)) ⊕ (Int × (Nat → Bool))) (h : zyc k p0 v1 v3 s1_10 s13_13 v1902 s19_2 s19_11 = some x) : zQ TE 96 (blk TE 96 0) (fun s : (Int × (Nat → Bool)) => z1n p0 v1 v3 s1_10 s13_13 v1902 s.1 s.2) (zYn p0 v1 v3 s1_10 s13_13 v1902) (s19_2, s19_11) x := by
 unfold zyc at h
 refine zn h (fun h2201 g1 => ?_) (fun h2201 g1 => ?_)
 ·refine zT g1 (fun h2202 g2 => ?_)
  refine zk g2 (fun v2203 h2204 g3 => ?_)
  exact zqn ((w64 (s19_2 + 1)), v2203) [] [(96, 1, 0, .q (xb true)), (96, 2, 1, .q (xb (v1902 s19_2.toNat)))] [(96, 1000003, (.nor, z8d p0 v1 v3 s1_10 s13_13 v1902 s19_2 s19_11 v2203))] g3 (ob (o_b h2201) (ob (z7s 61 v1902 s19_2 h2202) (ob (zbn k p0 v1 v3 s1_10 s13_13 v1902 s19_2 s19_11 _ h2204) ob0))) (by kernel_rfl)
 ·exact zqo [(96, 1, 0, .q (xb false))] [] g1 (ob (o_b h2201) ob0) (by kernel_rfl)
noncomputable def zdE (p0 : zd) (v1 v3 : zt2) (s1_10 s13_13 : Int) : TM := [(0, (.d (.agg (zr p0)))), (zsp 1), (zsp 2), (zsp 3), (4, (.d (.mp (em (fun k => D.agg (zD k)) (fun v => D.agg ((aB 61) v)) v1)))), (5, (.d (.mp (em (fun k => D.agg (zD k)) (fun v => D.agg ((aB 61) v)) v3)))), (17, (xi p0.ShelfBook.Days)), (18, (xi s1_10)), (19, (xb true)), (zsp 6), (25, (xi (zO 1 (p0.ShelfBook.Deliveries.1.length : Int)))), (26, (xi s13_13))]
noncomputable def zHn (p0 : zd) (v1 v3 : zt2) (s1_10 s13_13 : Int) (s13_22 : zt0) : St := ⟨(zdE p0 v1 v3 s1_10 s13_13), ⟨[(zc 1 (zr p0)), (zc 2 (aB 732 (fun _ => false))), (zc 3 (aB 732 s13_22)), (6, (.cells [(xi s1_10)]))], []⟩, []⟩
noncomputable def znD (p0 : zd) (v1 v3 : zt2) (s1_10 : Int) (r : zt11) : TM := [(0, (.d (.agg (zr p0)))), (zsp 1), (zsp 2), (zsp 3), (4, (.d (.mp (em (fun k => D.agg (zD k)) (fun v => D.agg ((aB 61) v)) v1)))), (5, (.d (.mp (em (fun k => D.agg (zD k)) (fun v => D.agg ((aB 61) v)) v3)))), (17, (xi p0.ShelfBook.Days)), (18, (xi s1_10)), (19, (xb true)), (zsp 6), (25, (xi (zO 1 (p0.ShelfBook.Deliveries.1.length : Int)))), (26, (xi r.1)), (27, (xb false))]
noncomputable def zTf (p0 : zd) (v1 v3 : zt2) (s1_10 : Int) (r : zt11) : St := ⟨(znD p0 v1 v3 s1_10 r), ⟨[(zc 1 (zr p0)), (zc 2 (aB 732 (fun _ => false))), (zc 3 (aB 732 r.2)), (6, (.cells [(xi s1_10)]))], []⟩, []⟩
noncomputable def zCn (p0 : zd) (v1 v3 : zt2) (s1_10 : Int) : (Int × (Nat → Bool)) → Ex × St := fun r => ((.exit 2), zTf p0 v1 v3 s1_10 r)
theorem zsn (k : Nat) (p0 : zd) (v1 v3 : zt2) (s1_10 s13_13 : Int) (s13_22 : zt0) (x : (Int × (Nat → Bool)) ⊕ (Int × (Nat → Bool))) (h : zAc k p0 v1 v3 s1_10 s13_13 s13_22 = some x) : zQ TE 53 (blk TE 53 2) (fun s : (Int × (Nat → Bool)) => zHn p0 v1 v3 s1_10 s.1 s.2) (zCn p0 v1 v3 s1_10) (s13_13, s13_22) x := by
 unfold zAc at h
 refine zn h (fun h1901 g1 => ?_) (fun h1901 g1 => ?_)
 ·refine zk g1 (fun v1902 h1903 g2 => ?_)
  refine zk g2 (fun v1904 h1905 g3 => ?_)
  exact zqn ((w64 (s13_13 + 1)), v1904.2) [] [(53, 7, 0, .q (xb true)), (53, 10, 2, .q (.d (.agg (aB 61 ((zab zC (⟨s1_10, s13_13⟩ : zw) v3).getD (fun _ => false)))))), (53, 11, 2, .q (.d (.agg (aB 61 ((zab zC (⟨s1_10, s13_13⟩ : zw) v1).getD (fun _ => false)))))), (53, 11, 3, .c (.fn 96 [] [(.pin (aB 61 v1902))]))] [(96, 0, (.nor, zFf p0 v1 v3 s1_10 s13_13 v1902 v1904))] g3 (ob (o_b h1901) (ob (zWj (ek := (fun k => D.agg (zD k))) (evl := (fun v => D.agg ((aB 61) v))) (q := zC) (fun _ _ => rfl) (⟨s1_10, s13_13⟩ : zw) v3 (fun _ => false)) (ob (zWj (ek := (fun k => D.agg (zD k))) (evl := (fun v => D.agg ((aB 61) v))) (q := zC) (fun _ _ => rfl) (⟨s1_10, s13_13⟩ : zw) v1 (fun _ => false)) (ob (zce k ((zab zC (⟨s1_10, s13_13⟩ : zw) v1).getD (fun _ => false)) _ h1903) (ob (zG (id := 0) (r' := (.nor, zFf p0 v1 v3 s1_10 s13_13 v1902 v1904)) (zib (zyn k p0 v1 v3 s1_10 s13_13 v1902) k _ _ h1905) rfl) ob0))))) (by kernel_rfl)
 ·exact zqo [(53, 7, 0, .q (xb false))] [] g1 (ob (o_b h1901) ob0) (by kernel_rfl)
noncomputable def z0D (p0 : zd) (v1 v3 : zt2) (s1_10 : Int) : TM := [(0, (.d (.agg (zr p0)))), (zsp 1), (zsp 2), (zsp 3), (4, (.d (.mp (em (fun k => D.agg (zD k)) (fun v => D.agg ((aB 61) v)) v1)))), (5, (.d (.mp (em (fun k => D.agg (zD k)) (fun v => D.agg ((aB 61) v)) v3)))), (17, (xi p0.ShelfBook.Days)), (18, (xi s1_10))]
noncomputable def zLo (p0 : zd) (v1 v3 : zt2) (s1_10 : Int) (s1_19 : zt0) : St := ⟨(z0D p0 v1 v3 s1_10), ⟨[(zc 1 (zr p0)), (zc 2 (aB 732 (fun _ => false))), (zc 3 (aB 732 s1_19))], []⟩, []⟩
noncomputable def z3C (p0 : zd) (v1 v3 : zt2) (r : zt11) : TM := [(0, (.d (.agg (zr p0)))), (zsp 1), (zsp 2), (zsp 3), (4, (.d (.mp (em (fun k => D.agg (zD k)) (fun v => D.agg ((aB 61) v)) v1)))), (5, (.d (.mp (em (fun k => D.agg (zD k)) (fun v => D.agg ((aB 61) v)) v3)))), (17, (xi p0.ShelfBook.Days)), (18, (xi r.1)), (19, (xb false))]
noncomputable def z7f (p0 : zd) (v1 v3 : zt2) (r : zt11) : St := ⟨(z3C p0 v1 v3 r), ⟨[(zc 1 (zr p0)), (zc 2 (aB 732 (fun _ => false))), (zc 3 (aB 732 r.2))], []⟩, []⟩
noncomputable def zWo (p0 : zd) (v1 v3 : zt2) : (Int × (Nat → Bool)) → Ex × St := fun r => ((.exit 0), z7f p0 v1 v3 r)
theorem zSn (k : Nat) (p0 : zd) (v1 v3 : zt2) (s1_10 : Int) (s1_19 : zt0) (x : (Int × (Nat → Bool)) ⊕ (Int × (Nat → Bool))) (h : zUd k p0 v1 v3 s1_10 s1_19 = some x) : zQ TE 53 (blk TE 53 0) (fun s : (Int × (Nat → Bool)) => zLo p0 v1 v3 s.1 s.2) (zWo p0 v1 v3) (s1_10, s1_19) x := by
 unfold zUd at h
 refine zn h (fun h1301 g1 => ?_) (fun h1301 g1 => ?_)
 ·refine zn g1 (fun h1302 g2 => ?_) (fun h1302 g2 => ?_)
  ·cases g2
  ·refine zk g2 (fun v1303 h1304 g3 => ?_)
   exact zqn ((w64 (s1_10 + 1)), v1303.2) [] [(53, 4, 0, .q (xb true)), (53, 6, 3, .q (xi (p0.ShelfBook.Deliveries.1.length : Int))), (53, 6, 4, .q (xi (zO 1 (p0.ShelfBook.Deliveries.1.length : Int))))] [(53, 2, (.nor, zTf p0 v1 v3 s1_10 v1303))] g3 (ob (o_b h1301) (ob (zy zh p0.ShelfBook.Deliveries.1) (ob (zBc (x := 1) h1302) (ob (zG (id := 2) (r' := (.nor, zTf p0 v1 v3 s1_10 v1303)) (zib (zsn k p0 v1 v3 s1_10) k _ _ h1304) rfl) ob0)))) (by kernel_rfl)
 ·exact zqo [(53, 4, 0, .q (xb false))] [] g1 (ob (o_b h1301) ob0) (by kernel_rfl)
theorem zxb (k : Nat) (p0 : zd) (r : zt0) (h : zpb k p0 = some r) : zM TE (ev TE) 53 [(.agg (zr p0))] = some (zkk r) := by
 unfold zpb at h
 refine zk h (fun v1 h2 g1 => ?_)
 refine zk g1 (fun v3 h4 g2 => ?_)
 refine zk g2 (fun v5 h6 g3 => ?_)
 exact zJ (g := zkk) g3 (zqc [(53, 2, 1, .c (.mp (em (fun k => D.agg (zD k)) (fun v => D.agg ((aB 61) v)) v1))), (53, 2, 3, .c (.mp (em (fun k => D.agg (zD k)) (fun v => D.agg ((aB 61) v)) v3)))] [(53, 0, (.nor, z7f p0 v1 v3 v5))] (ob (zPh k p0 _ h2) (ob (zQq k p0 _ h4) (ob (zG (id := 0) (r' := (.nor, z7f p0 v1 v3 v5)) (zib (zSn k p0 v1 v3) k _ _ h6) rfl) ob0))) (by kernel_rfl))
theorem zQb (k : Nat) (p0 : za) (p1 p2 p3 : Int) (r : zt1) (h : zBj k p0 p1 p2 p3 = some r) : zM TE (ev TE) 20 [(.agg (zb p0)), (di p1), (di p2), (di p3)] = some (zQk r) := by
 unfold zBj at h
 refine zk h (fun v1 h2 g1 => ?_)
 refine zk g1 (fun v3 h4 g2 => ?_)
 refine zn g2 (fun h5 g3 => ?_) (fun h5 g3 => ?_)
 ·exact zJ (g := zQk) g3 (zqc [(20, 1, 4, .c (db v1)), (20, 1, 5, .c (di v3)), (20, 2, 1, .q (xb true))] [] (ob (zOd k p0 p1 p2 _ h2) (ob (zCb k p0 v1 _ h4) (ob (o_b h5) ob0))) (by kernel_rfl))
 ·refine zk g3 (fun v6 h7 g4 => ?_)
  refine zn g4 (fun h8 g5 => ?_) (fun h8 g5 => ?_)
  ·refine zk g5 (fun v9 h10 g6 => ?_)
   refine zT g6 (fun h11 g7 => ?_)
   refine zT g7 (fun h12 g8 => ?_)
   exact zJ (g := zQk) g8 (zqc [(20, 1, 4, .c (db v1)), (20, 1, 5, .c (di v3)), (20, 2, 1, .q (xb false)), (20, 4, 1, .c (db v6)), (20, 4, 2, .q (xb true)), (20, 4, 6, .c (.agg (aB 732 v9))), (20, 4, 8, .q (.d (.agg (aB 61 (fun k => v9 (p2.toNat * 61 + k)))))), (20, 4, 10, .q (xb ((fun k => v9 (p2.toNat * 61 + k)) p3.toNat)))] [] (ob (zOd k p0 p1 p2 _ h2) (ob (zCb k p0 v1 _ h4) (ob (o_b h5) (ob (zH k p3 0 60 _ h7) (ob (o_b h8) (ob (zxb k (⟨p0, p1, 0⟩ : zd) _ h10) (ob (zKs 12 61 v9 p2 h11) (ob (z7s 61 (fun k => v9 (p2.toNat * 61 + k)) p3 h12) ob0)))))))) (by kernel_rfl))
  ·exact zJ (g := zQk) g5 (zqc [(20, 1, 4, .c (db v1)), (20, 1, 5, .c (di v3)), (20, 2, 1, .q (xb false)), (20, 4, 1, .c (db v6)), (20, 4, 2, .q (xb false))] [] (ob (zOd k p0 p1 p2 _ h2) (ob (zCb k p0 v1 _ h4) (ob (o_b h5) (ob (zH k p3 0 60 _ h7) (ob (o_b h8) ob0))))) (by kernel_rfl))
theorem zyo (k : Nat) (p0 : zi) (r : Int) (h : z6f k p0 = some r) : zM TE (ev TE) 84 [(.agg [(di p0.Low), (di p0.High)])] = some (zJj r) := by
 unfold z6f at h
 exact zJ (g := zJj) h (zqc [] [] ob0 (by kernel_rfl))
noncomputable def z6C (s1_0 : Int) (p1 : (SL Int)) (s1_5 : Int) : TM := [(0, (xi s1_0)), (1, (.d (dl eI p1.1 p1.2))), (4, (xi 0)), (7, (.d (dl eI p1.1 p1.2))), (8, (xi (p1.1.length : Int))), (9, (xi s1_5))]
noncomputable def zQn (p1 : (SL Int)) (s1_0 s1_5 : Int) : St := ⟨(z6C s1_0 p1 s1_5), ⟨[], []⟩, []⟩
noncomputable def z4C (r : (Int × Int)) (p1 : (SL Int)) : TM := [(0, (xi r.1)), (1, (.d (dl eI p1.1 p1.2))), (4, (xi 0)), (7, (.d (dl eI p1.1 p1.2))), (8, (xi (p1.1.length : Int))), (9, (xi r.2)), (10, (xb false))]
noncomputable def zRf (p1 : (SL Int)) (r : (Int × Int)) : St := ⟨(z4C r p1), ⟨[], []⟩, []⟩
noncomputable def zTn (p1 : (SL Int)) : (Int × Int) → Ex × St := fun r => ((.exit 0), zRf p1 r)
theorem zjn (k : Nat) (p1 : (SL Int)) (s1_0 s1_5 : Int) (x : (Int × Int) ⊕ (Int × Int)) (h : zZb k p1 s1_0 s1_5 = some x) : zQ TE 65 (blk TE 65 0) (fun s : (Int × Int) => zQn p1 s.1 s.2) (zTn p1) (s1_0, s1_5) x := by
 unfold zZb at h
 refine zn h (fun h201 g1 => ?_) (fun h201 g1 => ?_)
 ·refine zk g1 (fun v202 h203 g2 => ?_)
  exact zqn ((if v202 > s1_0 then v202 else s1_0), (w64 (s1_5 + 1))) [] [(65, 2, 0, .q (xb true)), (65, 3, 0, .q (.d (.pin [(di v202)])))] [] g2 (ob (o_b h201) (ob (o_ia (e := eI) 1 h203 rfl) ob0)) (by kernel_rfl)
 ·exact zqo [(65, 2, 0, .q (xb false))] [] g1 (ob (o_b h201) ob0) (by kernel_rfl)
theorem zbh (k : Nat) (p0 : Int) (p1 : (SL Int)) (r : Int) (h : zDc k p0 p1 = some r) : zM TE (ev TE) 65 [(di p0), (dl eI p1.1 p1.2)] = some (z6j r) := by
 unfold zDc at h
 refine zk h (fun v1 h2 g1 => ?_)
 exact zJ (g := z6j) g1 (zqc [(65, 1, 1, .q (xi (p1.1.length : Int)))] [(65, 0, (.nor, zRf p1 v1))] (ob (zy eI p1.1) (ob (zG (id := 0) (r' := (.nor, zRf p1 v1)) (zib (zjn k p1) k _ _ h2) rfl) ob0)) (by kernel_rfl))
theorem zJo (k : Nat) (p0 : zi) (r : Int) (h : z4f k p0 = some r) : zM TE (ev TE) 85 [(.agg [(di p0.Low), (di p0.High)])] = some (zEj r) := by
 unfold z4f at h
 exact zJ (g := zEj) h (zqc [] [] ob0 (by kernel_rfl))
noncomputable def z8D (v1 : zt0) (s1_2 : Int) : TM := [(0, (.yld 0)), (1, (.d (.pin (aB 61 v1)))), (5, (.d (.agg (aB 61 v1)))), (6, (xi s1_2)), (7, (xb true)), (3, (xi s1_2)), (4, (xb (v1 s1_2.toNat))), (16, (xb false))]
noncomputable def zsw (p0 v1 : zt0) : TM := [(0, (.d (.agg (aB 61 p0)))), (zsp 1), (zsp 2), (zsp 3), (zsp 4), (zsp 5), (11, (.d (.fn 96 [] [(.pin (aB 61 v1))])))]
noncomputable def zwe (p0 v1 : zt0) (s1_2 s1_6 s1_7 : Int) (r : (Int × Int)) : St := ⟨(z8D v1 s1_2), ⟨[], [[(zc 1 (aB 61 p0)), (2, (.cells [(xi 0), (xi 0)])), (3, (.cells [(xi r.1), (xi r.2)])), (4, (.cells [(.d (.fn 84 [] []))])), (5, (.cells [(.d (.fn 85 [] []))]))]]⟩, [⟨(zsw p0 v1), 0, rfP (blk TE 54 0), rfA (blk TE 54 0), rfB (blk TE 54 0), 54, .rdy⟩]⟩
noncomputable def zSD (v1 : zt0) (s1_2 : Int) : TM := [(0, (.yld 0)), (1, (.d (.pin (aB 61 v1)))), (5, (.d (.agg (aB 61 v1)))), (6, (xi s1_2)), (7, (xb true)), (3, (xi s1_2)), (4, (xb (v1 s1_2.toNat)))]
theorem zXn (k : Nat) (p0 v1 : zt0) (s1_2 s1_6 s1_7 : Int) (r : (Int × Int)) (h : zvf k p0 v1 s1_2 s1_6 s1_7 = some r) : ev TE 96 (rgn TE 96 3) ⟨(zSD v1 s1_2), ⟨[], [[(zc 1 (aB 61 p0)), (2, (.cells [(xi 0), (xi 0)])), (3, (.cells [(xi s1_6), (xi s1_7)])), (4, (.cells [(.d (.fn 84 [] []))])), (5, (.cells [(.d (.fn 85 [] []))]))]]⟩, [⟨(zsw p0 v1), 0, rfP (blk TE 54 0), rfA (blk TE 54 0), rfB (blk TE 54 0), 54, .rdy⟩]⟩ = some (.nor, zwe p0 v1 s1_2 s1_6 s1_7 r) := by
 unfold zvf at h
 refine zn h (fun h401 g1 => ?_) (fun h401 g1 => ?_)
 ·refine zk g1 (fun v402 h403 g2 => ?_)
  refine zk g2 (fun v404 h405 g3 => ?_)
  refine zk g3 (fun v406 h407 g4 => ?_)
  refine zk g4 (fun v408 h409 g5 => ?_)
  exact zA (g := fun r => (Ex.nor, zwe p0 v1 s1_2 s1_6 s1_7 r)) g5 (zqe [(96, 3, 1, .q (xb true)), (54, 5, 3, .c (di v402)), (54, 5, 8, .c (di v404)), (54, 5, 13, .c (di v406)), (54, 5, 16, .c (di v408))] [] (ob (o_b h401) (ob (zyo k (⟨s1_6, s1_7⟩ : zi) _ h403) (ob (zbh k (w64 (0 - v402)) ([(w64 (0 - s1_2))], .ex) _ h405) (ob (zJo k (⟨s1_6, s1_7⟩ : zi) _ h407) (ob (zbh k v406 ([s1_2], .ex) _ h409) ob0))))) (by kernel_rfl))
 ·exact zA (g := fun r => (Ex.nor, zwe p0 v1 s1_2 s1_6 s1_7 r)) g1 (zqe [(96, 3, 1, .q (xb false))] [] (ob (o_b h401) ob0) (by kernel_rfl))
noncomputable def zVB (v1 : zt0) (s1_2 : Int) : TM := [(0, (.yld 0)), (1, (.d (.pin (aB 61 v1)))), (5, (.d (.agg (aB 61 v1)))), (6, (xi s1_2))]
noncomputable def zHo (p0 v1 : zt0) (s1_2 s1_6 s1_7 : Int) : St := ⟨(zVB v1 s1_2), ⟨[], [[(zc 1 (aB 61 p0)), (2, (.cells [(xi 0), (xi 0)])), (3, (.cells [(xi s1_6), (xi s1_7)])), (4, (.cells [(.d (.fn 84 [] []))])), (5, (.cells [(.d (.fn 85 [] []))]))]]⟩, [⟨(zsw p0 v1), 0, rfP (blk TE 54 0), rfA (blk TE 54 0), rfB (blk TE 54 0), 54, .rdy⟩]⟩
noncomputable def zTB (v1 : zt0) (r : (Int × Int × Int)) : TM := [(0, (.yld 0)), (1, (.d (.pin (aB 61 v1)))), (5, (.d (.agg (aB 61 v1)))), (6, (xi r.1)), (7, (xb false))]
noncomputable def zeg (p0 v1 : zt0) (r : (Int × Int × Int)) : St := ⟨(zTB v1 r), ⟨[], [[(zc 1 (aB 61 p0)), (2, (.cells [(xi 0), (xi 0)])), (3, (.cells [(xi r.2.1), (xi r.2.2)])), (4, (.cells [(.d (.fn 84 [] []))])), (5, (.cells [(.d (.fn 85 [] []))]))]]⟩, [⟨(zsw p0 v1), 0, rfP (blk TE 54 0), rfA (blk TE 54 0), rfB (blk TE 54 0), 54, .rdy⟩]⟩
noncomputable def zuo (p0 v1 : zt0) : (Int × Int × Int) → Ex × St := fun r => ((.exit 0), zeg p0 v1 r)
theorem zDn (k : Nat) (p0 v1 : zt0) (s1_2 s1_6 s1_7 : Int) (x : (Int × Int × Int) ⊕ (Int × Int × Int)) (h : zXd k p0 v1 s1_2 s1_6 s1_7 = some x) : zQ TE 96 (blk TE 96 0) (fun s : (Int × Int × Int) => zHo p0 v1 s.1 s.2.1 s.2.2) (zuo p0 v1) (s1_2, s1_6, s1_7) x := by
 unfold zXd at h
 refine zn h (fun h301 g1 => ?_) (fun h301 g1 => ?_)
 ·refine zT g1 (fun h302 g2 => ?_)
  refine zk g2 (fun v303 h304 g3 => ?_)
  exact zqn ((w64 (s1_2 + 1)), v303.1, v303.2) [] [(96, 1, 0, .q (xb true)), (96, 2, 1, .q (xb (v1 s1_2.toNat)))] [(96, 1000003, (.nor, zwe p0 v1 s1_2 s1_6 s1_7 v303))] g3 (ob (o_b h301) (ob (z7s 61 v1 s1_2 h302) (ob (zXn k p0 v1 s1_2 s1_6 s1_7 _ h304) ob0))) (by kernel_rfl)
 ·exact zqo [(96, 1, 0, .q (xb false))] [] g1 (ob (o_b h301) ob0) (by kernel_rfl)
theorem z1d (k : Nat) (p0 : zt0) (r : zi) (h : zIb k p0 = some r) : zM TE (ev TE) 54 [(.agg (aB 61 p0))] = some (zok r) := by
 unfold zIb at h
 refine zk h (fun v1 h2 g1 => ?_)
 refine zk g1 (fun v3 h4 g2 => ?_)
 exact zJ (g := zok) g2 (zqc [(54, 3, 1, .c (.fn 96 [] [(.pin (aB 61 v1))]))] [(96, 0, (.nor, zeg p0 v1 v3))] (ob (zce k p0 _ h2) (ob (zG (id := 0) (r' := (.nor, zeg p0 v1 v3)) (zHA (zDn k p0 v1) k _ _ h4) rfl) ob0)) (by kernel_rfl))
noncomputable def zkC (p0 : za) (p1 p2 p3 : Int) (v1 : zt1) (s1_28 : (List Int)) (s1_15 : Int) : TM := [(0, (.d (.agg (zb p0)))), (1, (xi p1)), (2, (xi p2)), (3, (xi p3)), (zsp 4), (zsp 5), (8, (.d (.sl [] .nil))), (9, (xi 0)), (10, (xb v1.1)), (11, (xi v1.2)), (26, (xb false)), (29, (xb false)), (zsp 12), (13, (.fn 71 [] [(.ptr 0 12 0), (.ptr 0 5 0)])), (14, (.row 0 14 s1_28.length)), (41, (xi p0.Days)), (42, (xi s1_15))]
noncomputable def zmt (p0 : za) (p1 p2 p3 : Int) (v1 : zt1) (s1_15 : Int) (s1_26 : (List zq)) (s1_27 : Bool) (s1_28 : (List Int)) : St := ⟨(zkC p0 p1 p2 p3 v1 s1_28 s1_15), ⟨[(zc 4 (zb p0)), (5, (.cells [(xi p1)])), (12, (.cells [(xi p0.Days), (.d (dl zo p0.Shelves.1 p0.Shelves.2)), (.d (dl zp p0.Moves.1 p0.Moves.2)), (.d (dl zh p0.Deliveries.1 p0.Deliveries.2)), (.row 0 33 s1_26.length)])), (33, (rowO true 4 zj s1_26 s1_27)), (14, (rowO true 1 eI s1_28 true))], []⟩, []⟩
noncomputable def zzz (p0 : za) (p1 p2 p3 : Int) (v1 : zt1) (r : (Int × (List zq) × Bool × (List Int))) : TM := [(0, (.d (.agg (zb p0)))), (1, (xi p1)), (2, (xi p2)), (3, (xi p3)), (zsp 4), (zsp 5), (8, (.d (.sl [] .nil))), (9, (xi 0)), (10, (xb v1.1)), (11, (xi v1.2)), (26, (xb false)), (29, (xb false)), (zsp 12), (13, (.fn 71 [] [(.ptr 0 12 0), (.ptr 0 5 0)])), (14, (.row 0 14 r.2.2.2.length)), (41, (xi p0.Days)), (42, (xi r.1)), (43, (xb false))]
noncomputable def zqj (p0 : za) (p1 p2 p3 : Int) (v1 : zt1) (r : (Int × (List zq) × Bool × (List Int))) : St := ⟨(zzz p0 p1 p2 p3 v1 r), ⟨[(zc 4 (zb p0)), (5, (.cells [(xi p1)])), (12, (.cells [(xi p0.Days), (.d (dl zo p0.Shelves.1 p0.Shelves.2)), (.d (dl zp p0.Moves.1 p0.Moves.2)), (.d (dl zh p0.Deliveries.1 p0.Deliveries.2)), (.row 0 33 r.2.1.length)])), (33, (rowO true 4 zj r.2.1 r.2.2.1)), (14, (rowO true 1 eI r.2.2.2 true))], []⟩, []⟩
noncomputable def zct (p0 : za) (p1 p2 p3 : Int) (v1 : zt1) : (Int × (List zq) × Bool × (List Int)) → Ex × St := fun r => ((.exit 0), zqj p0 p1 p2 p3 v1 r)
theorem zfs (k : Nat) (p0 : za) (p1 p2 p3 : Int) (v1 : zt1) (s1_15 : Int) (s1_26 : (List zq)) (s1_27 : Bool) (s1_28 : (List Int)) (x : (Int × (List zq) × Bool × (List Int)) ⊕ (Int × (List zq) × Bool × (List Int))) (h : zlj k p0 p1 p2 p3 v1 s1_15 s1_26 s1_27 s1_28 = some x) : zQ TE 30 (blk TE 30 0) (fun s : (Int × (List zq) × Bool × (List Int)) => zmt p0 p1 p2 p3 v1 s.1 s.2.1 s.2.2.1 s.2.2.2) (zct p0 p1 p2 p3 v1) (s1_15, s1_26, s1_27, s1_28) x := by
 unfold zlj at h
 refine zn h (fun h201 g1 => ?_) (fun h201 g1 => ?_)
 ·refine zk g1 (fun v202 h203 g2 => ?_)
  refine zT g2 (fun h204 g3 => ?_)
  refine zk g3 (fun v205 h206 g4 => ?_)
  refine zT g4 (fun h207 g5 => ?_)
  refine zT g5 (fun h208 g6 => ?_)
  exact zqn ((w64 (s1_15 + 1)), (s1_26 ++ [(⟨s1_15, p1, v205.Low, 0⟩ : zq)]), (false || (true && s1_26.isEmpty)), (s1_28 ++ [v205.Low])) [33, 14] [(30, 12, 0, .q (xb true)), (30, 14, 3, .cr [((dl zj s1_26 (rcap true s1_26)), (rowO true 4 zj s1_26 false))] (.agg (aB 732 v202))), (30, 14, 5, .q (.d (.agg (aB 61 (fun k => v202 (s1_15.toNat * 61 + k)))))), (30, 14, 6, .c (.agg [(di v205.Low), (di v205.High)])), (71, 0, 7, .ap (s1_26 ++ [(⟨s1_15, p1, v205.Low, 0⟩ : zq)]).length (rowO true 4 zj (s1_26 ++ [(⟨s1_15, p1, v205.Low, 0⟩ : zq)]) (false || (true && s1_26.isEmpty)))), (30, 16, 3, .ap (s1_28 ++ [v205.Low]).length (rowO true 1 eI (s1_28 ++ [v205.Low]) true))] [] g6 (ob (o_b h201) (ob (o_cr true 4 zj s1_26 s1_27 0 33) (ob (zxb k (⟨(⟨p0.Days, p0.Shelves, p0.Moves, p0.Deliveries, (s1_26, (rcap true s1_26))⟩ : za), p1, 0⟩ : zd) _ h203) (ob (zKs 12 61 v202 s1_15 h204) (ob (z1d k (fun k => v202 (s1_15.toNat * 61 + k)) _ h206) (ob (o_ap (b := true) (z := 4) (e := zj) (l := s1_26) (w := false) (⟨s1_15, p1, v205.Low, 0⟩ : zq) (fun _ => rfl) h207) (ob (o_ap (b := true) (z := 1) (e := eI) (l := s1_28) (w := true) v205.Low (fun _ => rfl) h208) (ob (zgc true 4 zj (s1_26 ++ [(⟨s1_15, p1, v205.Low, 0⟩ : zq)]) (false || (true && s1_26.isEmpty))) (ob (zgc true 1 eI (s1_28 ++ [v205.Low]) true) ob0))))))))) (by kernel_rfl)
 ·exact zqo [(30, 12, 0, .q (xb false))] [] g1 (ob (o_b h201) ob0) (by kernel_rfl)
noncomputable def zhB (p0 : za) (p1 p2 p3 : Int) (v1 : zt1) (s2_28 : (List Int)) (s2_15 : Int) : TM := [(0, (.d (.agg (zb p0)))), (1, (xi p1)), (2, (xi p2)), (3, (xi p3)), (zsp 4), (zsp 5), (8, (.d (.sl [] .nil))), (9, (xi 0)), (10, (xb v1.1)), (11, (xi v1.2)), (26, (xb false)), (29, (xb false)), (zsp 12), (13, (.fn 71 [] [(.ptr 0 12 0), (.ptr 0 5 0)])), (14, (.row 0 14 s2_28.length)), (41, (xi p0.Days)), (42, (xi s2_15))]
noncomputable def zNs (p0 : za) (p1 p2 p3 : Int) (v1 : zt1) (s2_15 : Int) (s2_26 : (List zq)) (s2_27 : Bool) (s2_28 : (List Int)) : St := ⟨(zhB p0 p1 p2 p3 v1 s2_28 s2_15), ⟨[(zc 4 (zb p0)), (5, (.cells [(xi p1)])), (12, (.cells [(xi p0.Days), (.d (dl zo p0.Shelves.1 p0.Shelves.2)), (.d (dl zp p0.Moves.1 p0.Moves.2)), (.d (dl zh p0.Deliveries.1 p0.Deliveries.2)), (.row 0 33 s2_26.length)])), (33, (rowO false 4 zj s2_26 s2_27)), (14, (rowO true 1 eI s2_28 true))], []⟩, []⟩
noncomputable def zpj (p0 : za) (p1 p2 p3 : Int) (v1 : zt1) (r : (Int × (List zq) × Bool × (List Int))) : St := ⟨(zzz p0 p1 p2 p3 v1 r), ⟨[(zc 4 (zb p0)), (5, (.cells [(xi p1)])), (12, (.cells [(xi p0.Days), (.d (dl zo p0.Shelves.1 p0.Shelves.2)), (.d (dl zp p0.Moves.1 p0.Moves.2)), (.d (dl zh p0.Deliveries.1 p0.Deliveries.2)), (.row 0 33 r.2.1.length)])), (33, (rowO false 4 zj r.2.1 r.2.2.1)), (14, (rowO true 1 eI r.2.2.2 true))], []⟩, []⟩
noncomputable def zDs (p0 : za) (p1 p2 p3 : Int) (v1 : zt1) : (Int × (List zq) × Bool × (List Int)) → Ex × St := fun r => ((.exit 0), zpj p0 p1 p2 p3 v1 r)
theorem zRr (k : Nat) (p0 : za) (p1 p2 p3 : Int) (v1 : zt1) (s2_15 : Int) (s2_26 : (List zq)) (s2_27 : Bool) (s2_28 : (List Int)) (x : (Int × (List zq) × Bool × (List Int)) ⊕ (Int × (List zq) × Bool × (List Int))) (h : zfj k p0 p1 p2 p3 v1 s2_15 s2_26 s2_27 s2_28 = some x) : zQ TE 30 (blk TE 30 0) (fun s : (Int × (List zq) × Bool × (List Int)) => zNs p0 p1 p2 p3 v1 s.1 s.2.1 s.2.2.1 s.2.2.2) (zDs p0 p1 p2 p3 v1) (s2_15, s2_26, s2_27, s2_28) x := by
 unfold zfj at h
 refine zn h (fun h301 g1 => ?_) (fun h301 g1 => ?_)
 ·refine zk g1 (fun v302 h303 g2 => ?_)
  refine zT g2 (fun h304 g3 => ?_)
  refine zk g3 (fun v305 h306 g4 => ?_)
  refine zT g4 (fun h307 g5 => ?_)
  refine zT g5 (fun h308 g6 => ?_)
  exact zqn ((w64 (s2_15 + 1)), (s2_26 ++ [(⟨s2_15, p1, v305.Low, 0⟩ : zq)]), (false || (false && s2_26.isEmpty)), (s2_28 ++ [v305.Low])) [33, 14] [(30, 12, 0, .q (xb true)), (30, 14, 3, .cr [((dl zj s2_26 (rcap false s2_26)), (rowO false 4 zj s2_26 false))] (.agg (aB 732 v302))), (30, 14, 5, .q (.d (.agg (aB 61 (fun k => v302 (s2_15.toNat * 61 + k)))))), (30, 14, 6, .c (.agg [(di v305.Low), (di v305.High)])), (71, 0, 7, .ap (s2_26 ++ [(⟨s2_15, p1, v305.Low, 0⟩ : zq)]).length (rowO false 4 zj (s2_26 ++ [(⟨s2_15, p1, v305.Low, 0⟩ : zq)]) (false || (false && s2_26.isEmpty)))), (30, 16, 3, .ap (s2_28 ++ [v305.Low]).length (rowO true 1 eI (s2_28 ++ [v305.Low]) true))] [] g6 (ob (o_b h301) (ob (o_cr false 4 zj s2_26 s2_27 0 33) (ob (zxb k (⟨(⟨p0.Days, p0.Shelves, p0.Moves, p0.Deliveries, (s2_26, (rcap false s2_26))⟩ : za), p1, 0⟩ : zd) _ h303) (ob (zKs 12 61 v302 s2_15 h304) (ob (z1d k (fun k => v302 (s2_15.toNat * 61 + k)) _ h306) (ob (o_ap (b := false) (z := 4) (e := zj) (l := s2_26) (w := false) (⟨s2_15, p1, v305.Low, 0⟩ : zq) (fun _ => rfl) h307) (ob (o_ap (b := true) (z := 1) (e := eI) (l := s2_28) (w := true) v305.Low (fun _ => rfl) h308) (ob (zgc false 4 zj (s2_26 ++ [(⟨s2_15, p1, v305.Low, 0⟩ : zq)]) (false || (false && s2_26.isEmpty))) (ob (zgc true 1 eI (s2_28 ++ [v305.Low]) true) ob0))))))))) (by kernel_rfl)
 ·exact zqo [(30, 12, 0, .q (xb false))] [] g1 (ob (o_b h301) ob0) (by kernel_rfl)
theorem zqb (k : Nat) (p0 : za) (p1 p2 p3 : Int) (r : ((SL Int) × Int)) (h : zzi k p0 p1 p2 p3 = some r) : zM TE (ev TE) 30 [(.agg (zb p0)), (di p1), (di p2), (di p3)] = some (z6h r) := by
 unfold zzi at h
 refine zk h (fun v1 h2 g1 => ?_)
 refine zn g1 (fun h3 g2 => ?_) (fun h3 g2 => ?_)
 ·exact zJ (g := z6h) g2 (zqc [(30, 1, 4, .c (.tup [(db v1.1), (di v1.2)])), (30, 2, 1, .q (xb true))] [] (ob (zQb k p0 p1 p2 p3 _ h2) (ob (o_b h3) ob0)) (by kernel_rfl))
 ·refine zn g2 (fun h4 g3 => ?_) (fun h4 g3 => ?_)
  ·exact zJ (g := z6h) g3 (zqc [(30, 1, 4, .c (.tup [(db v1.1), (di v1.2)])), (30, 2, 1, .q (xb false)), (30, 4, 1, .q (xb true))] [] (ob (zQb k p0 p1 p2 p3 _ h2) (ob (o_b h3) (ob (o_b h4) ob0))) (by kernel_rfl))
  ·refine zn g3 (fun h5 g4 => ?_) (fun h5 g4 => ?_)
   ·refine zT g4 (fun h6 g5 => ?_)
    refine zk g5 (fun v7 h8 g6 => ?_)
    exact zJ (g := z6h) g6 (zqc [(30, 1, 4, .c (.tup [(db v1.1), (di v1.2)])), (30, 2, 1, .q (xb false)), (30, 4, 1, .q (xb false)), (70, 1, 1, .q (xb true)), (71, 0, 7, .ap ([(⟨p2, p1, p3, 0⟩ : zq)] : List zq).length (rowO true 4 zj ([(⟨p2, p1, p3, 0⟩ : zq)] : List zq) true)), (30, 18, 2, .q (xi (v7.2.2.2.length : Int))), (30, 18, 4, .q (xi (v7.2.2.2.length : Int))), (30, 18, 5, .sr (.d (dl eI v7.2.2.2 (xcap true v7.2.2.2))) (rowO true 1 eI v7.2.2.2 false))] [(30, 0, (.nor, zqj p0 p1 p2 p3 v1 v7))] (ob (zQb k p0 p1 p2 p3 _ h2) (ob (o_b h3) (ob (o_b h4) (ob (o_b h5) (ob (o_ap (b := true) (z := 4) (e := zj) (l := ([] : List zq)) (w := true) (⟨p2, p1, p3, 0⟩ : zq) (fun _ => rfl) h6) (ob (zG (id := 0) (r' := (.nor, zqj p0 p1 p2 p3 v1 v7)) (zLA (zfs k p0 p1 p2 p3 v1) k _ _ h8) rfl) (ob (zaj true 1 eI v7.2.2.2 true) (ob (zaj true 1 eI v7.2.2.2 true) (ob (o_sr (P := TE.P) (T := 42) (U := 3) (by' := 8) (ρ := fun _ => xi (v7.2.2.2.length : Int)) (lv := 0) (s := 14) (lo := none) (hi := some (.tmp 0)) (mx := some (.tmp 0)) true 1 eI v7.2.2.2 true (by kernel_rfl) (by kernel_rfl) rfl rfl rfl) ob0))))))))) (by kernel_rfl))
   ·refine zT g4 (fun h6 g5 => ?_)
    refine zT g5 (fun h7 g6 => ?_)
    refine zk g6 (fun v8 h9 g7 => ?_)
    exact zJ (g := z6h) g7 (zqc [(30, 1, 4, .c (.tup [(db v1.1), (di v1.2)])), (30, 2, 1, .q (xb false)), (30, 4, 1, .q (xb false)), (70, 1, 1, .q (xb false)), (70, 3, 2, .ns (p0.Counts.1.map zj) p0.Counts.1.length), (71, 0, 7, .ap (p0.Counts.1 ++ [(⟨p2, p1, p3, 0⟩ : zq)]).length (rowO false 4 zj (p0.Counts.1 ++ [(⟨p2, p1, p3, 0⟩ : zq)]) true)), (30, 18, 2, .q (xi (v8.2.2.2.length : Int))), (30, 18, 4, .q (xi (v8.2.2.2.length : Int))), (30, 18, 5, .sr (.d (dl eI v8.2.2.2 (xcap true v8.2.2.2))) (rowO true 1 eI v8.2.2.2 false))] [(30, 0, (.nor, zpj p0 p1 p2 p3 v1 v8))] (ob (zQb k p0 p1 p2 p3 _ h2) (ob (o_b h3) (ob (o_b h4) (ob (o_b h5) (ob (zdt p0.Counts.1 zj) (ob (o_ns (P := TE.P) (φ := fun _ _ => none) (T := 25) (q := (4, [(di 0), (di 0), (di 0), (di 0)])) (c := p0.Counts.2) (e := zj) p0.Counts.1 (by kernel_rfl) (fun _ => rfl) h6) (ob (rfl : (([] : List (List D)).isEmpty || !(p0.Counts.1.map zj).isEmpty) = true) (ob (o_rh false 4 zj p0.Counts.1) (ob (o_ap (b := false) (z := 4) (e := zj) (l := p0.Counts.1) (w := true) (⟨p2, p1, p3, 0⟩ : zq) (fun _ => rfl) h7) (ob (zG (id := 0) (r' := (.nor, zpj p0 p1 p2 p3 v1 v8)) (zLA (zRr k p0 p1 p2 p3 v1) k _ _ h9) rfl) (ob (zaj true 1 eI v8.2.2.2 true) (ob (zaj true 1 eI v8.2.2.2 true) (ob (o_sr (P := TE.P) (T := 42) (U := 3) (by' := 8) (ρ := fun _ => xi (v8.2.2.2.length : Int)) (lv := 0) (s := 14) (lo := none) (hi := some (.tmp 0)) (mx := some (.tmp 0)) true 1 eI v8.2.2.2 true (by kernel_rfl) (by kernel_rfl) rfl rfl rfl) ob0))))))))))))) (by kernel_rfl))
theorem zN (k : Nat) (p0 p1 p2 : Int) (r : Bool) (h : zcb k p0 p1 p2 = some r) : zM TE (ev TE) 62 [(di p0), (di p1), (di p2)] = some (zZg r) := by
 unfold zcb at h
 refine zn h (fun h1 g1 => ?_) (fun h1 g1 => ?_)
 ·exact zJ (g := zZg) g1 (zqc [(62, 1, 3, .q (xb true))] [] (ob (o_b h1) ob0) (by kernel_rfl))
 ·exact zJ (g := zZg) g1 (zqc [(62, 1, 3, .q (xb false))] [] (ob (o_b h1) ob0) (by kernel_rfl))
theorem zgb (k : Nat) (p0 : za) (p1 : Int) (r : Bool) (h : zHb k p0 p1 = some r) : zM TE (ev TE) 63 [(.agg (zb p0)), (di p1)] = some (zGi r) := by
 unfold zHb at h
 refine zk h (fun v1 h2 g1 => ?_)
 exact zJ (g := zGi) g1 (zqc [(63, 1, 3, .q (xi (p0.Shelves.1.length : Int))), (63, 1, 5, .c (db v1))] [] (ob (zy zo p0.Shelves.1) (ob (zN k p1 0 (w64 ((p0.Shelves.1.length : Int) - 1)) _ h2) ob0)) (by kernel_rfl))
theorem z6i (k : Nat) (p0 : za) (p1 p2 : Int) (r : Bool) (h : zie k p0 p1 p2 = some r) : zM TE (ev TE) 56 [(.agg (zb p0)), (di p1), (di p2)] = some (zVg r) := by
 unfold zie at h
 refine zk h (fun v1 h2 g1 => ?_)
 refine zn g1 (fun h3 g2 => ?_) (fun h3 g2 => ?_)
 ·refine zk g2 (fun v4 h5 g3 => ?_)
  exact zJ (g := zVg) g3 (zqc [(56, 1, 2, .c (db v1)), (56, 1, 3, .q (xb true)), (56, 1, 8, .c (db v4))] [] (ob (zgb k p0 p1 _ h2) (ob (o_b h3) (ob (zN k p2 0 (w64 (p0.Days - 1)) _ h5) ob0))) (by kernel_rfl))
 ·exact zJ (g := zVg) g2 (zqc [(56, 1, 2, .c (db v1)), (56, 1, 3, .q (xb false))] [] (ob (zgb k p0 p1 _ h2) (ob (o_b h3) ob0)) (by kernel_rfl))
theorem zTc (k : Nat) (p0 : zi) (p1 p2 : Int) (r : Bool) (h : zPb k p0 p1 p2 = some r) : zM TE (ev TE) 43 [(.agg [(di p0.Low), (di p0.High)]), (di p1), (di p2)] = some (zve r) := by
 unfold zPb at h
 refine zn h (fun h1 g1 => ?_) (fun h1 g1 => ?_)
 ·refine zn g1 (fun h2 g2 => ?_) (fun h2 g2 => ?_)
  ·exact zJ (g := zve) g2 (zqc [(43, 1, 4, .q (xb true)), (43, 1, 11, .q (xb true))] [] (ob (o_b h1) (ob (o_b h2) ob0)) (by kernel_rfl))
  ·exact zJ (g := zve) g2 (zqc [(43, 1, 4, .q (xb true)), (43, 1, 11, .q (xb false))] [] (ob (o_b h1) (ob (o_b h2) ob0)) (by kernel_rfl))
 ·exact zJ (g := zve) g1 (zqc [(43, 1, 4, .q (xb false))] [] (ob (o_b h1) ob0) (by kernel_rfl))
noncomputable def zst (p0 : za) (r : Bool) : TM := [(0, (.d (.agg (zb p0)))), (zsp 1), (2, (xi 0)), (3, (xb r))]
noncomputable def zsb (p0 : za) (r : Bool) : St := ⟨(zst p0 r), ⟨[(zc 1 (zb p0))], []⟩, []⟩
theorem zXh (k : Nat) (p0 : za) (r : Bool) (h : zfd k p0 = some r) : ev TE 19 (rgn TE 19 1) ⟨[(0, (.d (.agg (zb p0)))), (zsp 1), (2, (xi 0))], ⟨[(zc 1 (zb p0))], []⟩, []⟩ = some (.nor, zsb p0 r) := by
 unfold zfd at h
 refine zk h (fun v201 h202 g1 => ?_)
 refine zn g1 (fun h203 g2 => ?_) (fun h203 g2 => ?_)
 ·refine zk g2 (fun v204 h205 g3 => ?_)
  refine zn g3 (fun h206 g4 => ?_) (fun h206 g4 => ?_)
  ·refine zn g4 (fun h207 g5 => ?_) (fun h207 g5 => ?_)
   ·refine zn g5 (fun h208 g6 => ?_) (fun h208 g6 => ?_)
    ·exact zA (g := fun r => (Ex.nor, zsb p0 r)) g6 (zqe [(19, 1, 2, .c (db v201)), (19, 1, 3, .q (xb true)), (19, 1, 6, .q (xi (p0.Shelves.1.length : Int))), (19, 1, 7, .c (db v204)), (19, 1, 9, .q (xb true)), (19, 1, 12, .q (xi (p0.Moves.1.length : Int))), (19, 1, 15, .q (xb true)), (19, 1, 18, .q (xi (p0.Deliveries.1.length : Int))), (19, 1, 21, .q (xb true)), (19, 1, 24, .q (xi (p0.Counts.1.length : Int)))] [] (ob (zN k p0.Days 1 12 _ h202) (ob (o_b h203) (ob (zy zo p0.Shelves.1) (ob (zN k (p0.Shelves.1.length : Int) 1 4 _ h205) (ob (o_b h206) (ob (zy zp p0.Moves.1) (ob (o_b h207) (ob (zy zh p0.Deliveries.1) (ob (o_b h208) (ob (zy zj p0.Counts.1) ob0)))))))))) (by kernel_rfl))
    ·exact zA (g := fun r => (Ex.nor, zsb p0 r)) g6 (zqe [(19, 1, 2, .c (db v201)), (19, 1, 3, .q (xb true)), (19, 1, 6, .q (xi (p0.Shelves.1.length : Int))), (19, 1, 7, .c (db v204)), (19, 1, 9, .q (xb true)), (19, 1, 12, .q (xi (p0.Moves.1.length : Int))), (19, 1, 15, .q (xb true)), (19, 1, 18, .q (xi (p0.Deliveries.1.length : Int))), (19, 1, 21, .q (xb false))] [] (ob (zN k p0.Days 1 12 _ h202) (ob (o_b h203) (ob (zy zo p0.Shelves.1) (ob (zN k (p0.Shelves.1.length : Int) 1 4 _ h205) (ob (o_b h206) (ob (zy zp p0.Moves.1) (ob (o_b h207) (ob (zy zh p0.Deliveries.1) (ob (o_b h208) ob0))))))))) (by kernel_rfl))
   ·exact zA (g := fun r => (Ex.nor, zsb p0 r)) g5 (zqe [(19, 1, 2, .c (db v201)), (19, 1, 3, .q (xb true)), (19, 1, 6, .q (xi (p0.Shelves.1.length : Int))), (19, 1, 7, .c (db v204)), (19, 1, 9, .q (xb true)), (19, 1, 12, .q (xi (p0.Moves.1.length : Int))), (19, 1, 15, .q (xb false))] [] (ob (zN k p0.Days 1 12 _ h202) (ob (o_b h203) (ob (zy zo p0.Shelves.1) (ob (zN k (p0.Shelves.1.length : Int) 1 4 _ h205) (ob (o_b h206) (ob (zy zp p0.Moves.1) (ob (o_b h207) ob0))))))) (by kernel_rfl))
  ·exact zA (g := fun r => (Ex.nor, zsb p0 r)) g4 (zqe [(19, 1, 2, .c (db v201)), (19, 1, 3, .q (xb true)), (19, 1, 6, .q (xi (p0.Shelves.1.length : Int))), (19, 1, 7, .c (db v204)), (19, 1, 9, .q (xb false))] [] (ob (zN k p0.Days 1 12 _ h202) (ob (o_b h203) (ob (zy zo p0.Shelves.1) (ob (zN k (p0.Shelves.1.length : Int) 1 4 _ h205) (ob (o_b h206) ob0))))) (by kernel_rfl))
 ·exact zA (g := fun r => (Ex.nor, zsb p0 r)) g2 (zqe [(19, 1, 2, .c (db v201)), (19, 1, 3, .q (xb false))] [] (ob (zN k p0.Days 1 12 _ h202) (ob (o_b h203) ob0)) (by kernel_rfl))
noncomputable def zSC (p0 : za) (s2_6 : Bool) (s2_7 : Int) (r : Bool) : TM := [(0, (.d (.agg (zb p0)))), (zsp 1), (2, (xi 0)), (3, (xb s2_6)), (4, (xi s2_7)), (46, (xb r))]
noncomputable def zEc (p0 : za) (s2_6 : Bool) (s2_7 : Int) (r : Bool) : St := ⟨(zSC p0 s2_6 s2_7 r), ⟨[(zc 1 (zb p0))], []⟩, []⟩
noncomputable def zFw (p0 : za) (s2_6 : Bool) (s2_7 : Int) : TM := [(0, (.d (.agg (zb p0)))), (zsp 1), (2, (xi 0)), (3, (xb s2_6)), (4, (xi s2_7))]
theorem zQh (k : Nat) (p0 : za) (s2_6 : Bool) (s2_7 : Int) (r : Bool) (h : zSb k p0 s2_6 s2_7 = some r) : ev TE 19 (rgn TE 19 3) ⟨(zFw p0 s2_6 s2_7), ⟨[(zc 1 (zb p0))], []⟩, []⟩ = some (.nor, zEc p0 s2_6 s2_7 r) := by
 unfold zSb at h
 refine zn h (fun h601 g1 => ?_) (fun h601 g1 => ?_)
 ·exact zA (g := fun r => (Ex.nor, zEc p0 s2_6 s2_7 r)) g1 (zqe [(19, 3, 1, .q (xb true)), (19, 3, 5, .q (xi (p0.Shelves.1.length : Int)))] [] (ob (o_b h601) (ob (zy zo p0.Shelves.1) ob0)) (by kernel_rfl))
 ·exact zA (g := fun r => (Ex.nor, zEc p0 s2_6 s2_7 r)) g1 (zqe [(19, 3, 1, .q (xb false))] [] (ob (o_b h601) ob0) (by kernel_rfl))
noncomputable def zVd (p0 : za) (s2_6 : Bool) (s2_7 : Int) (v504 : zW) (r : Bool) : St := ⟨(zst p0 r ++ [(4, (xi s2_7)), (46, (xb true)), (zsp 5)]), ⟨[(zc 1 (zb p0)), (zc 5 (zo v504))], []⟩, []⟩
theorem zzm (k : Nat) (p0 : za) (s2_6 : Bool) (s2_7 : Int) (v504 : zW) (r : Bool) (h : zhd k p0 s2_6 s2_7 v504 = some r) : ev TE 19 (rgn TE 19 6) ⟨(zFw p0 s2_6 s2_7 ++ [(46, (xb true)), (zsp 5)]), ⟨[(zc 1 (zb p0)), (zc 5 (zo v504))], []⟩, []⟩ = some (.nor, zVd p0 s2_6 s2_7 v504 r) := by
 unfold zhd at h
 refine zk h (fun v701 h702 g1 => ?_)
 refine zn g1 (fun h703 g2 => ?_) (fun h703 g2 => ?_)
 ·refine zk g2 (fun v704 h705 g3 => ?_)
  exact zA (g := fun r => (Ex.nor, zVd p0 s2_6 s2_7 v504 r)) g3 (zqe [(19, 6, 2, .c (db v701)), (19, 6, 3, .q (xb true)), (19, 6, 8, .c (db v704))] [] (ob (zN k v504.Room 1 60 _ h702) (ob (o_b h703) (ob (zTc k v504.Begin 0 v504.Room _ h705) ob0))) (by kernel_rfl))
 ·exact zA (g := fun r => (Ex.nor, zVd p0 s2_6 s2_7 v504 r)) g2 (zqe [(19, 6, 2, .c (db v701)), (19, 6, 3, .q (xb false))] [] (ob (zN k v504.Room 1 60 _ h702) (ob (o_b h703) ob0)) (by kernel_rfl))
noncomputable def z4m (p0 : za) (s2_6 : Bool) (s2_7 : Int) : St := ⟨(zFw p0 s2_6 s2_7), ⟨[(zc 1 (zb p0))], []⟩, []⟩
noncomputable def zwB (p0 : za) (r : zt1) : TM := [(0, (.d (.agg (zb p0)))), (zsp 1), (2, (xi 0)), (3, (xb r.1)), (4, (xi r.2)), (46, (xb false))]
noncomputable def zmc (p0 : za) (r : zt1) : St := ⟨(zwB p0 r), ⟨[(zc 1 (zb p0))], []⟩, []⟩
noncomputable def zdn (p0 : za) : (Bool × Int) → Ex × St := fun r => ((.exit 0), zmc p0 r)
theorem zYh (k : Nat) (p0 : za) (s2_6 : Bool) (s2_7 : Int) (x : (Bool × Int) ⊕ (Bool × Int)) (h : zzb k p0 s2_6 s2_7 = some x) : zQ TE 19 (blk TE 19 0) (fun s : (Bool × Int) => z4m p0 s.1 s.2) (zdn p0) (s2_6, s2_7) x := by
 unfold zzb at h
 refine zk h (fun v501 h502 g1 => ?_)
 refine zn g1 (fun h503 g2 => ?_) (fun h503 g2 => ?_)
 ·subst h503
  refine zk g2 (fun v504 h505 g3 => ?_)
  refine zk g3 (fun v506 h507 g4 => ?_)
  exact zqn (v506, (w64 (s2_7 + 1))) [] [(19, 5, 3, .q (.d (.pin (zo v504))))] [(19, 1000003, (.nor, zEc p0 s2_6 s2_7 true)), (19, 1000006, (.nor, zVd p0 s2_6 s2_7 v504 v506))] g4 (ob (zQh k p0 s2_6 s2_7 _ h502) (ob (o_ia (e := zo) 3 h505 rfl) (ob (zzm k p0 s2_6 s2_7 v504 _ h507) ob0))) (by kernel_rfl)
 ·subst h503
  exact zqo [] [(19, 1000003, (.nor, zEc p0 s2_6 s2_7 false))] g2 (ob (zQh k p0 s2_6 s2_7 _ h502) ob0) (by kernel_rfl)
noncomputable def zDC (p0 : za) (s7_6 : Bool) (v3 : zt1) (s7_9 : Int) (r : Bool) : TM := [(0, (.d (.agg (zb p0)))), (zsp 1), (2, (xi 0)), (3, (xb s7_6)), (4, (xi v3.2)), (46, (xb false)), (6, (xi s7_9)), (71, (xb r))]
noncomputable def zoc (p0 : za) (v3 : zt1) (s7_6 : Bool) (s7_9 : Int) (r : Bool) : St := ⟨(zDC p0 s7_6 v3 s7_9 r), ⟨[(zc 1 (zb p0))], []⟩, []⟩
noncomputable def z8w (p0 : za) (s7_6 : Bool) (v3 : zt1) (s7_9 : Int) : TM := [(0, (.d (.agg (zb p0)))), (zsp 1), (2, (xi 0)), (3, (xb s7_6)), (4, (xi v3.2)), (46, (xb false)), (6, (xi s7_9))]
theorem zIh (k : Nat) (p0 : za) (v3 : zt1) (s7_6 : Bool) (s7_9 : Int) (r : Bool) (h : zKb k p0 v3 s7_6 s7_9 = some r) : ev TE 19 (rgn TE 19 8) ⟨(z8w p0 s7_6 v3 s7_9), ⟨[(zc 1 (zb p0))], []⟩, []⟩ = some (.nor, zoc p0 v3 s7_6 s7_9 r) := by
 unfold zKb at h
 refine zn h (fun h1101 g1 => ?_) (fun h1101 g1 => ?_)
 ·exact zA (g := fun r => (Ex.nor, zoc p0 v3 s7_6 s7_9 r)) g1 (zqe [(19, 8, 1, .q (xb true)), (19, 8, 5, .q (xi (p0.Moves.1.length : Int)))] [] (ob (o_b h1101) (ob (zy zp p0.Moves.1) ob0)) (by kernel_rfl))
 ·exact zA (g := fun r => (Ex.nor, zoc p0 v3 s7_6 s7_9 r)) g1 (zqe [(19, 8, 1, .q (xb false))] [] (ob (o_b h1101) ob0) (by kernel_rfl))
noncomputable def z3B (p0 : za) (r : Bool) (v3 : zt1) (s7_9 : Int) : TM := zst p0 r ++ [(4, (xi v3.2)), (46, (xb false)), (6, (xi s7_9)), (71, (xb true)), (zsp 7)]
noncomputable def zlc (p0 : za) (v3 : zt1) (s7_6 : Bool) (s7_9 : Int) (v1004 : zE) (r : Bool) : St := ⟨(z3B p0 r v3 s7_9), ⟨[(zc 1 (zb p0)), (zc 7 (zp v1004))], []⟩, []⟩
theorem zJl (k : Nat) (p0 : za) (v3 : zt1) (s7_6 : Bool) (s7_9 : Int) (v1004 : zE) (r : Bool) (h : zUc k p0 v3 s7_6 s7_9 v1004 = some r) : ev TE 19 (rgn TE 19 11) ⟨(z8w p0 s7_6 v3 s7_9 ++ [(71, (xb true)), (zsp 7)]), ⟨[(zc 1 (zb p0)), (zc 7 (zp v1004))], []⟩, []⟩ = some (.nor, zlc p0 v3 s7_6 s7_9 v1004 r) := by
 unfold zUc at h
 refine zk h (fun v1201 h1202 g1 => ?_)
 refine zn g1 (fun h1203 g2 => ?_) (fun h1203 g2 => ?_)
 ·refine zk g2 (fun v1204 h1205 g3 => ?_)
  refine zn g3 (fun h1206 g4 => ?_) (fun h1206 g4 => ?_)
  ·refine zk g4 (fun v1207 h1208 g5 => ?_)
   exact zA (g := fun r => (Ex.nor, zlc p0 v3 s7_6 s7_9 v1004 r)) g5 (zqe [(19, 11, 5, .c (db v1201)), (19, 11, 6, .q (xb true)), (19, 11, 10, .c (db v1204)), (19, 11, 12, .q (xb true)), (19, 11, 15, .c (db v1207))] [] (ob (zN k v1004.Day 0 (w64 (p0.Days - 1)) _ h1202) (ob (o_b h1203) (ob (zgb k p0 v1004.Shelf _ h1205) (ob (o_b h1206) (ob (zTc k v1004.By 0 60 _ h1208) ob0))))) (by kernel_rfl))
  ·exact zA (g := fun r => (Ex.nor, zlc p0 v3 s7_6 s7_9 v1004 r)) g4 (zqe [(19, 11, 5, .c (db v1201)), (19, 11, 6, .q (xb true)), (19, 11, 10, .c (db v1204)), (19, 11, 12, .q (xb false))] [] (ob (zN k v1004.Day 0 (w64 (p0.Days - 1)) _ h1202) (ob (o_b h1203) (ob (zgb k p0 v1004.Shelf _ h1205) (ob (o_b h1206) ob0)))) (by kernel_rfl))
 ·exact zA (g := fun r => (Ex.nor, zlc p0 v3 s7_6 s7_9 v1004 r)) g2 (zqe [(19, 11, 5, .c (db v1201)), (19, 11, 6, .q (xb false))] [] (ob (zN k v1004.Day 0 (w64 (p0.Days - 1)) _ h1202) (ob (o_b h1203) ob0)) (by kernel_rfl))
noncomputable def zhn (p0 : za) (v3 : zt1) (s7_6 : Bool) (s7_9 : Int) : St := ⟨(z8w p0 s7_6 v3 s7_9), ⟨[(zc 1 (zb p0))], []⟩, []⟩
noncomputable def zmC (p0 : za) (r v3 : zt1) : TM := [(0, (.d (.agg (zb p0)))), (zsp 1), (2, (xi 0)), (3, (xb r.1)), (4, (xi v3.2)), (46, (xb false)), (6, (xi r.2)), (71, (xb false))]
noncomputable def zrc (p0 : za) (v3 r : zt1) : St := ⟨(zmC p0 r v3), ⟨[(zc 1 (zb p0))], []⟩, []⟩
noncomputable def zkn (p0 : za) (v3 : zt1) : (Bool × Int) → Ex × St := fun r => ((.exit 2), zrc p0 v3 r)
theorem zRh (k : Nat) (p0 : za) (v3 : zt1) (s7_6 : Bool) (s7_9 : Int) (x : (Bool × Int) ⊕ (Bool × Int)) (h : zyb k p0 v3 s7_6 s7_9 = some x) : zQ TE 19 (blk TE 19 2) (fun s : (Bool × Int) => zhn p0 v3 s.1 s.2) (zkn p0 v3) (s7_6, s7_9) x := by
 unfold zyb at h
 refine zk h (fun v1001 h1002 g1 => ?_)
 refine zn g1 (fun h1003 g2 => ?_) (fun h1003 g2 => ?_)
 ·subst h1003
  refine zk g2 (fun v1004 h1005 g3 => ?_)
  refine zk g3 (fun v1006 h1007 g4 => ?_)
  exact zqn (v1006, (w64 (s7_9 + 1))) [] [(19, 10, 3, .q (.d (.pin (zp v1004))))] [(19, 1000008, (.nor, zoc p0 v3 s7_6 s7_9 true)), (19, 1000011, (.nor, zlc p0 v3 s7_6 s7_9 v1004 v1006))] g4 (ob (zIh k p0 v3 s7_6 s7_9 _ h1002) (ob (o_ia (e := zp) 5 h1005 rfl) (ob (zJl k p0 v3 s7_6 s7_9 v1004 _ h1007) ob0))) (by kernel_rfl)
 ·subst h1003
  exact zqo [] [(19, 1000008, (.nor, zoc p0 v3 s7_6 s7_9 false))] g2 (ob (zIh k p0 v3 s7_6 s7_9 _ h1002) ob0) (by kernel_rfl)
noncomputable def zsB (p0 : za) (s12_6 : Bool) (v3 v5 : zt1) (s12_11 : Int) (r : Bool) : TM := [(0, (.d (.agg (zb p0)))), (zsp 1), (2, (xi 0)), (3, (xb s12_6)), (4, (xi v3.2)), (46, (xb false)), (6, (xi v5.2)), (71, (xb false)), (8, (xi s12_11)), (103, (xb r))]
noncomputable def zsc (p0 : za) (v3 v5 : zt1) (s12_6 : Bool) (s12_11 : Int) (r : Bool) : St := ⟨(zsB p0 s12_6 v3 v5 s12_11 r), ⟨[(zc 1 (zb p0))], []⟩, []⟩
noncomputable def zDw (p0 : za) (s12_6 : Bool) (v3 v5 : zt1) (s12_11 : Int) : TM := [(0, (.d (.agg (zb p0)))), (zsp 1), (2, (xi 0)), (3, (xb s12_6)), (4, (xi v3.2)), (46, (xb false)), (6, (xi v5.2)), (71, (xb false)), (8, (xi s12_11))]
theorem zBh (k : Nat) (p0 : za) (v3 v5 : zt1) (s12_6 : Bool) (s12_11 : Int) (r : Bool) (h : zMb k p0 v3 v5 s12_6 s12_11 = some r) : ev TE 19 (rgn TE 19 13) ⟨(zDw p0 s12_6 v3 v5 s12_11), ⟨[(zc 1 (zb p0))], []⟩, []⟩ = some (.nor, zsc p0 v3 v5 s12_6 s12_11 r) := by
 unfold zMb at h
 refine zn h (fun h1601 g1 => ?_) (fun h1601 g1 => ?_)
 ·exact zA (g := fun r => (Ex.nor, zsc p0 v3 v5 s12_6 s12_11 r)) g1 (zqe [(19, 13, 1, .q (xb true)), (19, 13, 5, .q (xi (p0.Deliveries.1.length : Int)))] [] (ob (o_b h1601) (ob (zy zh p0.Deliveries.1) ob0)) (by kernel_rfl))
 ·exact zA (g := fun r => (Ex.nor, zsc p0 v3 v5 s12_6 s12_11 r)) g1 (zqe [(19, 13, 1, .q (xb false))] [] (ob (o_b h1601) ob0) (by kernel_rfl))
noncomputable def zPB (p0 : za) (r : Bool) (v3 v5 : zt1) (s12_11 : Int) : TM := zst p0 r ++ [(4, (xi v3.2)), (46, (xb false)), (6, (xi v5.2)), (71, (xb false)), (8, (xi s12_11)), (103, (xb true)), (zsp 9)]
noncomputable def znc (p0 : za) (v3 v5 : zt1) (s12_6 : Bool) (s12_11 : Int) (v1504 : zt) (r : Bool) : St := ⟨(zPB p0 r v3 v5 s12_11), ⟨[(zc 1 (zb p0)), (zc 9 (zh v1504))], []⟩, []⟩
theorem zIl (k : Nat) (p0 : za) (v3 v5 : zt1) (s12_6 : Bool) (s12_11 : Int) (v1504 : zt) (r : Bool) (h : zWc k p0 v3 v5 s12_6 s12_11 v1504 = some r) : ev TE 19 (rgn TE 19 16) ⟨(zDw p0 s12_6 v3 v5 s12_11 ++ [(103, (xb true)), (zsp 9)]), ⟨[(zc 1 (zb p0)), (zc 9 (zh v1504))], []⟩, []⟩ = some (.nor, znc p0 v3 v5 s12_6 s12_11 v1504 r) := by
 unfold zWc at h
 refine zk h (fun v1701 h1702 g1 => ?_)
 refine zn g1 (fun h1703 g2 => ?_) (fun h1703 g2 => ?_)
 ·refine zk g2 (fun v1704 h1705 g3 => ?_)
  refine zn g3 (fun h1706 g4 => ?_) (fun h1706 g4 => ?_)
  ·refine zk g4 (fun v1707 h1708 g5 => ?_)
   exact zA (g := fun r => (Ex.nor, znc p0 v3 v5 s12_6 s12_11 v1504 r)) g5 (zqe [(19, 16, 3, .c (db v1701)), (19, 16, 4, .q (xb true)), (19, 16, 10, .c (db v1704)), (19, 16, 12, .q (xb true)), (19, 16, 15, .c (db v1707))] [] (ob (zgb k p0 v1504.Shelf _ h1702) (ob (o_b h1703) (ob (zTc k v1504.Days 0 (w64 (p0.Days - 1)) _ h1705) (ob (o_b h1706) (ob (zTc k v1504.By 0 60 _ h1708) ob0))))) (by kernel_rfl))
  ·exact zA (g := fun r => (Ex.nor, znc p0 v3 v5 s12_6 s12_11 v1504 r)) g4 (zqe [(19, 16, 3, .c (db v1701)), (19, 16, 4, .q (xb true)), (19, 16, 10, .c (db v1704)), (19, 16, 12, .q (xb false))] [] (ob (zgb k p0 v1504.Shelf _ h1702) (ob (o_b h1703) (ob (zTc k v1504.Days 0 (w64 (p0.Days - 1)) _ h1705) (ob (o_b h1706) ob0)))) (by kernel_rfl))
 ·exact zA (g := fun r => (Ex.nor, znc p0 v3 v5 s12_6 s12_11 v1504 r)) g2 (zqe [(19, 16, 3, .c (db v1701)), (19, 16, 4, .q (xb false))] [] (ob (zgb k p0 v1504.Shelf _ h1702) (ob (o_b h1703) ob0)) (by kernel_rfl))
noncomputable def zxm (p0 : za) (v3 v5 : zt1) (s12_6 : Bool) (s12_11 : Int) : St := ⟨(zDw p0 s12_6 v3 v5 s12_11), ⟨[(zc 1 (zb p0))], []⟩, []⟩
noncomputable def zIC (p0 : za) (r v3 v5 : zt1) : TM := [(0, (.d (.agg (zb p0)))), (zsp 1), (2, (xi 0)), (3, (xb r.1)), (4, (xi v3.2)), (46, (xb false)), (6, (xi v5.2)), (71, (xb false)), (8, (xi r.2)), (103, (xb false))]
noncomputable def zfc (p0 : za) (v3 v5 r : zt1) : St := ⟨(zIC p0 r v3 v5), ⟨[(zc 1 (zb p0))], []⟩, []⟩
noncomputable def zIm (p0 : za) (v3 v5 : zt1) : (Bool × Int) → Ex × St := fun r => ((.exit 4), zfc p0 v3 v5 r)
theorem zLh (k : Nat) (p0 : za) (v3 v5 : zt1) (s12_6 : Bool) (s12_11 : Int) (x : (Bool × Int) ⊕ (Bool × Int)) (h : zwb k p0 v3 v5 s12_6 s12_11 = some x) : zQ TE 19 (blk TE 19 4) (fun s : (Bool × Int) => zxm p0 v3 v5 s.1 s.2) (zIm p0 v3 v5) (s12_6, s12_11) x := by
 unfold zwb at h
 refine zk h (fun v1501 h1502 g1 => ?_)
 refine zn g1 (fun h1503 g2 => ?_) (fun h1503 g2 => ?_)
 ·subst h1503
  refine zk g2 (fun v1504 h1505 g3 => ?_)
  refine zk g3 (fun v1506 h1507 g4 => ?_)
  exact zqn (v1506, (w64 (s12_11 + 1))) [] [(19, 15, 3, .q (.d (.pin (zh v1504))))] [(19, 1000013, (.nor, zsc p0 v3 v5 s12_6 s12_11 true)), (19, 1000016, (.nor, znc p0 v3 v5 s12_6 s12_11 v1504 v1506))] g4 (ob (zBh k p0 v3 v5 s12_6 s12_11 _ h1502) (ob (o_ia (e := zh) 5 h1505 rfl) (ob (zIl k p0 v3 v5 s12_6 s12_11 v1504 _ h1507) ob0))) (by kernel_rfl)
 ·subst h1503
  exact zqo [] [(19, 1000013, (.nor, zsc p0 v3 v5 s12_6 s12_11 false))] g2 (ob (zBh k p0 v3 v5 s12_6 s12_11 _ h1502) ob0) (by kernel_rfl)
noncomputable def zhC (p0 : za) (s17_6 : Bool) (v3 v5 v7 : zt1) (s17_13 : Int) (r : Bool) : TM := [(0, (.d (.agg (zb p0)))), (zsp 1), (2, (xi 0)), (3, (xb s17_6)), (4, (xi v3.2)), (46, (xb false)), (6, (xi v5.2)), (71, (xb false)), (8, (xi v7.2)), (103, (xb false)), (10, (xi s17_13)), (135, (xb r))]
noncomputable def zkc (p0 : za) (v3 v5 v7 : zt1) (s17_6 : Bool) (s17_13 : Int) (r : Bool) : St := ⟨(zhC p0 s17_6 v3 v5 v7 s17_13 r), ⟨[(zc 1 (zb p0))], []⟩, []⟩
noncomputable def zJw (p0 : za) (s17_6 : Bool) (v3 v5 v7 : zt1) (s17_13 : Int) : TM := [(0, (.d (.agg (zb p0)))), (zsp 1), (2, (xi 0)), (3, (xb s17_6)), (4, (xi v3.2)), (46, (xb false)), (6, (xi v5.2)), (71, (xb false)), (8, (xi v7.2)), (103, (xb false)), (10, (xi s17_13))]
theorem zJh (k : Nat) (p0 : za) (v3 v5 v7 : zt1) (s17_6 : Bool) (s17_13 : Int) (r : Bool) (h : zJb k p0 v3 v5 v7 s17_6 s17_13 = some r) : ev TE 19 (rgn TE 19 18) ⟨(zJw p0 s17_6 v3 v5 v7 s17_13), ⟨[(zc 1 (zb p0))], []⟩, []⟩ = some (.nor, zkc p0 v3 v5 v7 s17_6 s17_13 r) := by
 unfold zJb at h
 refine zn h (fun h2101 g1 => ?_) (fun h2101 g1 => ?_)
 ·exact zA (g := fun r => (Ex.nor, zkc p0 v3 v5 v7 s17_6 s17_13 r)) g1 (zqe [(19, 18, 1, .q (xb true)), (19, 18, 5, .q (xi (p0.Counts.1.length : Int)))] [] (ob (o_b h2101) (ob (zy zj p0.Counts.1) ob0)) (by kernel_rfl))
 ·exact zA (g := fun r => (Ex.nor, zkc p0 v3 v5 v7 s17_6 s17_13 r)) g1 (zqe [(19, 18, 1, .q (xb false))] [] (ob (o_b h2101) ob0) (by kernel_rfl))
noncomputable def zrB (p0 : za) (r : Bool) (v3 v5 v7 : zt1) (s17_13 : Int) : TM := zst p0 r ++ [(4, (xi v3.2)), (46, (xb false)), (6, (xi v5.2)), (71, (xb false)), (8, (xi v7.2)), (103, (xb false)), (10, (xi s17_13)), (135, (xb true)), (zsp 11)]
noncomputable def zTb (p0 : za) (v3 v5 v7 : zt1) (s17_6 : Bool) (s17_13 : Int) (v2004 : zq) (r : Bool) : St := ⟨(zrB p0 r v3 v5 v7 s17_13), ⟨[(zc 1 (zb p0)), (zc 11 (zj v2004))], []⟩, []⟩
theorem z7l (k : Nat) (p0 : za) (v3 v5 v7 : zt1) (s17_6 : Bool) (s17_13 : Int) (v2004 : zq) (r : Bool) (h : zXc k p0 v3 v5 v7 s17_6 s17_13 v2004 = some r) : ev TE 19 (rgn TE 19 21) ⟨(zJw p0 s17_6 v3 v5 v7 s17_13 ++ [(135, (xb true)), (zsp 11)]), ⟨[(zc 1 (zb p0)), (zc 11 (zj v2004))], []⟩, []⟩ = some (.nor, zTb p0 v3 v5 v7 s17_6 s17_13 v2004 r) := by
 unfold zXc at h
 refine zk h (fun v2201 h2202 g1 => ?_)
 refine zn g1 (fun h2203 g2 => ?_) (fun h2203 g2 => ?_)
 ·refine zk g2 (fun v2204 h2205 g3 => ?_)
  refine zn g3 (fun h2206 g4 => ?_) (fun h2206 g4 => ?_)
  ·refine zk g4 (fun v2207 h2208 g5 => ?_)
   refine zn g5 (fun h2209 g6 => ?_) (fun h2209 g6 => ?_)
   ·refine zk g6 (fun v2210 h2211 g7 => ?_)
    exact zA (g := fun r => (Ex.nor, zTb p0 v3 v5 v7 s17_6 s17_13 v2004 r)) g7 (zqe [(19, 21, 5, .c (db v2201)), (19, 21, 6, .q (xb true)), (19, 21, 10, .c (db v2204)), (19, 21, 12, .q (xb true)), (19, 21, 15, .c (db v2207)), (19, 21, 17, .q (xb true)), (19, 21, 20, .c (db v2210))] [] (ob (zN k v2004.Day 0 (w64 (p0.Days - 1)) _ h2202) (ob (o_b h2203) (ob (zgb k p0 v2004.Shelf _ h2205) (ob (o_b h2206) (ob (zN k v2004.Read 0 60 _ h2208) (ob (o_b h2209) (ob (zN k v2004.Err 0 20 _ h2211) ob0))))))) (by kernel_rfl))
   ·exact zA (g := fun r => (Ex.nor, zTb p0 v3 v5 v7 s17_6 s17_13 v2004 r)) g6 (zqe [(19, 21, 5, .c (db v2201)), (19, 21, 6, .q (xb true)), (19, 21, 10, .c (db v2204)), (19, 21, 12, .q (xb true)), (19, 21, 15, .c (db v2207)), (19, 21, 17, .q (xb false))] [] (ob (zN k v2004.Day 0 (w64 (p0.Days - 1)) _ h2202) (ob (o_b h2203) (ob (zgb k p0 v2004.Shelf _ h2205) (ob (o_b h2206) (ob (zN k v2004.Read 0 60 _ h2208) (ob (o_b h2209) ob0)))))) (by kernel_rfl))
  ·exact zA (g := fun r => (Ex.nor, zTb p0 v3 v5 v7 s17_6 s17_13 v2004 r)) g4 (zqe [(19, 21, 5, .c (db v2201)), (19, 21, 6, .q (xb true)), (19, 21, 10, .c (db v2204)), (19, 21, 12, .q (xb false))] [] (ob (zN k v2004.Day 0 (w64 (p0.Days - 1)) _ h2202) (ob (o_b h2203) (ob (zgb k p0 v2004.Shelf _ h2205) (ob (o_b h2206) ob0)))) (by kernel_rfl))
 ·exact zA (g := fun r => (Ex.nor, zTb p0 v3 v5 v7 s17_6 s17_13 v2004 r)) g2 (zqe [(19, 21, 5, .c (db v2201)), (19, 21, 6, .q (xb false))] [] (ob (zN k v2004.Day 0 (w64 (p0.Days - 1)) _ h2202) (ob (o_b h2203) ob0)) (by kernel_rfl))
noncomputable def zRm (p0 : za) (v3 v5 v7 : zt1) (s17_6 : Bool) (s17_13 : Int) : St := ⟨(zJw p0 s17_6 v3 v5 v7 s17_13), ⟨[(zc 1 (zb p0))], []⟩, []⟩
noncomputable def zoB (p0 : za) (r v3 v5 v7 : zt1) : TM := [(0, (.d (.agg (zb p0)))), (zsp 1), (2, (xi 0)), (3, (xb r.1)), (4, (xi v3.2)), (46, (xb false)), (6, (xi v5.2)), (71, (xb false)), (8, (xi v7.2)), (103, (xb false)), (10, (xi r.2)), (135, (xb false))]
noncomputable def zbc (p0 : za) (v3 v5 v7 r : zt1) : St := ⟨(zoB p0 r v3 v5 v7), ⟨[(zc 1 (zb p0))], []⟩, []⟩
noncomputable def zOm (p0 : za) (v3 v5 v7 : zt1) : (Bool × Int) → Ex × St := fun r => ((.exit 6), zbc p0 v3 v5 v7 r)
theorem zHh (k : Nat) (p0 : za) (v3 v5 v7 : zt1) (s17_6 : Bool) (s17_13 : Int) (x : (Bool × Int) ⊕ (Bool × Int)) (h : zvb k p0 v3 v5 v7 s17_6 s17_13 = some x) : zQ TE 19 (blk TE 19 6) (fun s : (Bool × Int) => zRm p0 v3 v5 v7 s.1 s.2) (zOm p0 v3 v5 v7) (s17_6, s17_13) x := by
 unfold zvb at h
 refine zk h (fun v2001 h2002 g1 => ?_)
 refine zn g1 (fun h2003 g2 => ?_) (fun h2003 g2 => ?_)
 ·subst h2003
  refine zk g2 (fun v2004 h2005 g3 => ?_)
  refine zk g3 (fun v2006 h2007 g4 => ?_)
  exact zqn (v2006, (w64 (s17_13 + 1))) [] [(19, 20, 3, .q (.d (.pin (zj v2004))))] [(19, 1000018, (.nor, zkc p0 v3 v5 v7 s17_6 s17_13 true)), (19, 1000021, (.nor, zTb p0 v3 v5 v7 s17_6 s17_13 v2004 v2006))] g4 (ob (zJh k p0 v3 v5 v7 s17_6 s17_13 _ h2002) (ob (o_ia (e := zj) 4 h2005 rfl) (ob (z7l k p0 v3 v5 v7 s17_6 s17_13 v2004 _ h2007) ob0))) (by kernel_rfl)
 ·subst h2003
  exact zqo [] [(19, 1000018, (.nor, zkc p0 v3 v5 v7 s17_6 s17_13 false))] g2 (ob (zJh k p0 v3 v5 v7 s17_6 s17_13 _ h2002) ob0) (by kernel_rfl)
theorem zAe (k : Nat) (p0 : za) (r : Int) (h : z5c k p0 = some r) : zM TE (ev TE) 19 [(.agg (zb p0))] = some (z2g r) := by
 unfold z5c at h
 refine zk h (fun v1 h2 g1 => ?_)
 refine zk g1 (fun v3 h4 g2 => ?_)
 refine zk g2 (fun v5 h6 g3 => ?_)
 refine zk g3 (fun v7 h8 g4 => ?_)
 refine zk g4 (fun v9 h10 g5 => ?_)
 refine zn g5 (fun h11 g6 => ?_) (fun h11 g6 => ?_)
 ·exact zJ (g := z2g) g6 (zqc [(19, 22, 1, .q (xb true))] [(19, 1000001, (.nor, zsb p0 v1)), (19, 0, (.nor, zmc p0 v3)), (19, 2, (.nor, zrc p0 v3 v5)), (19, 4, (.nor, zfc p0 v3 v5 v7)), (19, 6, (.nor, zbc p0 v3 v5 v7 v9))] (ob (zXh k p0 _ h2) (ob (zG (id := 0) (r' := (.nor, zmc p0 v3)) (zib (zYh k p0) k _ _ h4) rfl) (ob (zG (id := 2) (r' := (.nor, zrc p0 v3 v5)) (zib (zRh k p0 v3) k _ _ h6) rfl) (ob (zG (id := 4) (r' := (.nor, zfc p0 v3 v5 v7)) (zib (zLh k p0 v3 v5) k _ _ h8) rfl) (ob (zG (id := 6) (r' := (.nor, zbc p0 v3 v5 v7 v9)) (zib (zHh k p0 v3 v5 v7) k _ _ h10) rfl) (ob (o_b h11) ob0)))))) (by kernel_rfl))
 ·exact zJ (g := z2g) g6 (zqc [(19, 22, 1, .q (xb false))] [(19, 1000001, (.nor, zsb p0 v1)), (19, 0, (.nor, zmc p0 v3)), (19, 2, (.nor, zrc p0 v3 v5)), (19, 4, (.nor, zfc p0 v3 v5 v7)), (19, 6, (.nor, zbc p0 v3 v5 v7 v9))] (ob (zXh k p0 _ h2) (ob (zG (id := 0) (r' := (.nor, zmc p0 v3)) (zib (zYh k p0) k _ _ h4) rfl) (ob (zG (id := 2) (r' := (.nor, zrc p0 v3 v5)) (zib (zRh k p0 v3) k _ _ h6) rfl) (ob (zG (id := 4) (r' := (.nor, zfc p0 v3 v5 v7)) (zib (zLh k p0 v3 v5) k _ _ h8) rfl) (ob (zG (id := 6) (r' := (.nor, zbc p0 v3 v5 v7 v9)) (zib (zHh k p0 v3 v5 v7) k _ _ h10) rfl) (ob (o_b h11) ob0)))))) (by kernel_rfl))
theorem zcp (k : Nat) (p0 : (SL Int)) (p1 : Int) (r : (SL Int)) (h : zLe k p0 p1 = some r) : zM TE (ev TE) 88 [(dl eI p0.1 p0.2), (di p1)] = some (z4j r) := by
 unfold zLe at h
 refine zT h (fun h1 g1 => ?_)
 refine zT g1 (fun h2 g2 => ?_)
 exact zJ (g := z4j) g2 (zqr [(88, 1, 2, .ns (p0.1.map eI) p0.1.length), (88, 1, 5, .ap (p0.1 ++ [p1]).length (rowO false 1 eI (p0.1 ++ [p1]) true))] [] [(dl eI (p0.1 ++ [p1]) (rcap false (p0.1 ++ [p1])))] (ob (zdt p0.1 eI) (ob (o_ns (P := TE.P) (φ := fun _ _ => none) (T := 42) (q := (1, [(di 0)])) (c := p0.2) (e := eI) p0.1 (by kernel_rfl) (fun _ => rfl) h1) (ob (rfl : (([] : List (List D)).isEmpty || !(p0.1.map eI).isEmpty) = true) (ob (o_ap (b := false) (z := 1) (e := eI) (l := p0.1) (w := true) p1 (fun _ => rfl) h2) (ob (show zpc ⟨[(7, (rowO false 1 eI (p0.1 ++ [p1]) true))], []⟩ _ = _ from (o_s1 (x := (.row 0 7 (p0.1 ++ [p1]).length)) (zAj false 1 eI (p0.1 ++ [p1]) true rfl) o_s0)) ob0))))) (by kernel_rfl))
noncomputable def zKC (p0 : za) (p1 : Int) (s1_7 : (SL (SL Int))) (s1_8 : Int) (r : zt4) : TM := [(0, (.d (.agg (zb p0)))), (1, (xi p1)), (zsp 2), (4, (.d (.sl [] .nil))), (5, (.d (dl (eL eI) s1_7.1 s1_7.2))), (6, (xi s1_8)), (17, (xb true)), (zsp 7), (8, (xi r.1)), (31, (xb r.2))]
noncomputable def z7d (p0 : za) (p1 : Int) (s1_7 : (SL (SL Int))) (s1_8 : Int) (v702 : zt) (cb : Bool) (r : zt4) : St := ⟨(zKC p0 p1 s1_7 s1_8 r), ⟨[(zc 2 (zb p0)), (zc 7 (zh v702))], []⟩, []⟩
noncomputable def zRC (p0 : za) (p1 : Int) (s1_7 : (SL (SL Int))) (s1_8 : Int) (v702 : zt) (cb : Bool) : TM := [(0, (.d (.agg (zb p0)))), (1, (xi p1)), (zsp 2), (4, (.d (.sl [] .nil))), (5, (.d (dl (eL eI) s1_7.1 s1_7.2))), (6, (xi s1_8)), (17, (xb true)), (zsp 7), (8, (xi v702.Days.High)), (31, (xb cb))]
theorem z0m (k : Nat) (p0 : za) (p1 : Int) (s1_7 : (SL (SL Int))) (s1_8 : Int) (v702 : zt) (cb : Bool) (r : zt4) (h : zUe k p0 p1 s1_7 s1_8 v702 cb = some r) : ev TE 72 (cnd TE 72 31) ⟨(zRC p0 p1 s1_7 s1_8 v702 cb), ⟨[(zc 2 (zb p0)), (zc 7 (zh v702))], []⟩, []⟩ = some (.nor, z7d p0 p1 s1_7 s1_8 v702 cb r) := by
 unfold zUe at h
 refine zn h (fun h801 g1 => ?_) (fun h801 g1 => ?_)
 ·subst h801
  exact zA (g := fun r => (Ex.nor, z7d p0 p1 s1_7 s1_8 v702 true r)) g1 (zqe [] [] ob0 (by kernel_rfl))
 ·subst h801
  exact zA (g := fun r => (Ex.nor, z7d p0 p1 s1_7 s1_8 v702 false r)) g1 (zqe [] [] ob0 (by kernel_rfl))
noncomputable def z9B (p0 : za) (p1 : Int) (s1_7 : (SL (SL Int))) (s1_8 : Int) (v704 : zt4) (s11_25 : (List (SL Int))) (s8_12 s11_14 : Int) : TM := [(0, (.d (.agg (zb p0)))), (1, (xi p1)), (zsp 2), (4, (.d (.sl [] .nil))), (5, (.d (dl (eL eI) s1_7.1 s1_7.2))), (6, (xi s1_8)), (17, (xb true)), (zsp 7), (8, (xi v704.1)), (31, (xb v704.2)), (9, (.row 0 9 s11_25.length)), (10, (xi s8_12)), (38, (xb true)), (11, (xi s11_14))]
noncomputable def zfn (p0 : za) (p1 : Int) (s1_7 : (SL (SL Int))) (s1_8 : Int) (v702 : zt) (v704 : zt4) (s8_12 s11_14 : Int) (s11_25 : (List (SL Int))) : St := ⟨(z9B p0 p1 s1_7 s1_8 v704 s11_25 s8_12 s11_14), ⟨[(zc 2 (zb p0)), (zc 7 (zh v702)), (9, (rowO true 1 (eL eI) s11_25 true))], []⟩, []⟩
noncomputable def zFB (p0 : za) (p1 : Int) (s1_7 : (SL (SL Int))) (s1_8 : Int) (v704 : zt4) (r : (Int × (List (SL Int)))) (s8_12 : Int) : TM := [(0, (.d (.agg (zb p0)))), (1, (xi p1)), (zsp 2), (4, (.d (.sl [] .nil))), (5, (.d (dl (eL eI) s1_7.1 s1_7.2))), (6, (xi s1_8)), (17, (xb true)), (zsp 7), (8, (xi v704.1)), (31, (xb v704.2)), (9, (.row 0 9 r.2.length)), (10, (xi s8_12)), (38, (xb true)), (11, (xi r.1)), (46, (xb false))]
noncomputable def zpf (p0 : za) (p1 : Int) (s1_7 : (SL (SL Int))) (s1_8 : Int) (v702 : zt) (v704 : zt4) (s8_12 : Int) (r : (Int × (List (SL Int)))) : St := ⟨(zFB p0 p1 s1_7 s1_8 v704 r s8_12), ⟨[(zc 2 (zb p0)), (zc 7 (zh v702)), (9, (rowO true 1 (eL eI) r.2 true))], []⟩, []⟩
noncomputable def zmn (p0 : za) (p1 : Int) (s1_7 : (SL (SL Int))) (s1_8 : Int) (v702 : zt) (v704 : zt4) (s8_12 : Int) : (Int × (List (SL Int))) → Ex × St := fun r => ((.exit 4), zpf p0 p1 s1_7 s1_8 v702 v704 s8_12 r)
theorem zLm (k : Nat) (p0 : za) (p1 : Int) (s1_7 : (SL (SL Int))) (s1_8 : Int) (v702 : zt) (v704 : zt4) (s8_12 s11_14 : Int) (s11_25 : (List (SL Int))) (x : (Int × (List (SL Int))) ⊕ (Int × (List (SL Int)))) (h : zhc k p0 p1 s1_7 s1_8 v702 v704 s8_12 s11_14 s11_25 = some x) : zQ TE 72 (blk TE 72 4) (fun s : (Int × (List (SL Int))) => zfn p0 p1 s1_7 s1_8 v702 v704 s8_12 s.1 s.2) (zmn p0 p1 s1_7 s1_8 v702 v704 s8_12) (s11_14, s11_25) x := by
 unfold zhc at h
 refine zn h (fun h1201 g1 => ?_) (fun h1201 g1 => ?_)
 ·refine zk g1 (fun v1202 h1203 g2 => ?_)
  refine zk g2 (fun v1204 h1205 g3 => ?_)
  refine zT g3 (fun h1206 g4 => ?_)
  exact zqn ((w64 (s11_14 + 1)), (s11_25 ++ [v1204])) [9] [(72, 14, 2, .q (xb true)), (72, 16, 3, .q (.d (.pin [(dl eI v1202.1 v1202.2)]))), (72, 16, 6, .c (dl eI v1204.1 v1204.2)), (72, 16, 8, .ap (s11_25 ++ [v1204]).length (rowO true 1 (eL eI) (s11_25 ++ [v1204]) true))] [] g4 (ob (o_b h1201) (ob (o_ia (e := (eL eI)) 1 h1203 rfl) (ob (zcp k v1202 s11_14 _ h1205) (ob (o_ap (b := true) (z := 1) (e := (eL eI)) (l := s11_25) (w := true) v1204 (fun _ => rfl) h1206) (ob (zgc true 1 (eL eI) (s11_25 ++ [v1204]) true) ob0))))) (by kernel_rfl)
 ·exact zqo [(72, 14, 2, .q (xb false))] [] g1 (ob (o_b h1201) ob0) (by kernel_rfl)
noncomputable def zgC (p0 : za) (p1 : Int) (s1_7 : (SL (SL Int))) (s1_8 : Int) (v704 : zt4) (s8_23 : (List (SL Int))) (s8_12 : Int) : TM := [(0, (.d (.agg (zb p0)))), (1, (xi p1)), (zsp 2), (4, (.d (.sl [] .nil))), (5, (.d (dl (eL eI) s1_7.1 s1_7.2))), (6, (xi s1_8)), (17, (xb true)), (zsp 7), (8, (xi v704.1)), (31, (xb v704.2)), (9, (.row 0 9 s8_23.length)), (10, (xi s8_12))]
noncomputable def zKn (p0 : za) (p1 : Int) (s1_7 : (SL (SL Int))) (s1_8 : Int) (v702 : zt) (v704 : zt4) (s8_12 : Int) (s8_23 : (List (SL Int))) : St := ⟨(zgC p0 p1 s1_7 s1_8 v704 s8_23 s8_12), ⟨[(zc 2 (zb p0)), (zc 7 (zh v702)), (9, (rowO true 1 (eL eI) s8_23 true))], []⟩, []⟩
noncomputable def zjB (p0 : za) (p1 : Int) (s1_7 : (SL (SL Int))) (s1_8 : Int) (v704 : zt4) (r : (Int × (List (SL Int)))) : TM := [(0, (.d (.agg (zb p0)))), (1, (xi p1)), (zsp 2), (4, (.d (.sl [] .nil))), (5, (.d (dl (eL eI) s1_7.1 s1_7.2))), (6, (xi s1_8)), (17, (xb true)), (zsp 7), (8, (xi v704.1)), (31, (xb v704.2)), (9, (.row 0 9 r.2.length)), (10, (xi r.1)), (38, (xb false))]
noncomputable def zCf (p0 : za) (p1 : Int) (s1_7 : (SL (SL Int))) (s1_8 : Int) (v702 : zt) (v704 : zt4) (r : (Int × (List (SL Int)))) : St := ⟨(zjB p0 p1 s1_7 s1_8 v704 r), ⟨[(zc 2 (zb p0)), (zc 7 (zh v702)), (9, (rowO true 1 (eL eI) r.2 true))], []⟩, []⟩
noncomputable def zZn (p0 : za) (p1 : Int) (s1_7 : (SL (SL Int))) (s1_8 : Int) (v702 : zt) (v704 : zt4) : (Int × (List (SL Int))) → Ex × St := fun r => ((.exit 2), zCf p0 p1 s1_7 s1_8 v702 v704 r)
theorem zrn (k : Nat) (p0 : za) (p1 : Int) (s1_7 : (SL (SL Int))) (s1_8 : Int) (v702 : zt) (v704 : zt4) (s8_12 : Int) (s8_23 : (List (SL Int))) (x : (Int × (List (SL Int))) ⊕ (Int × (List (SL Int)))) (h : zuc k p0 p1 s1_7 s1_8 v702 v704 s8_12 s8_23 = some x) : zQ TE 72 (blk TE 72 2) (fun s : (Int × (List (SL Int))) => zKn p0 p1 s1_7 s1_8 v702 v704 s.1 s.2) (zZn p0 p1 s1_7 s1_8 v702 v704) (s8_12, s8_23) x := by
 unfold zuc at h
 refine zn h (fun h1101 g1 => ?_) (fun h1101 g1 => ?_)
 ·refine zk g1 (fun v1102 h1103 g2 => ?_)
  exact zqn ((w64 (s8_12 + 1)), v1102.2) [9] [(72, 11, 2, .q (xi (s1_7.1.length : Int))), (72, 11, 3, .q (xb true))] [(72, 4, (.nor, zpf p0 p1 s1_7 s1_8 v702 v704 s8_12 v1102))] g2 (ob (zy (eL eI) s1_7.1) (ob (o_b h1101) (ob (zG (id := 4) (r' := (.nor, zpf p0 p1 s1_7 s1_8 v702 v704 s8_12 v1102)) (zib (zLm k p0 p1 s1_7 s1_8 v702 v704 s8_12) k _ _ h1103) rfl) (ob (zgc true 1 (eL eI) v1102.2 true) ob0)))) (by kernel_rfl)
 ·exact zqo [(72, 11, 2, .q (xi (s1_7.1.length : Int))), (72, 11, 3, .q (xb false))] [] g1 (ob (zy (eL eI) s1_7.1) (ob (o_b h1101) ob0)) (by kernel_rfl)
noncomputable def zNC (p0 : za) (p1 : Int) (s1_7 : (SL (SL Int))) (s1_8 : Int) : TM := [(0, (.d (.agg (zb p0)))), (1, (xi p1)), (zsp 2), (4, (.d (.sl [] .nil))), (5, (.d (dl (eL eI) s1_7.1 s1_7.2))), (6, (xi s1_8))]
noncomputable def zUn (p0 : za) (p1 : Int) (s1_7 : (SL (SL Int))) (s1_8 : Int) : St := ⟨(zNC p0 p1 s1_7 s1_8), ⟨[(zc 2 (zb p0))], []⟩, []⟩
noncomputable def zBC (p0 : za) (p1 : Int) (r : ((SL (SL Int)) × Int)) : TM := [(0, (.d (.agg (zb p0)))), (1, (xi p1)), (zsp 2), (4, (.d (.sl [] .nil))), (5, (.d (dl (eL eI) r.1.1 r.1.2))), (6, (xi r.2)), (17, (xb false))]
noncomputable def zPf (p0 : za) (p1 : Int) (r : ((SL (SL Int)) × Int)) : St := ⟨(zBC p0 p1 r), ⟨[(zc 2 (zb p0))], []⟩, []⟩
noncomputable def zWn (p0 : za) (p1 : Int) : ((SL (SL Int)) × Int) → Ex × St := fun r => ((.exit 0), zPf p0 p1 r)
theorem z9m (k : Nat) (p0 : za) (p1 : Int) (s1_7 : (SL (SL Int))) (s1_8 : Int) (x : ((SL (SL Int)) × Int) ⊕ ((SL (SL Int)) × Int)) (h : zJd k p0 p1 s1_7 s1_8 = some x) : zQ TE 72 (blk TE 72 0) (fun s : ((SL (SL Int)) × Int) => zUn p0 p1 s.1 s.2) (zWn p0 p1) (s1_7, s1_8) x := by
 unfold zJd at h
 refine zn h (fun h701 g1 => ?_) (fun h701 g1 => ?_)
 ·refine zk g1 (fun v702 h703 g2 => ?_)
  refine zk g2 (fun v704 h705 g3 => ?_)
  refine zk g3 (fun v706 h707 g4 => ?_)
  exact zqn ((v706.2, (rcap true v706.2)), (w64 (s1_8 + 1))) [] [(72, 3, 3, .q (xi (p0.Deliveries.1.length : Int))), (72, 3, 4, .q (xb true)), (72, 5, 3, .q (.d (.pin (zh v702)))), (72, 17, 1, .fz (dl (eL eI) v706.2 (rcap true v706.2)) (rowO true 1 (eL eI) v706.2 false))] [(72, 2000031, (.nor, z7d p0 p1 s1_7 s1_8 v702 (v702.Shelf != p1) v704)), (72, 2, (.nor, zCf p0 p1 s1_7 s1_8 v702 v704 v706))] g4 (ob (zy zh p0.Deliveries.1) (ob (o_b h701) (ob (o_ia (e := zh) 5 h703 rfl) (ob (z0m k p0 p1 s1_7 s1_8 v702 (v702.Shelf != p1) _ h705) (ob (zG (id := 2) (r' := (.nor, zCf p0 p1 s1_7 s1_8 v702 v704 v706)) (zib (zrn k p0 p1 s1_7 s1_8 v702 v704) k _ _ h707) rfl) (ob (o_cr true 1 (eL eI) v706.2 true 0 9) ob0)))))) (by kernel_rfl)
 ·exact zqo [(72, 3, 3, .q (xi (p0.Deliveries.1.length : Int))), (72, 3, 4, .q (xb false))] [] g1 (ob (zy zh p0.Deliveries.1) (ob (o_b h701) ob0)) (by kernel_rfl)
theorem z0g (k : Nat) (p0 : za) (p1 : Int) (r : (SL (SL Int))) (h : zEd k p0 p1 = some r) : zM TE (ev TE) 72 [(.agg (zb p0)), (di p1)] = some (zik r) := by
 unfold zEd at h
 refine zk h (fun v1 h2 g1 => ?_)
 exact zJ (g := zik) g1 (zqc [] [(72, 0, (.nor, zPf p0 p1 v1))] (ob (zG (id := 0) (r' := (.nor, zPf p0 p1 v1)) (zib (z9m k p0 p1) k _ _ h2) rfl) ob0) (by kernel_rfl))
theorem zL (k : Nat) (p0 p1 : Int) (r : zi) (h : zV k p0 p1 = some r) : zM TE (ev TE) 42 [(di p0), (di p1)] = some (znl r) := by
 unfold zV at h
 exact zJ (g := znl) h (zqc [] [] ob0 (by kernel_rfl))
theorem zdq (k : Nat) (p0 p1 : Int) (r : Bool) (h : zYf k p0 p1 = some r) : zM TE (ev TE) 80 [(di p0), (di p1)] = some (zpl r) := by
 unfold zYf at h
 refine zn h (fun h1 g1 => ?_) (fun h1 g1 => ?_)
 ·cases g1
 ·exact zJ (g := zpl) g1 (zqc [(80, 1, 2, .q (xi (z7 p0 p1)))] [] (ob (zVe (x := p0) h1) ob0) (by kernel_rfl))
theorem z9d (k : Nat) (p0 p1 r : zi) (h : z8b k p0 p1 = some r) : zM TE (ev TE) 69 [(.agg [(di p0.Low), (di p0.High)]), (.agg [(di p1.Low), (di p1.High)])] = some (z2i r) := by
 unfold z8b at h
 refine zk h (fun v1 h2 g1 => ?_)
 exact zJ (g := z2i) g1 (zqc [(69, 1, 10, .c (.agg [(di v1.Low), (di v1.High)]))] [] (ob (zL k (if p1.Low > p0.Low then p1.Low else p0.Low) (if p1.High < p0.High then p1.High else p0.High) _ h2) ob0) (by kernel_rfl))
noncomputable def zfB (p0 : za) (p1 p2 p3 s1_8 : Int) (r : Bool) : TM := [(0, (.d (.agg (zb p0)))), (1, (xi p1)), (2, (xi p2)), (3, (xi p3)), (zsp 4), (zsp 8), (zsp 9), (10, (xi s1_8)), (23, (xb true)), (zsp 11), (46, (xb r))]
noncomputable def zac (p0 : za) (p1 p2 p3 s1_8 s1_16 s1_17 : Int) (v402 : zq) (r : Bool) : St := ⟨(zfB p0 p1 p2 p3 s1_8 r), ⟨[(zc 4 (zb p0)), (8, (.cells [(xi 0), (xi 0)])), (9, (.cells [(xi s1_16), (xi s1_17)])), (zc 11 (zj v402))], []⟩, []⟩
noncomputable def zlx (p0 : za) (p1 p2 p3 s1_8 : Int) : TM := [(0, (.d (.agg (zb p0)))), (1, (xi p1)), (2, (xi p2)), (3, (xi p3)), (zsp 4), (zsp 8), (zsp 9), (10, (xi s1_8)), (23, (xb true)), (zsp 11)]
theorem zsl (k : Nat) (p0 : za) (p1 p2 p3 s1_8 s1_16 s1_17 : Int) (v402 : zq) (r : Bool) (h : zWd k p0 p1 p2 p3 s1_8 s1_16 s1_17 v402 = some r) : ev TE 89 (rgn TE 89 6) ⟨(zlx p0 p1 p2 p3 s1_8), ⟨[(zc 4 (zb p0)), (8, (.cells [(xi 0), (xi 0)])), (9, (.cells [(xi s1_16), (xi s1_17)])), (zc 11 (zj v402))], []⟩, []⟩ = some (.nor, zac p0 p1 p2 p3 s1_8 s1_16 s1_17 v402 r) := by
 unfold zWd at h
 refine zn h (fun h501 g1 => ?_) (fun h501 g1 => ?_)
 ·refine zn g1 (fun h502 g2 => ?_) (fun h502 g2 => ?_)
  ·refine zk g2 (fun v503 h504 g3 => ?_)
   exact zA (g := fun r => (Ex.nor, zac p0 p1 p2 p3 s1_8 s1_16 s1_17 v402 r)) g3 (zqe [(89, 6, 4, .q (xb true)), (89, 6, 10, .q (xb true)), (89, 6, 13, .c (db v503))] [] (ob (o_b h501) (ob (o_b h502) (ob (zdq k p3 s1_8 _ h504) ob0))) (by kernel_rfl))
  ·exact zA (g := fun r => (Ex.nor, zac p0 p1 p2 p3 s1_8 s1_16 s1_17 v402 r)) g2 (zqe [(89, 6, 4, .q (xb true)), (89, 6, 10, .q (xb false))] [] (ob (o_b h501) (ob (o_b h502) ob0)) (by kernel_rfl))
 ·exact zA (g := fun r => (Ex.nor, zac p0 p1 p2 p3 s1_8 s1_16 s1_17 v402 r)) g1 (zqe [(89, 6, 4, .q (xb false))] [] (ob (o_b h501) ob0) (by kernel_rfl))
noncomputable def zpd (p0 : za) (p1 p2 p3 s1_8 s1_16 s1_17 : Int) (v402 : zq) (v404 : Bool) (r : (Bool × Int × Int)) : St := ⟨(zlx p0 p1 p2 p3 s1_8 ++ [(46, (xb r.1))]), ⟨[(zc 4 (zb p0)), (8, (.cells [(xi 0), (xi 0)])), (9, (.cells [(xi r.2.1), (xi r.2.2)])), (zc 11 (zj v402))], []⟩, []⟩
theorem zal (k : Nat) (p0 : za) (p1 p2 p3 s1_8 s1_16 s1_17 : Int) (v402 : zq) (v404 : Bool) (r : (Bool × Int × Int)) (h : zGb k p0 p1 p2 p3 s1_8 s1_16 s1_17 v402 v404 = some r) : ev TE 89 (cnd TE 89 46) ⟨(zlx p0 p1 p2 p3 s1_8 ++ [(46, (xb v404))]), ⟨[(zc 4 (zb p0)), (8, (.cells [(xi 0), (xi 0)])), (9, (.cells [(xi s1_16), (xi s1_17)])), (zc 11 (zj v402))], []⟩, []⟩ = some (.nor, zpd p0 p1 p2 p3 s1_8 s1_16 s1_17 v402 v404 r) := by
 unfold zGb at h
 refine zn h (fun h601 g1 => ?_) (fun h601 g1 => ?_)
 ·subst h601
  refine zk g1 (fun v602 h603 g2 => ?_)
  refine zk g2 (fun v604 h605 g3 => ?_)
  exact zA (g := fun r => (Ex.nor, zpd p0 p1 p2 p3 s1_8 s1_16 s1_17 v402 true r)) g3 (zqe [(89, 7, 11, .c (.agg [(di v602.Low), (di v602.High)])), (89, 7, 12, .c (.agg [(di v604.Low), (di v604.High)]))] [] (ob (zL k (w64 (v402.Read - v402.Err)) (w64 (v402.Read + v402.Err)) _ h603) (ob (z9d k (⟨s1_16, s1_17⟩ : zi) v602 _ h605) ob0)) (by kernel_rfl))
 ·subst h601
  exact zA (g := fun r => (Ex.nor, zpd p0 p1 p2 p3 s1_8 s1_16 s1_17 v402 false r)) g1 (zqe [] [] ob0 (by kernel_rfl))
noncomputable def zmB (p0 : za) (p1 p2 p3 s1_8 : Int) : TM := [(0, (.d (.agg (zb p0)))), (1, (xi p1)), (2, (xi p2)), (3, (xi p3)), (zsp 4), (zsp 8), (zsp 9), (10, (xi s1_8))]
noncomputable def zWl (p0 : za) (p1 p2 p3 s1_8 s1_16 s1_17 : Int) : St := ⟨(zmB p0 p1 p2 p3 s1_8), ⟨[(zc 4 (zb p0)), (8, (.cells [(xi 0), (xi 0)])), (9, (.cells [(xi s1_16), (xi s1_17)]))], []⟩, []⟩
noncomputable def zFC (p0 : za) (p1 p2 p3 : Int) (r : (Int × Int × Int)) : TM := [(0, (.d (.agg (zb p0)))), (1, (xi p1)), (2, (xi p2)), (3, (xi p3)), (zsp 4), (zsp 8), (zsp 9), (10, (xi r.1)), (23, (xb false))]
noncomputable def zCe (p0 : za) (p1 p2 p3 : Int) (r : (Int × Int × Int)) : St := ⟨(zFC p0 p1 p2 p3 r), ⟨[(zc 4 (zb p0)), (8, (.cells [(xi 0), (xi 0)])), (9, (.cells [(xi r.2.1), (xi r.2.2)]))], []⟩, []⟩
noncomputable def zOl (p0 : za) (p1 p2 p3 : Int) : (Int × Int × Int) → Ex × St := fun r => ((.exit 0), zCe p0 p1 p2 p3 r)
theorem zwl (k : Nat) (p0 : za) (p1 p2 p3 s1_8 s1_16 s1_17 : Int) (x : (Int × Int × Int) ⊕ (Int × Int × Int)) (h : zHc k p0 p1 p2 p3 s1_8 s1_16 s1_17 = some x) : zQ TE 89 (blk TE 89 0) (fun s : (Int × Int × Int) => zWl p0 p1 p2 p3 s.1 s.2.1 s.2.2) (zOl p0 p1 p2 p3) (s1_8, s1_16, s1_17) x := by
 unfold zHc at h
 refine zn h (fun h401 g1 => ?_) (fun h401 g1 => ?_)
 ·refine zk g1 (fun v402 h403 g2 => ?_)
  refine zk g2 (fun v404 h405 g3 => ?_)
  refine zk g3 (fun v406 h407 g4 => ?_)
  exact zqn ((w64 (s1_8 + 1)), v406.2.1, v406.2.2) [] [(89, 3, 3, .q (xi (p0.Counts.1.length : Int))), (89, 3, 4, .q (xb true)), (89, 5, 3, .q (.d (.pin (zj v402))))] [(89, 1000006, (.nor, zac p0 p1 p2 p3 s1_8 s1_16 s1_17 v402 v404)), (89, 2000046, (.nor, zpd p0 p1 p2 p3 s1_8 s1_16 s1_17 v402 v404 v406))] g4 (ob (zy zj p0.Counts.1) (ob (o_b h401) (ob (o_ia (e := zj) 4 h403 rfl) (ob (zsl k p0 p1 p2 p3 s1_8 s1_16 s1_17 v402 _ h405) (ob (zal k p0 p1 p2 p3 s1_8 s1_16 s1_17 v402 v404 _ h407) ob0))))) (by kernel_rfl)
 ·exact zqo [(89, 3, 3, .q (xi (p0.Counts.1.length : Int))), (89, 3, 4, .q (xb false))] [] g1 (ob (zy zj p0.Counts.1) (ob (o_b h401) ob0)) (by kernel_rfl)
theorem zei (k : Nat) (p0 : za) (p1 p2 p3 : Int) (r : zi) (h : zvc k p0 p1 p2 p3 = some r) : zM TE (ev TE) 89 [(.agg (zb p0)), (di p1), (di p2), (di p3)] = some (zDi r) := by
 unfold zvc at h
 refine zk h (fun v1 h2 g1 => ?_)
 refine zk g1 (fun v3 h4 g2 => ?_)
 refine zk g2 (fun v5 h6 g3 => ?_)
 exact zJ (g := zDi) g3 (zqc [(89, 1, 3, .q (.d (.pin (zo v1)))), (89, 1, 6, .c (.agg [(di v3.Low), (di v3.High)]))] [(89, 0, (.nor, zCe p0 p1 p2 p3 v5))] (ob (o_ia (e := zo) 3 h2 rfl) (ob (zL k 0 v1.Room _ h4) (ob (zG (id := 0) (r' := (.nor, zCe p0 p1 p2 p3 v5)) (zHA (zwl k p0 p1 p2 p3) k _ _ h6) rfl) ob0))) (by kernel_rfl))
noncomputable def zDB (p0 : za) (p1 : Int) (p2 : (SL Int)) (p3 : Int) (s24_17 : zt6) (s1_9 s24_11 : Int) (r : Bool) : TM := [(0, (.d (.agg (zb p0)))), (1, (xi p1)), (2, (.d (dl eI p2.1 p2.2))), (3, (xi p3)), (zsp 4), (8, (.d (.sl [] .nil))), (9, (.row 0 9 s24_17.length)), (zsp 10), (11, (xi s1_9)), (27, (xb true)), (12, (xi s24_11)), (34, (xb true)), (zsp 13), (53, (xb r))]
noncomputable def zmd (p0 : za) (p1 : Int) (p2 : (SL Int)) (p3 : Int) (v3 : zi) (s1_9 s24_11 : Int) (s24_17 : zt6) (v2702 : zt) (r : Bool) : St := ⟨(zDB p0 p1 p2 p3 s24_17 s1_9 s24_11 r), ⟨[(zc 4 (zb p0)), (9, (rowO true 6 zm s24_17 true)), (10, (.cells [(xi v3.Low), (xi v3.High)])), (zc 13 (zh v2702))], []⟩, []⟩
noncomputable def zGz (p0 : za) (p1 : Int) (p2 : (SL Int)) (p3 : Int) (s24_17 : zt6) (s1_9 s24_11 : Int) : TM := [(0, (.d (.agg (zb p0)))), (1, (xi p1)), (2, (.d (dl eI p2.1 p2.2))), (3, (xi p3)), (zsp 4), (8, (.d (.sl [] .nil))), (9, (.row 0 9 s24_17.length)), (zsp 10), (11, (xi s1_9)), (27, (xb true)), (12, (xi s24_11)), (34, (xb true)), (zsp 13)]
theorem zAl (k : Nat) (p0 : za) (p1 : Int) (p2 : (SL Int)) (p3 : Int) (v3 : zi) (s1_9 s24_11 : Int) (s24_17 : zt6) (v2702 : zt) (r : Bool) (h : zPd k p0 p1 p2 p3 v3 s1_9 s24_11 s24_17 v2702 = some r) : ev TE 73 (rgn TE 73 10) ⟨(zGz p0 p1 p2 p3 s24_17 s1_9 s24_11), ⟨[(zc 4 (zb p0)), (9, (rowO true 6 zm s24_17 true)), (10, (.cells [(xi v3.Low), (xi v3.High)])), (zc 13 (zh v2702))], []⟩, []⟩ = some (.nor, zmd p0 p1 p2 p3 v3 s1_9 s24_11 s24_17 v2702 r) := by
 unfold zPd at h
 refine zn h (fun h2801 g1 => ?_) (fun h2801 g1 => ?_)
 ·refine zk g1 (fun v2802 h2803 g2 => ?_)
  exact zA (g := fun r => (Ex.nor, zmd p0 p1 p2 p3 v3 s1_9 s24_11 s24_17 v2702 r)) g2 (zqe [(73, 10, 4, .q (xb true)), (73, 10, 7, .q (.d (.pin [(di v2802)])))] [] (ob (o_b h2801) (ob (o_ia (e := eI) 1 h2803 rfl) ob0)) (by kernel_rfl))
 ·exact zA (g := fun r => (Ex.nor, zmd p0 p1 p2 p3 v3 s1_9 s24_11 s24_17 v2702 r)) g1 (zqe [(73, 10, 4, .q (xb false))] [] (ob (o_b h2801) ob0) (by kernel_rfl))
noncomputable def znB (p0 : za) (p1 : Int) (p2 : (SL Int)) (p3 : Int) (r : zt15) (s1_9 s24_11 : Int) : TM := [(0, (.d (.agg (zb p0)))), (1, (xi p1)), (2, (.d (dl eI p2.1 p2.2))), (3, (xi p3)), (zsp 4), (8, (.d (.sl [] .nil))), (9, (.row 0 9 r.2.length)), (zsp 10), (11, (xi s1_9)), (27, (xb true)), (12, (xi s24_11)), (34, (xb true)), (zsp 13), (53, (xb r.1))]
noncomputable def zsd (p0 : za) (p1 : Int) (p2 : (SL Int)) (p3 : Int) (v3 : zi) (s1_9 s24_11 : Int) (s24_17 : zt6) (v2702 : zt) (v2704 : Bool) (r : zt15) : St := ⟨(znB p0 p1 p2 p3 r s1_9 s24_11), ⟨[(zc 4 (zb p0)), (9, (rowO true 6 zm r.2 true)), (10, (.cells [(xi v3.Low), (xi v3.High)])), (zc 13 (zh v2702))], []⟩, []⟩
theorem zxl (k : Nat) (p0 : za) (p1 : Int) (p2 : (SL Int)) (p3 : Int) (v3 : zi) (s1_9 s24_11 : Int) (s24_17 : zt6) (v2702 : zt) (v2704 : Bool) (r : zt15) (h : zUb k p0 p1 p2 p3 v3 s1_9 s24_11 s24_17 v2702 v2704 = some r) : ev TE 73 (cnd TE 73 53) ⟨(zGz p0 p1 p2 p3 s24_17 s1_9 s24_11 ++ [(53, (xb v2704))]), ⟨[(zc 4 (zb p0)), (9, (rowO true 6 zm s24_17 true)), (10, (.cells [(xi v3.Low), (xi v3.High)])), (zc 13 (zh v2702))], []⟩, []⟩ = some (.nor, zsd p0 p1 p2 p3 v3 s1_9 s24_11 s24_17 v2702 v2704 r) := by
 unfold zUb at h
 refine zn h (fun h2901 g1 => ?_) (fun h2901 g1 => ?_)
 ·subst h2901
  refine zT g1 (fun h2902 g2 => ?_)
  exact zA (g := fun r => (Ex.nor, zsd p0 p1 p2 p3 v3 s1_9 s24_11 s24_17 v2702 true r)) g2 (zqe [(73, 11, 6, .ap (s24_17 ++ [(⟨v2702.By, v3, (-1), (-1)⟩ : zl)]).length (rowO true 6 zm (s24_17 ++ [(⟨v2702.By, v3, (-1), (-1)⟩ : zl)]) true))] [] (ob (o_ap (b := true) (z := 6) (e := zm) (l := s24_17) (w := true) (⟨v2702.By, v3, (-1), (-1)⟩ : zl) (fun _ => rfl) h2902) ob0) (by kernel_rfl))
 ·subst h2901
  exact zA (g := fun r => (Ex.nor, zsd p0 p1 p2 p3 v3 s1_9 s24_11 s24_17 v2702 false r)) g1 (zqe [] [] ob0 (by kernel_rfl))
noncomputable def zEC (p0 : za) (p1 : Int) (p2 : (SL Int)) (p3 : Int) (s24_17 : zt6) (s1_9 s24_11 : Int) : TM := [(0, (.d (.agg (zb p0)))), (1, (xi p1)), (2, (.d (dl eI p2.1 p2.2))), (3, (xi p3)), (zsp 4), (8, (.d (.sl [] .nil))), (9, (.row 0 9 s24_17.length)), (zsp 10), (11, (xi s1_9)), (27, (xb true)), (12, (xi s24_11))]
noncomputable def z8l (p0 : za) (p1 : Int) (p2 : (SL Int)) (p3 : Int) (v3 : zi) (s1_9 s24_11 : Int) (s24_17 : zt6) : St := ⟨(zEC p0 p1 p2 p3 s24_17 s1_9 s24_11), ⟨[(zc 4 (zb p0)), (9, (rowO true 6 zm s24_17 true)), (10, (.cells [(xi v3.Low), (xi v3.High)]))], []⟩, []⟩
noncomputable def z1A (p0 : za) (p1 : Int) (p2 : (SL Int)) (p3 : Int) (r : zt8) (s1_9 : Int) : TM := [(0, (.d (.agg (zb p0)))), (1, (xi p1)), (2, (.d (dl eI p2.1 p2.2))), (3, (xi p3)), (zsp 4), (8, (.d (.sl [] .nil))), (9, (.row 0 9 r.2.length)), (zsp 10), (11, (xi s1_9)), (27, (xb true)), (12, (xi r.1)), (34, (xb false))]
noncomputable def zKe (p0 : za) (p1 : Int) (p2 : (SL Int)) (p3 : Int) (v3 : zi) (s1_9 : Int) (r : zt8) : St := ⟨(z1A p0 p1 p2 p3 r s1_9), ⟨[(zc 4 (zb p0)), (9, (rowO true 6 zm r.2 true)), (10, (.cells [(xi v3.Low), (xi v3.High)]))], []⟩, []⟩
noncomputable def z5l (p0 : za) (p1 : Int) (p2 : (SL Int)) (p3 : Int) (v3 : zi) (s1_9 : Int) : (Int × (List zl)) → Ex × St := fun r => ((.exit 2), zKe p0 p1 p2 p3 v3 s1_9 r)
theorem zbl (k : Nat) (p0 : za) (p1 : Int) (p2 : (SL Int)) (p3 : Int) (v3 : zi) (s1_9 s24_11 : Int) (s24_17 : zt6) (x : (Int × (List zl)) ⊕ (Int × (List zl))) (h : zVb k p0 p1 p2 p3 v3 s1_9 s24_11 s24_17 = some x) : zQ TE 73 (blk TE 73 2) (fun s : (Int × (List zl)) => z8l p0 p1 p2 p3 v3 s1_9 s.1 s.2) (z5l p0 p1 p2 p3 v3 s1_9) (s24_11, s24_17) x := by
 unfold zVb at h
 refine zn h (fun h2701 g1 => ?_) (fun h2701 g1 => ?_)
 ·refine zk g1 (fun v2702 h2703 g2 => ?_)
  refine zk g2 (fun v2704 h2705 g3 => ?_)
  refine zk g3 (fun v2706 h2707 g4 => ?_)
  exact zqn ((w64 (s24_11 + 1)), v2706.2) [9] [(73, 7, 3, .q (xi (p0.Deliveries.1.length : Int))), (73, 7, 4, .q (xb true)), (73, 9, 3, .q (.d (.pin (zh v2702))))] [(73, 1000010, (.nor, zmd p0 p1 p2 p3 v3 s1_9 s24_11 s24_17 v2702 v2704)), (73, 2000053, (.nor, zsd p0 p1 p2 p3 v3 s1_9 s24_11 s24_17 v2702 v2704 v2706))] g4 (ob (zy zh p0.Deliveries.1) (ob (o_b h2701) (ob (o_ia (e := zh) 5 h2703 rfl) (ob (zAl k p0 p1 p2 p3 v3 s1_9 s24_11 s24_17 v2702 _ h2705) (ob (zxl k p0 p1 p2 p3 v3 s1_9 s24_11 s24_17 v2702 v2704 _ h2707) (ob (zgc true 6 zm v2706.2 true) ob0)))))) (by kernel_rfl)
 ·exact zqo [(73, 7, 3, .q (xi (p0.Deliveries.1.length : Int))), (73, 7, 4, .q (xb false))] [] g1 (ob (zy zh p0.Deliveries.1) (ob (o_b h2701) ob0)) (by kernel_rfl)
noncomputable def zWA (p0 : za) (p1 : Int) (p2 : (SL Int)) (p3 : Int) (s29_19 : zt6) (s1_9 : Int) (v2402 : zt8) (s29_13 : Int) (r : Bool) : TM := [(0, (.d (.agg (zb p0)))), (1, (xi p1)), (2, (.d (dl eI p2.1 p2.2))), (3, (xi p3)), (zsp 4), (8, (.d (.sl [] .nil))), (9, (.row 0 9 s29_19.length)), (zsp 10), (11, (xi s1_9)), (27, (xb true)), (12, (xi v2402.1)), (34, (xb false)), (14, (xi s29_13)), (65, (xb true)), (zsp 15), (82, (xb r))]
noncomputable def zcc (p0 : za) (p1 : Int) (p2 : (SL Int)) (p3 : Int) (v3 : zi) (s1_9 : Int) (v2402 : zt8) (s29_13 : Int) (s29_19 : zt6) (v3202 : zE) (r : Bool) : St := ⟨(zWA p0 p1 p2 p3 s29_19 s1_9 v2402 s29_13 r), ⟨[(zc 4 (zb p0)), (9, (rowO true 6 zm s29_19 true)), (10, (.cells [(xi v3.Low), (xi v3.High)])), (zc 15 (zp v3202))], []⟩, []⟩
noncomputable def zLw (p0 : za) (p1 : Int) (p2 : (SL Int)) (p3 : Int) (s29_19 : zt6) (s1_9 : Int) (v2402 : zt8) (s29_13 : Int) : TM := [(0, (.d (.agg (zb p0)))), (1, (xi p1)), (2, (.d (dl eI p2.1 p2.2))), (3, (xi p3)), (zsp 4), (8, (.d (.sl [] .nil))), (9, (.row 0 9 s29_19.length)), (zsp 10), (11, (xi s1_9)), (27, (xb true)), (12, (xi v2402.1)), (34, (xb false)), (14, (xi s29_13)), (65, (xb true)), (zsp 15)]
theorem zgh (k : Nat) (p0 : za) (p1 : Int) (p2 : (SL Int)) (p3 : Int) (v3 : zi) (s1_9 : Int) (v2402 : zt8) (s29_13 : Int) (s29_19 : zt6) (v3202 : zE) (r : Bool) (h : zZd k p0 p1 p2 p3 v3 s1_9 v2402 s29_13 s29_19 v3202 = some r) : ev TE 73 (rgn TE 73 16) ⟨(zLw p0 p1 p2 p3 s29_19 s1_9 v2402 s29_13), ⟨[(zc 4 (zb p0)), (9, (rowO true 6 zm s29_19 true)), (10, (.cells [(xi v3.Low), (xi v3.High)])), (zc 15 (zp v3202))], []⟩, []⟩ = some (.nor, zcc p0 p1 p2 p3 v3 s1_9 v2402 s29_13 s29_19 v3202 r) := by
 unfold zZd at h
 refine zn h (fun h3301 g1 => ?_) (fun h3301 g1 => ?_)
 ·exact zA (g := fun r => (Ex.nor, zcc p0 p1 p2 p3 v3 s1_9 v2402 s29_13 s29_19 v3202 r)) g1 (zqe [(73, 16, 4, .q (xb true))] [] (ob (o_b h3301) ob0) (by kernel_rfl))
 ·exact zA (g := fun r => (Ex.nor, zcc p0 p1 p2 p3 v3 s1_9 v2402 s29_13 s29_19 v3202 r)) g1 (zqe [(73, 16, 4, .q (xb false))] [] (ob (o_b h3301) ob0) (by kernel_rfl))
noncomputable def znd (p0 : za) (p1 : Int) (p2 : (SL Int)) (p3 : Int) (v3 : zi) (s1_9 : Int) (v2402 : zt8) (s29_13 : Int) (s29_19 : zt6) (v3202 : zE) (cb : Bool) (r : (Bool × Int × Int)) : St := ⟨(zLw p0 p1 p2 p3 s29_19 s1_9 v2402 s29_13 ++ [(82, (xb false)), (zsp 16), (87, (xb r.1))]), ⟨[(zc 4 (zb p0)), (9, (rowO true 6 zm s29_19 true)), (10, (.cells [(xi v3.Low), (xi v3.High)])), (zc 15 (zp v3202)), (16, (.cells [(xi r.2.1), (xi r.2.2)]))], []⟩, []⟩
theorem zol (k : Nat) (p0 : za) (p1 : Int) (p2 : (SL Int)) (p3 : Int) (v3 : zi) (s1_9 : Int) (v2402 : zt8) (s29_13 : Int) (s29_19 : zt6) (v3202 : zE) (cb : Bool) (r : (Bool × Int × Int)) (h : zFc k p0 p1 p2 p3 v3 s1_9 v2402 s29_13 s29_19 v3202 cb = some r) : ev TE 73 (cnd TE 73 87) ⟨(zLw p0 p1 p2 p3 s29_19 s1_9 v2402 s29_13 ++ [(82, (xb false)), (zsp 16), (87, (xb cb))]), ⟨[(zc 4 (zb p0)), (9, (rowO true 6 zm s29_19 true)), (10, (.cells [(xi v3.Low), (xi v3.High)])), (zc 15 (zp v3202)), (16, (.cells [(xi v3202.By.Low), (xi v3202.By.High)]))], []⟩, []⟩ = some (.nor, znd p0 p1 p2 p3 v3 s1_9 v2402 s29_13 s29_19 v3202 cb r) := by
 unfold zFc at h
 refine zn h (fun h3401 g1 => ?_) (fun h3401 g1 => ?_)
 ·subst h3401
  refine zk g1 (fun v3402 h3403 g2 => ?_)
  exact zA (g := fun r => (Ex.nor, znd p0 p1 p2 p3 v3 s1_9 v2402 s29_13 s29_19 v3202 true r)) g2 (zqe [(73, 19, 6, .c (.agg [(di v3402.Low), (di v3402.High)]))] [] (ob (zL k (w64 (0 - v3202.By.High)) (w64 (0 - v3202.By.Low)) _ h3403) ob0) (by kernel_rfl))
 ·subst h3401
  exact zA (g := fun r => (Ex.nor, znd p0 p1 p2 p3 v3 s1_9 v2402 s29_13 s29_19 v3202 false r)) g1 (zqe [] [] ob0 (by kernel_rfl))
noncomputable def zPC (p0 : za) (p1 : Int) (p2 : (SL Int)) (p3 : Int) (s29_19 : zt6) (s1_9 : Int) (v2402 : zt8) (s29_13 : Int) : TM := [(0, (.d (.agg (zb p0)))), (1, (xi p1)), (2, (.d (dl eI p2.1 p2.2))), (3, (xi p3)), (zsp 4), (8, (.d (.sl [] .nil))), (9, (.row 0 9 s29_19.length)), (zsp 10), (11, (xi s1_9)), (27, (xb true)), (12, (xi v2402.1)), (34, (xb false)), (14, (xi s29_13))]
noncomputable def z0l (p0 : za) (p1 : Int) (p2 : (SL Int)) (p3 : Int) (v3 : zi) (s1_9 : Int) (v2402 : zt8) (s29_13 : Int) (s29_19 : zt6) : St := ⟨(zPC p0 p1 p2 p3 s29_19 s1_9 v2402 s29_13), ⟨[(zc 4 (zb p0)), (9, (rowO true 6 zm s29_19 true)), (10, (.cells [(xi v3.Low), (xi v3.High)]))], []⟩, []⟩
noncomputable def zYA (p0 : za) (p1 : Int) (p2 : (SL Int)) (p3 : Int) (r : zt8) (s1_9 : Int) (v2402 : zt8) : TM := [(0, (.d (.agg (zb p0)))), (1, (xi p1)), (2, (.d (dl eI p2.1 p2.2))), (3, (xi p3)), (zsp 4), (8, (.d (.sl [] .nil))), (9, (.row 0 9 r.2.length)), (zsp 10), (11, (xi s1_9)), (27, (xb true)), (12, (xi v2402.1)), (34, (xb false)), (14, (xi r.1)), (65, (xb false))]
noncomputable def zEe (p0 : za) (p1 : Int) (p2 : (SL Int)) (p3 : Int) (v3 : zi) (s1_9 : Int) (v2402 r : zt8) : St := ⟨(zYA p0 p1 p2 p3 r s1_9 v2402), ⟨[(zc 4 (zb p0)), (9, (rowO true 6 zm r.2 true)), (10, (.cells [(xi v3.Low), (xi v3.High)]))], []⟩, []⟩
noncomputable def z1l (p0 : za) (p1 : Int) (p2 : (SL Int)) (p3 : Int) (v3 : zi) (s1_9 : Int) (v2402 : zt8) : (Int × (List zl)) → Ex × St := fun r => ((.exit 4), zEe p0 p1 p2 p3 v3 s1_9 v2402 r)
theorem zBl (k : Nat) (p0 : za) (p1 : Int) (p2 : (SL Int)) (p3 : Int) (v3 : zi) (s1_9 : Int) (v2402 : zt8) (s29_13 : Int) (s29_19 : zt6) (x : (Int × (List zl)) ⊕ (Int × (List zl))) (h : z0b k p0 p1 p2 p3 v3 s1_9 v2402 s29_13 s29_19 = some x) : zQ TE 73 (blk TE 73 4) (fun s : (Int × (List zl)) => z0l p0 p1 p2 p3 v3 s1_9 v2402 s.1 s.2) (z1l p0 p1 p2 p3 v3 s1_9 v2402) (s29_13, s29_19) x := by
 unfold z0b at h
 refine zn h (fun h3201 g1 => ?_) (fun h3201 g1 => ?_)
 ·refine zk g1 (fun v3202 h3203 g2 => ?_)
  refine zk g2 (fun v3204 h3205 g3 => ?_)
  refine zn g3 (fun h3206 g4 => ?_) (fun h3206 g4 => ?_)
  ·subst h3206
   exact zqn ((w64 (s29_13 + 1)), s29_19) [9] [(73, 13, 3, .q (xi (p0.Moves.1.length : Int))), (73, 13, 4, .q (xb true)), (73, 15, 3, .q (.d (.pin (zp v3202))))] [(73, 1000016, (.nor, zcc p0 p1 p2 p3 v3 s1_9 v2402 s29_13 s29_19 v3202 true))] g4 (ob (zy zp p0.Moves.1) (ob (o_b h3201) (ob (o_ia (e := zp) 5 h3203 rfl) (ob (zgh k p0 p1 p2 p3 v3 s1_9 v2402 s29_13 s29_19 v3202 _ h3205) (ob (zgc true 6 zm s29_19 true) ob0))))) (by kernel_rfl)
  ·subst h3206
   refine zk g4 (fun v3207 h3208 g5 => ?_)
   refine zT g5 (fun h3209 g6 => ?_)
   exact zqn ((w64 (s29_13 + 1)), (s29_19 ++ [(⟨(⟨v3207.2.1, v3207.2.2⟩ : zi), v3, s29_13, (-1)⟩ : zl)])) [9] [(73, 13, 3, .q (xi (p0.Moves.1.length : Int))), (73, 13, 4, .q (xb true)), (73, 15, 3, .q (.d (.pin (zp v3202)))), (73, 20, 6, .ap (s29_19 ++ [(⟨(⟨v3207.2.1, v3207.2.2⟩ : zi), v3, s29_13, (-1)⟩ : zl)]).length (rowO true 6 zm (s29_19 ++ [(⟨(⟨v3207.2.1, v3207.2.2⟩ : zi), v3, s29_13, (-1)⟩ : zl)]) true))] [(73, 1000016, (.nor, zcc p0 p1 p2 p3 v3 s1_9 v2402 s29_13 s29_19 v3202 false)), (73, 2000087, (.nor, znd p0 p1 p2 p3 v3 s1_9 v2402 s29_13 s29_19 v3202 (!v3202.Back) v3207))] g6 (ob (zy zp p0.Moves.1) (ob (o_b h3201) (ob (o_ia (e := zp) 5 h3203 rfl) (ob (zgh k p0 p1 p2 p3 v3 s1_9 v2402 s29_13 s29_19 v3202 _ h3205) (ob (zol k p0 p1 p2 p3 v3 s1_9 v2402 s29_13 s29_19 v3202 (!v3202.Back) _ h3208) (ob (o_ap (b := true) (z := 6) (e := zm) (l := s29_19) (w := true) (⟨(⟨v3207.2.1, v3207.2.2⟩ : zi), v3, s29_13, (-1)⟩ : zl) (fun _ => rfl) h3209) (ob (zgc true 6 zm (s29_19 ++ [(⟨(⟨v3207.2.1, v3207.2.2⟩ : zi), v3, s29_13, (-1)⟩ : zl)]) true) ob0))))))) (by kernel_rfl)
 ·exact zqo [(73, 13, 3, .q (xi (p0.Moves.1.length : Int))), (73, 13, 4, .q (xb false))] [] g1 (ob (zy zp p0.Moves.1) (ob (o_b h3201) ob0)) (by kernel_rfl)
noncomputable def zJB (p0 : za) (p1 : Int) (p2 : (SL Int)) (p3 : Int) (s1_15 : zt6) (s1_9 : Int) : TM := [(0, (.d (.agg (zb p0)))), (1, (xi p1)), (2, (.d (dl eI p2.1 p2.2))), (3, (xi p3)), (zsp 4), (8, (.d (.sl [] .nil))), (9, (.row 0 9 s1_15.length)), (zsp 10), (11, (xi s1_9))]
noncomputable def zDm (p0 : za) (p1 : Int) (p2 : (SL Int)) (p3 : Int) (v3 : zi) (s1_9 : Int) (s1_15 : zt6) : St := ⟨(zJB p0 p1 p2 p3 s1_15 s1_9), ⟨[(zc 4 (zb p0)), (9, (rowO true 6 zm s1_15 true)), (10, (.cells [(xi v3.Low), (xi v3.High)]))], []⟩, []⟩
noncomputable def zbB (p0 : za) (p1 : Int) (p2 : (SL Int)) (p3 : Int) (r : zt8) : TM := [(0, (.d (.agg (zb p0)))), (1, (xi p1)), (2, (.d (dl eI p2.1 p2.2))), (3, (xi p3)), (zsp 4), (8, (.d (.sl [] .nil))), (9, (.row 0 9 r.2.length)), (zsp 10), (11, (xi r.1)), (27, (xb false))]
noncomputable def z9e (p0 : za) (p1 : Int) (p2 : (SL Int)) (p3 : Int) (v3 : zi) (r : zt8) : St := ⟨(zbB p0 p1 p2 p3 r), ⟨[(zc 4 (zb p0)), (9, (rowO true 6 zm r.2 true)), (10, (.cells [(xi v3.Low), (xi v3.High)]))], []⟩, []⟩
noncomputable def zAm (p0 : za) (p1 : Int) (p2 : (SL Int)) (p3 : Int) (v3 : zi) : (Int × (List zl)) → Ex × St := fun r => ((.exit 0), z9e p0 p1 p2 p3 v3 r)
theorem zVl (k : Nat) (p0 : za) (p1 : Int) (p2 : (SL Int)) (p3 : Int) (v3 : zi) (s1_9 : Int) (s1_15 : zt6) (x : (Int × (List zl)) ⊕ (Int × (List zl))) (h : zLb k p0 p1 p2 p3 v3 s1_9 s1_15 = some x) : zQ TE 73 (blk TE 73 0) (fun s : (Int × (List zl)) => zDm p0 p1 p2 p3 v3 s.1 s.2) (zAm p0 p1 p2 p3 v3) (s1_9, s1_15) x := by
 unfold zLb at h
 refine zn h (fun h2401 g1 => ?_) (fun h2401 g1 => ?_)
 ·refine zk g1 (fun v2402 h2403 g2 => ?_)
  refine zk g2 (fun v2404 h2405 g3 => ?_)
  refine zk g3 (fun v2406 h2407 g4 => ?_)
  refine zk g4 (fun v2408 h2409 g5 => ?_)
  refine zT g5 (fun h2410 g6 => ?_)
  exact zqn ((w64 (s1_9 + 1)), (v2404.2 ++ [(⟨v2406, v2408, (-1), s1_9⟩ : zl)])) [9] [(73, 4, 3, .q (xb true)), (73, 21, 1, .c (.agg [(di v2406.Low), (di v2406.High)])), (73, 21, 6, .c (.agg [(di v2408.Low), (di v2408.High)])), (73, 21, 10, .ap (v2404.2 ++ [(⟨v2406, v2408, (-1), s1_9⟩ : zl)]).length (rowO true 6 zm (v2404.2 ++ [(⟨v2406, v2408, (-1), s1_9⟩ : zl)]) true))] [(73, 2, (.nor, zKe p0 p1 p2 p3 v3 s1_9 v2402)), (73, 4, (.nor, zEe p0 p1 p2 p3 v3 s1_9 v2402 v2404))] g6 (ob (o_b h2401) (ob (zG (id := 2) (r' := (.nor, zKe p0 p1 p2 p3 v3 s1_9 v2402)) (zib (zbl k p0 p1 p2 p3 v3 s1_9) k _ _ h2403) rfl) (ob (zG (id := 4) (r' := (.nor, zEe p0 p1 p2 p3 v3 s1_9 v2402 v2404)) (zib (zBl k p0 p1 p2 p3 v3 s1_9 v2402) k _ _ h2405) rfl) (ob (zL k 0 0 _ h2407) (ob (zei k p0 p1 s1_9 p3 _ h2409) (ob (o_ap (b := true) (z := 6) (e := zm) (l := v2404.2) (w := true) (⟨v2406, v2408, (-1), s1_9⟩ : zl) (fun _ => rfl) h2410) (ob (zgc true 6 zm (v2404.2 ++ [(⟨v2406, v2408, (-1), s1_9⟩ : zl)]) true) ob0))))))) (by kernel_rfl)
 ·exact zqo [(73, 4, 3, .q (xb false))] [] g1 (ob (o_b h2401) ob0) (by kernel_rfl)
theorem zFi (k : Nat) (p0 : za) (p1 : Int) (p2 : (SL Int)) (p3 : Int) (r : (SL zl)) (h : zYd k p0 p1 p2 p3 = some r) : zM TE (ev TE) 73 [(.agg (zb p0)), (di p1), (dl eI p2.1 p2.2), (di p3)] = some (z3i r) := by
 unfold zYd at h
 refine zk h (fun v1 h2 g1 => ?_)
 refine zk g1 (fun v3 h4 g2 => ?_)
 refine zk g2 (fun v5 h6 g3 => ?_)
 exact zJ (g := z3i) g3 (zqr [(73, 2, 3, .q (.d (.pin (zo v1)))), (73, 2, 6, .c (.agg [(di v3.Low), (di v3.High)]))] [(73, 0, (.nor, z9e p0 p1 p2 p3 v3 v5))] [(dl zm v5.2 (rcap true v5.2))] (ob (o_ia (e := zo) 3 h2 rfl) (ob (zL k 0 v1.Room _ h4) (ob (zG (id := 0) (r' := (.nor, z9e p0 p1 p2 p3 v3 v5)) (zib (zVl k p0 p1 p2 p3 v3) k _ _ h6) rfl) (ob (show zpc ⟨[(9, (rowO true 6 zm v5.2 true))], []⟩ _ = _ from (o_s1 (x := (.row 0 9 v5.2.length)) (zAj true 6 zm v5.2 true rfl) o_s0)) ob0)))) (by kernel_rfl))
noncomputable def zfC (p0 : zi) (p1 : (SL zl)) (s1_8 : zt9) (s1_5 : Int) : TM := [(0, (.d (.agg [(di p0.Low), (di p0.High)]))), (1, (.d (dl zm p1.1 p1.2))), (zsp 2), (4, (.d (.sl [] .nil))), (5, (xb false)), (6, (.row 0 11 s1_8.length)), (7, (xi s1_5))]
noncomputable def zqm (p0 : zi) (p1 : (SL zl)) (s1_5 : Int) (s1_8 : zt9) : St := ⟨(zfC p0 p1 s1_8 s1_5), ⟨[(2, (.cells [(xi p0.Low), (xi p0.High)])), (11, (rowO false 2 zz s1_8 true))], []⟩, []⟩
noncomputable def zqB (p0 : zi) (p1 : (SL zl)) (r : zt13) : TM := [(0, (.d (.agg [(di p0.Low), (di p0.High)]))), (1, (.d (dl zm p1.1 p1.2))), (zsp 2), (4, (.d (.sl [] .nil))), (5, (xb false)), (6, (.row 0 11 r.2.length)), (7, (xi r.1)), (15, (xb false))]
noncomputable def z9b (p0 : zi) (p1 : (SL zl)) (r : zt13) : St := ⟨(zqB p0 p1 r), ⟨[(2, (.cells [(xi p0.Low), (xi p0.High)])), (11, (rowO false 2 zz r.2 true))], []⟩, []⟩
noncomputable def zJm (p0 : zi) (p1 : (SL zl)) : (Int × (List zi)) → Ex × St := fun r => ((.exit 0), z9b p0 p1 r)
theorem zAh (k : Nat) (p0 : zi) (p1 : (SL zl)) (s1_5 : Int) (s1_8 : zt9) (x : (Int × (List zi)) ⊕ (Int × (List zi))) (h : z6b k p0 p1 s1_5 s1_8 = some x) : zQ TE 74 (blk TE 74 0) (fun s : (Int × (List zi)) => zqm p0 p1 s.1 s.2) (zJm p0 p1) (s1_5, s1_8) x := by
 unfold z6b at h
 refine zn h (fun h201 g1 => ?_) (fun h201 g1 => ?_)
 ·refine zk g1 (fun v202 h203 g2 => ?_)
  refine zk g2 (fun v204 h205 g3 => ?_)
  refine zk g3 (fun v206 h207 g4 => ?_)
  refine zk g4 (fun v208 h209 g5 => ?_)
  refine zk g5 (fun v210 h211 g6 => ?_)
  refine zk g6 (fun v212 h213 g7 => ?_)
  refine zk g7 (fun v214 h215 g8 => ?_)
  refine zT g8 (fun h216 g9 => ?_)
  exact zqn ((w64 (s1_5 + 1)), (s1_8 ++ [v214])) [11] [(74, 3, 2, .q (xi (p1.1.length : Int))), (74, 3, 3, .q (xb true)), (74, 5, 3, .q (.d (.pin (zm v202)))), (74, 5, 8, .q (.rp 0 11 s1_8.length s1_5.toNat 0)), (74, 5, 9, .q (.rp 0 11 s1_8.length s1_5.toNat 0)), (74, 5, 10, .q (xi v204.Low)), (74, 5, 13, .q (.d (.pin (zm v206)))), (74, 5, 20, .q (.rp 0 11 s1_8.length s1_5.toNat 0)), (74, 5, 21, .q (.rp 0 11 s1_8.length s1_5.toNat 1)), (74, 5, 22, .q (xi v208.High)), (74, 5, 25, .q (.d (.pin (zm v210)))), (74, 5, 30, .c (.agg [(di v212.Low), (di v212.High)])), (74, 5, 31, .c (.agg [(di v214.Low), (di v214.High)])), (74, 5, 33, .ap (s1_8 ++ [v214]).length (rowO false 2 zz (s1_8 ++ [v214]) true))] [] g9 (ob (zy zm p1.1) (ob (o_b h201) (ob (o_ia (e := zm) 6 h203 rfl) (ob (zqa 94 16 0 11 s1_5 false 2 zz s1_8 true (by kernel_rfl) (by kernel_rfl) h205) (ob (zqf 30 (0, 1, false) 0 11 0 0 s1_5 false 2 zz s1_8 true (by kernel_rfl) (by decide) h205) (ob (zql 3 (1, false) 0 11 0 s1_5 (xi v204.Low) false 2 zz s1_8 true (by kernel_rfl) h205 (by kernel_rfl)) (ob (o_ia (e := zm) 6 h207 rfl) (ob (zqa 94 16 0 11 s1_5 false 2 zz s1_8 true (by kernel_rfl) (by kernel_rfl) h209) (ob (zqf 30 (1, 1, false) 0 11 0 1 s1_5 false 2 zz s1_8 true (by kernel_rfl) (by decide) h209) (ob (zql 3 (1, false) 0 11 1 s1_5 (xi v208.High) false 2 zz s1_8 true (by kernel_rfl) h209 (by kernel_rfl)) (ob (o_ia (e := zm) 6 h211 rfl) (ob (zL k (w64 (v204.Low + v206.by_.Low)) (w64 (v208.High + v210.by_.High)) _ h213) (ob (z9d k v202.within v212 _ h215) (ob (o_ap (b := false) (z := 2) (e := zz) (l := s1_8) (w := true) v214 (fun _ => rfl) h216) (ob (zgc false 2 zz (s1_8 ++ [v214]) true) ob0))))))))))))))) (by kernel_rfl)
 ·exact zqo [(74, 3, 2, .q (xi (p1.1.length : Int))), (74, 3, 3, .q (xb false))] [] g1 (ob (zy zm p1.1) (ob (o_b h201) ob0)) (by kernel_rfl)
noncomputable def zzC (p0 : zi) (p1 : (SL zl)) (s2_10 : zt9) (v1 : zt13) (s2_7 : Int) : TM := [(0, (.d (.agg [(di p0.Low), (di p0.High)]))), (1, (.d (dl zm p1.1 p1.2))), (zsp 2), (4, (.d (.sl [] .nil))), (5, (xb false)), (6, (.row 0 11 s2_10.length)), (7, (xi v1.1)), (15, (xb false)), (8, (xi s2_7))]
noncomputable def zsm (p0 : zi) (p1 : (SL zl)) (v1 : zt13) (s2_7 : Int) (s2_10 : zt9) : St := ⟨(zzC p0 p1 s2_10 v1 s2_7), ⟨[(2, (.cells [(xi p0.Low), (xi p0.High)])), (11, (rowO false 2 zz s2_10 true))], []⟩, []⟩
noncomputable def zGC (p0 : zi) (p1 : (SL zl)) (r v1 : zt13) : TM := [(0, (.d (.agg [(di p0.Low), (di p0.High)]))), (1, (.d (dl zm p1.1 p1.2))), (zsp 2), (4, (.d (.sl [] .nil))), (5, (xb false)), (6, (.row 0 11 r.2.length)), (7, (xi v1.1)), (15, (xb false)), (8, (xi r.1)), (55, (xb true)), (68, (xb true))]
noncomputable def z7e (p0 : zi) (p1 : (SL zl)) (v1 r : zt13) : St := ⟨(zGC p0 p1 r v1), ⟨[(2, (.cells [(xi p0.Low), (xi p0.High)])), (11, (rowO false 2 zz r.2 true))], []⟩, []⟩
noncomputable def zZB (p0 : zi) (p1 : (SL zl)) (r v1 : zt13) : TM := [(0, (.d (.agg [(di p0.Low), (di p0.High)]))), (1, (.d (dl zm p1.1 p1.2))), (zsp 2), (4, (.d (.sl [] .nil))), (5, (xb false)), (6, (.row 0 11 r.2.length)), (7, (xi v1.1)), (15, (xb false)), (8, (xi r.1)), (55, (xb false))]
noncomputable def zaf (p0 : zi) (p1 : (SL zl)) (v1 r : zt13) : St := ⟨(zZB p0 p1 r v1), ⟨[(2, (.cells [(xi p0.Low), (xi p0.High)])), (11, (rowO false 2 zz r.2 true))], []⟩, []⟩
noncomputable def zQm (p0 : zi) (p1 : (SL zl)) (v1 : zt13) : ((Int × (List zi)) ⊕ (Int × (List zi))) → Ex × St := Sum.elim (fun r => (.ret, z7e p0 p1 v1 r)) (fun r => ((.exit 2), zaf p0 p1 v1 r))
theorem zEh (k : Nat) (p0 : zi) (p1 : (SL zl)) (v1 : zt13) (s2_7 : Int) (s2_10 : zt9) (x : (Int × (List zi)) ⊕ ((Int × (List zi)) ⊕ (Int × (List zi)))) (h : z7b k p0 p1 v1 s2_7 s2_10 = some x) : zQ TE 74 (blk TE 74 2) (fun s : (Int × (List zi)) => zsm p0 p1 v1 s.1 s.2) (zQm p0 p1 v1) (s2_7, s2_10) x := by
 unfold z7b at h
 refine zn h (fun h401 g1 => ?_) (fun h401 g1 => ?_)
 ·refine zk g1 (fun v402 h403 g2 => ?_)
  refine zk g2 (fun v404 h405 g3 => ?_)
  refine zn g3 (fun h406 g4 => ?_) (fun h406 g4 => ?_)
  ·exact zqo [(74, 7, 1, .q (xb true)), (74, 9, 2, .q (.rp 0 11 s2_10.length s2_7.toNat 0)), (74, 9, 3, .q (.rp 0 11 s2_10.length s2_7.toNat 0)), (74, 9, 4, .q (xi v402.Low)), (74, 9, 7, .q (.rp 0 11 s2_10.length s2_7.toNat 0)), (74, 9, 8, .q (.rp 0 11 s2_10.length s2_7.toNat 1)), (74, 9, 9, .q (xi v404.High)), (74, 9, 10, .q (xb true))] [] g4 (ob (o_b h401) (ob (zqa 94 16 0 11 s2_7 false 2 zz s2_10 true (by kernel_rfl) (by kernel_rfl) h403) (ob (zqf 30 (0, 1, false) 0 11 0 0 s2_7 false 2 zz s2_10 true (by kernel_rfl) (by decide) h403) (ob (zql 3 (1, false) 0 11 0 s2_7 (xi v402.Low) false 2 zz s2_10 true (by kernel_rfl) h403 (by kernel_rfl)) (ob (zqa 94 16 0 11 s2_7 false 2 zz s2_10 true (by kernel_rfl) (by kernel_rfl) h405) (ob (zqf 30 (1, 1, false) 0 11 0 1 s2_7 false 2 zz s2_10 true (by kernel_rfl) (by decide) h405) (ob (zql 3 (1, false) 0 11 1 s2_7 (xi v404.High) false 2 zz s2_10 true (by kernel_rfl) h405 (by kernel_rfl)) (ob (o_b h406) ob0)))))))) (by kernel_rfl)
  ·refine zn g4 (fun h407 g5 => ?_) (fun h407 g5 => ?_)
   ·refine zk g5 (fun v408 h409 g6 => ?_)
    refine zk g6 (fun v410 h411 g7 => ?_)
    refine zk g7 (fun v412 h413 g8 => ?_)
    refine zk g8 (fun v414 h415 g9 => ?_)
    refine zk g9 (fun v416 h417 g10 => ?_)
    refine zk g10 (fun v418 h419 g11 => ?_)
    refine zk g11 (fun v420 h421 g12 => ?_)
    exact zqn ((w64 (s2_7 - 1)), (s2_10.set (w64 (s2_7 - 1)).toNat v418)) [11] [(74, 7, 1, .q (xb true)), (74, 9, 2, .q (.rp 0 11 s2_10.length s2_7.toNat 0)), (74, 9, 3, .q (.rp 0 11 s2_10.length s2_7.toNat 0)), (74, 9, 4, .q (xi v402.Low)), (74, 9, 7, .q (.rp 0 11 s2_10.length s2_7.toNat 0)), (74, 9, 8, .q (.rp 0 11 s2_10.length s2_7.toNat 1)), (74, 9, 9, .q (xi v404.High)), (74, 9, 10, .q (xb false)), (74, 11, 1, .q (xb true)), (74, 12, 3, .q (.d (.pin (zm v408)))), (74, 13, 6, .q (.rp 0 11 s2_10.length (w64 (s2_7 - 1)).toNat 0)), (74, 13, 7, .q (.d (.agg [(di v410.Low), (di v410.High)]))), (74, 13, 10, .q (.rp 0 11 s2_10.length s2_7.toNat 0)), (74, 13, 11, .q (.rp 0 11 s2_10.length s2_7.toNat 0)), (74, 13, 12, .q (xi v412.Low)), (74, 13, 18, .q (.rp 0 11 s2_10.length s2_7.toNat 0)), (74, 13, 19, .q (.rp 0 11 s2_10.length s2_7.toNat 1)), (74, 13, 20, .q (xi v414.High)), (74, 13, 24, .c (.agg [(di v416.Low), (di v416.High)])), (74, 13, 25, .c (.agg [(di v418.Low), (di v418.High)])), (74, 13, 26, .q (.rp 0 11 s2_10.length (w64 (s2_7 - 1)).toNat 0)), (74, 13, 27, .rs (rowO false 2 zz (s2_10.set (w64 (s2_7 - 1)).toNat v418) true)), (74, 13, 999, .nm [(6, (s2_10.set (w64 (s2_7 - 1)).toNat v418).length)] [])] [] g12 (ob (o_b h401) (ob (zqa 94 16 0 11 s2_7 false 2 zz s2_10 true (by kernel_rfl) (by kernel_rfl) h403) (ob (zqf 30 (0, 1, false) 0 11 0 0 s2_7 false 2 zz s2_10 true (by kernel_rfl) (by decide) h403) (ob (zql 3 (1, false) 0 11 0 s2_7 (xi v402.Low) false 2 zz s2_10 true (by kernel_rfl) h403 (by kernel_rfl)) (ob (zqa 94 16 0 11 s2_7 false 2 zz s2_10 true (by kernel_rfl) (by kernel_rfl) h405) (ob (zqf 30 (1, 1, false) 0 11 0 1 s2_7 false 2 zz s2_10 true (by kernel_rfl) (by decide) h405) (ob (zql 3 (1, false) 0 11 1 s2_7 (xi v404.High) false 2 zz s2_10 true (by kernel_rfl) h405 (by kernel_rfl)) (ob (o_b h406) (ob (o_b h407) (ob (o_ia (e := zm) 6 h409 rfl) (ob (zqa 94 16 0 11 (w64 (s2_7 - 1)) false 2 zz s2_10 true (by kernel_rfl) (by kernel_rfl) h411) (ob (zql 30 (2, true) 0 11 0 (w64 (s2_7 - 1)) (.d (.agg [(di v410.Low), (di v410.High)])) false 2 zz s2_10 true (by kernel_rfl) h411 (by kernel_rfl)) (ob (zqa 94 16 0 11 s2_7 false 2 zz s2_10 true (by kernel_rfl) (by kernel_rfl) h413) (ob (zqf 30 (0, 1, false) 0 11 0 0 s2_7 false 2 zz s2_10 true (by kernel_rfl) (by decide) h413) (ob (zql 3 (1, false) 0 11 0 s2_7 (xi v412.Low) false 2 zz s2_10 true (by kernel_rfl) h413 (by kernel_rfl)) (ob (zqa 94 16 0 11 s2_7 false 2 zz s2_10 true (by kernel_rfl) (by kernel_rfl) h415) (ob (zqf 30 (1, 1, false) 0 11 0 1 s2_7 false 2 zz s2_10 true (by kernel_rfl) (by decide) h415) (ob (zql 3 (1, false) 0 11 1 s2_7 (xi v414.High) false 2 zz s2_10 true (by kernel_rfl) h415 (by kernel_rfl)) (ob (zL k (w64 (v412.Low - v408.by_.High)) (w64 (v414.High - v408.by_.Low)) _ h417) (ob (z9d k v410 v416 _ h419) (ob (zqa 94 16 0 11 (w64 (s2_7 - 1)) false 2 zz s2_10 true (by kernel_rfl) (by kernel_rfl) h421) (ob (o_rs (b := false) (z := 2) (e := zz) (l := s2_10) (o := 0) (n := 2) (ds := [(di v418.Low), (di v418.High)]) (i := (w64 (s2_7 - 1))) (y' := v418) h421 (Nat.le_of_ble_eq_true rfl) rfl) (ob (show s2_10.length = (s2_10.set (w64 (s2_7 - 1)).toNat v418).length by simp) (ob (zgc false 2 zz (s2_10.set (w64 (s2_7 - 1)).toNat v418) true) ob0)))))))))))))))))))))))) (by kernel_rfl)
   ·exact zqn ((w64 (s2_7 - 1)), s2_10) [11] [(74, 7, 1, .q (xb true)), (74, 9, 2, .q (.rp 0 11 s2_10.length s2_7.toNat 0)), (74, 9, 3, .q (.rp 0 11 s2_10.length s2_7.toNat 0)), (74, 9, 4, .q (xi v402.Low)), (74, 9, 7, .q (.rp 0 11 s2_10.length s2_7.toNat 0)), (74, 9, 8, .q (.rp 0 11 s2_10.length s2_7.toNat 1)), (74, 9, 9, .q (xi v404.High)), (74, 9, 10, .q (xb false)), (74, 11, 1, .q (xb false))] [] g5 (ob (o_b h401) (ob (zqa 94 16 0 11 s2_7 false 2 zz s2_10 true (by kernel_rfl) (by kernel_rfl) h403) (ob (zqf 30 (0, 1, false) 0 11 0 0 s2_7 false 2 zz s2_10 true (by kernel_rfl) (by decide) h403) (ob (zql 3 (1, false) 0 11 0 s2_7 (xi v402.Low) false 2 zz s2_10 true (by kernel_rfl) h403 (by kernel_rfl)) (ob (zqa 94 16 0 11 s2_7 false 2 zz s2_10 true (by kernel_rfl) (by kernel_rfl) h405) (ob (zqf 30 (1, 1, false) 0 11 0 1 s2_7 false 2 zz s2_10 true (by kernel_rfl) (by decide) h405) (ob (zql 3 (1, false) 0 11 1 s2_7 (xi v404.High) false 2 zz s2_10 true (by kernel_rfl) h405 (by kernel_rfl)) (ob (o_b h406) (ob (o_b h407) (ob (zgc false 2 zz s2_10 true) ob0)))))))))) (by kernel_rfl)
 ·exact zqo [(74, 7, 1, .q (xb false))] [] g1 (ob (o_b h401) ob0) (by kernel_rfl)
theorem zae (k : Nat) (p0 : zi) (p1 : (SL zl)) (r : ((SL zi) × Bool)) (h : zOc k p0 p1 = some r) : zM TE (ev TE) 74 [(.agg [(di p0.Low), (di p0.High)]), (dl zm p1.1 p1.2)] = some (zGg r) := by
 unfold zOc at h
 refine zk h (fun v1 h2 g1 => ?_)
 refine zk g1 (fun v3 h4 g2 => ?_)
 refine zwd g2 (fun v6 hh g3_0 => ?_) (fun v6 hh g3_0 => ?_)
 ·subst hh
  exact zJ (g := zGg) g3_0 (zqc [(74, 6, 1, .q (xi (p1.1.length : Int)))] [(74, 0, (.nor, z9b p0 p1 v1)), (74, 2, (.ret, z7e p0 p1 v1 v6))] (ob (zG (id := 0) (r' := (.nor, z9b p0 p1 v1)) (zib (zAh k p0 p1) k _ _ h2) rfl) (ob (zy zm p1.1) (ob (zG (id := 2) (r' := (.ret, z7e p0 p1 v1 v6)) (zib (zEh k p0 p1 v1) k _ _ h4) rfl) ob0))) (by kernel_rfl))
 ·subst hh
  exact zJ (g := zGg) g3_0 (zqr [(74, 6, 1, .q (xi (p1.1.length : Int)))] [(74, 0, (.nor, z9b p0 p1 v1)), (74, 2, (.nor, zaf p0 p1 v1 v6))] [(dl zz v6.2 (rcap false v6.2)), (db true)] (ob (zG (id := 0) (r' := (.nor, z9b p0 p1 v1)) (zib (zAh k p0 p1) k _ _ h2) rfl) (ob (zy zm p1.1) (ob (zG (id := 2) (r' := (.nor, zaf p0 p1 v1 v6)) (zib (zEh k p0 p1 v1) k _ _ h4) rfl) (ob (show zpc ⟨[(11, (rowO false 2 zz v6.2 true))], []⟩ _ = _ from (o_s1 (x := (.row 0 11 v6.2.length)) (zAj false 2 zz v6.2 true rfl) (o_s1 (x := (xb true)) rfl o_s0))) ob0)))) (by kernel_rfl))
noncomputable def zQC (p0 : za) (p1 p2 : Int) (v1 : (SL (SL Int))) (s1_15 : (List zx)) (s1_9 : Int) : TM := [(0, (.d (.agg (zb p0)))), (1, (xi p1)), (2, (xi p2)), (zsp 3), (6, (.d (.sl [] .nil))), (7, (.d (dl (eL eI) v1.1 v1.2))), (8, (.row 0 8 s1_15.length)), (9, (xi s1_9))]
noncomputable def zHm (p0 : za) (p1 p2 : Int) (v1 : (SL (SL Int))) (s1_9 : Int) (s1_15 : (List zx)) : St := ⟨(zQC p0 p1 p2 v1 s1_15 s1_9), ⟨[(zc 3 (zb p0)), (8, (rowO true 3 zI s1_15 true))], []⟩, []⟩
noncomputable def z2B (p0 : za) (p1 p2 : Int) (v1 : (SL (SL Int))) (r : (Int × (List zx))) : TM := [(0, (.d (.agg (zb p0)))), (1, (xi p1)), (2, (xi p2)), (zsp 3), (6, (.d (.sl [] .nil))), (7, (.d (dl (eL eI) v1.1 v1.2))), (8, (.row 0 8 r.2.length)), (9, (xi r.1)), (19, (xb false))]
noncomputable def z6e (p0 : za) (p1 p2 : Int) (v1 : (SL (SL Int))) (r : (Int × (List zx))) : St := ⟨(z2B p0 p1 p2 v1 r), ⟨[(zc 3 (zb p0)), (8, (rowO true 3 zI r.2 true))], []⟩, []⟩
noncomputable def zPm (p0 : za) (p1 p2 : Int) (v1 : (SL (SL Int))) : (Int × (List zx)) → Ex × St := fun r => ((.exit 0), z6e p0 p1 p2 v1 r)
theorem z2l (k : Nat) (p0 : za) (p1 p2 : Int) (v1 : (SL (SL Int))) (s1_9 : Int) (s1_15 : (List zx)) (x : (Int × (List zx)) ⊕ (Int × (List zx))) (h : zVc k p0 p1 p2 v1 s1_9 s1_15 = some x) : zQ TE 59 (blk TE 59 0) (fun s : (Int × (List zx)) => zHm p0 p1 p2 v1 s.1 s.2) (zPm p0 p1 p2 v1) (s1_9, s1_15) x := by
 unfold zVc at h
 refine zn h (fun h301 g1 => ?_) (fun h301 g1 => ?_)
 ·refine zk g1 (fun v302 h303 g2 => ?_)
  refine zk g2 (fun v304 h305 g3 => ?_)
  refine zk g3 (fun v306 h307 g4 => ?_)
  refine zk g4 (fun v308 h309 g5 => ?_)
  refine zn g5 (fun h310 g6 => ?_) (fun h310 g6 => ?_)
  ·refine zk g6 (fun v311 h312 g7 => ?_)
   refine zT g7 (fun h313 g8 => ?_)
   exact zqn ((w64 (s1_9 + 1)), (s1_15 ++ [(⟨v311, v304, v308.1⟩ : zx)])) [8] [(59, 4, 2, .q (xi (v1.1.length : Int))), (59, 4, 3, .q (xb true)), (59, 6, 4, .q (.d (.pin [(dl eI v302.1 v302.2)]))), (59, 6, 7, .c (dl zm v304.1 v304.2)), (59, 7, 3, .q (.d (.pin (zo v306)))), (59, 7, 7, .c (.tup [(dl zz v308.1.1 v308.1.2), (db v308.2)])), (59, 8, 0, .q (xb true)), (59, 9, 3, .q (.d (.pin [(dl eI v311.1 v311.2)]))), (59, 9, 9, .ap (s1_15 ++ [(⟨v311, v304, v308.1⟩ : zx)]).length (rowO true 3 zI (s1_15 ++ [(⟨v311, v304, v308.1⟩ : zx)]) true))] [] g8 (ob (zy (eL eI) v1.1) (ob (o_b h301) (ob (o_ia (e := (eL eI)) 1 h303 rfl) (ob (zFi k p0 p1 v302 p2 _ h305) (ob (o_ia (e := zo) 3 h307 rfl) (ob (zae k v306.Begin v304 _ h309) (ob (o_b h310) (ob (o_ia (e := (eL eI)) 1 h312 rfl) (ob (o_ap (b := true) (z := 3) (e := zI) (l := s1_15) (w := true) (⟨v311, v304, v308.1⟩ : zx) (fun _ => rfl) h313) (ob (zgc true 3 zI (s1_15 ++ [(⟨v311, v304, v308.1⟩ : zx)]) true) ob0)))))))))) (by kernel_rfl)
  ·exact zqn ((w64 (s1_9 + 1)), s1_15) [8] [(59, 4, 2, .q (xi (v1.1.length : Int))), (59, 4, 3, .q (xb true)), (59, 6, 4, .q (.d (.pin [(dl eI v302.1 v302.2)]))), (59, 6, 7, .c (dl zm v304.1 v304.2)), (59, 7, 3, .q (.d (.pin (zo v306)))), (59, 7, 7, .c (.tup [(dl zz v308.1.1 v308.1.2), (db v308.2)])), (59, 8, 0, .q (xb false))] [] g6 (ob (zy (eL eI) v1.1) (ob (o_b h301) (ob (o_ia (e := (eL eI)) 1 h303 rfl) (ob (zFi k p0 p1 v302 p2 _ h305) (ob (o_ia (e := zo) 3 h307 rfl) (ob (zae k v306.Begin v304 _ h309) (ob (o_b h310) (ob (zgc true 3 zI s1_15 true) ob0)))))))) (by kernel_rfl)
 ·exact zqo [(59, 4, 2, .q (xi (v1.1.length : Int))), (59, 4, 3, .q (xb false))] [] g1 (ob (zy (eL eI) v1.1) (ob (o_b h301) ob0)) (by kernel_rfl)
theorem zgg (k : Nat) (p0 : za) (p1 p2 : Int) (r : (SL zx)) (h : zQc k p0 p1 p2 = some r) : zM TE (ev TE) 59 [(.agg (zb p0)), (di p1), (di p2)] = some (z7i r) := by
 unfold zQc at h
 refine zk h (fun v1 h2 g1 => ?_)
 refine zk g1 (fun v3 h4 g2 => ?_)
 exact zJ (g := z7i) g2 (zqr [(59, 1, 2, .c (dl (eL eI) v1.1 v1.2))] [(59, 0, (.nor, z6e p0 p1 p2 v1 v3))] [(dl zI v3.2 (rcap true v3.2))] (ob (z0g k p0 p1 _ h2) (ob (zG (id := 0) (r' := (.nor, z6e p0 p1 p2 v1 v3)) (zib (z2l k p0 p1 p2 v1) k _ _ h4) rfl) (ob (show zpc ⟨[(8, (rowO true 3 zI v3.2 true))], []⟩ _ = _ from (o_s1 (x := (.row 0 8 v3.2.length)) (zAj true 3 zI v3.2 true rfl) o_s0)) ob0))) (by kernel_rfl))
noncomputable def zTC (p0 : za) (p1 s1_7 : Int) : TM := [(0, (.d (.agg (zb p0)))), (1, (xi p1)), (zsp 2), (4, (xb false)), (5, (xi s1_7))]
noncomputable def zYm (p0 : za) (p1 s1_7 : Int) : St := ⟨(zTC p0 p1 s1_7), ⟨[(zc 2 (zb p0))], []⟩, []⟩
noncomputable def zOC (p0 : za) (p1 r : Int) : TM := [(0, (.d (.agg (zb p0)))), (1, (xi p1)), (zsp 2), (4, (xb false)), (5, (xi r)), (10, (xb true)), (18, (xb true))]
noncomputable def zwf (p0 : za) (p1 r : Int) : St := ⟨(zOC p0 p1 r), ⟨[(zc 2 (zb p0))], []⟩, []⟩
noncomputable def zoC (p0 : za) (p1 r : Int) : TM := [(0, (.d (.agg (zb p0)))), (1, (xi p1)), (zsp 2), (4, (xb false)), (5, (xi r)), (10, (xb false))]
noncomputable def zsf (p0 : za) (p1 r : Int) : St := ⟨(zoC p0 p1 r), ⟨[(zc 2 (zb p0))], []⟩, []⟩
noncomputable def zln (p0 : za) (p1 : Int) : (Int ⊕ Int) → Ex × St := Sum.elim (fun r => (.ret, zwf p0 p1 r)) (fun r => ((.exit 0), zsf p0 p1 r))
theorem zZh (k : Nat) (p0 : za) (p1 s1_7 : Int) (x : Int ⊕ (Int ⊕ Int)) (h : zid k p0 p1 s1_7 = some x) : zQ TE 86 (blk TE 86 0) (fun s : Int => zYm p0 p1 s) (zln p0 p1) s1_7 x := by
 unfold zid at h
 refine zn h (fun h201 g1 => ?_) (fun h201 g1 => ?_)
 ·refine zk g1 (fun v202 h203 g2 => ?_)
  refine zn g2 (fun h204 g3 => ?_) (fun h204 g3 => ?_)
  ·exact zqo [(86, 2, 3, .q (xi (p0.Shelves.1.length : Int))), (86, 2, 4, .q (xb true)), (86, 4, 3, .c (dl zI v202.1 v202.2)), (86, 4, 4, .q (xi (v202.1.length : Int))), (86, 4, 5, .q (xb true))] [] g3 (ob (zy zo p0.Shelves.1) (ob (o_b h201) (ob (zgg k p0 s1_7 p1 _ h203) (ob (zy zI v202.1) (ob (o_b h204) ob0))))) (by kernel_rfl)
  ·exact zqn (w64 (s1_7 + 1)) [] [(86, 2, 3, .q (xi (p0.Shelves.1.length : Int))), (86, 2, 4, .q (xb true)), (86, 4, 3, .c (dl zI v202.1 v202.2)), (86, 4, 4, .q (xi (v202.1.length : Int))), (86, 4, 5, .q (xb false))] [] g3 (ob (zy zo p0.Shelves.1) (ob (o_b h201) (ob (zgg k p0 s1_7 p1 _ h203) (ob (zy zI v202.1) (ob (o_b h204) ob0))))) (by kernel_rfl)
 ·exact zqo [(86, 2, 3, .q (xi (p0.Shelves.1.length : Int))), (86, 2, 4, .q (xb false))] [] g1 (ob (zy zo p0.Shelves.1) (ob (o_b h201) ob0)) (by kernel_rfl)
theorem z0i (k : Nat) (p0 : za) (p1 : Int) (r : Bool) (h : z8c k p0 p1 = some r) : zM TE (ev TE) 86 [(.agg (zb p0)), (di p1)] = some (zWg r) := by
 unfold z8c at h
 refine zk h (fun v1 h2 g1 => ?_)
 refine zwd g1 (fun v4 hh g2_0 => ?_) (fun v4 hh g2_0 => ?_)
 ·subst hh
  exact zJ (g := zWg) g2_0 (zqc [] [(86, 0, (.ret, zwf p0 p1 v4))] (ob (zG (id := 0) (r' := (.ret, zwf p0 p1 v4)) (ztc (zZh k p0 p1) k _ _ h2) rfl) ob0) (by kernel_rfl))
 ·subst hh
  exact zJ (g := zWg) g2_0 (zqc [] [(86, 0, (.nor, zsf p0 p1 v4))] (ob (zG (id := 0) (r' := (.nor, zsf p0 p1 v4)) (ztc (zZh k p0 p1) k _ _ h2) rfl) ob0) (by kernel_rfl))
theorem z5i (k : Nat) (p0 : za) (p1 : Bool) (r : Int) (h : zle k p0 p1 = some r) : zM TE (ev TE) 55 [(.agg (zb p0)), (db p1)] = some (zGd r) := by
 unfold zle at h
 refine zk h (fun v1 h2 g1 => ?_)
 refine zn g1 (fun h3 g2 => ?_) (fun h3 g2 => ?_)
 ·exact zJ (g := zGd) g2 (zqc [(55, 1, 1, .c (di v1)), (55, 2, 1, .q (xb true))] [] (ob (zAe k p0 _ h2) (ob (o_b h3) ob0)) (by kernel_rfl))
 ·refine zn g2 (fun h4 g3 => ?_) (fun h4 g3 => ?_)
  ·exact zJ (g := zGd) g3 (zqc [(55, 1, 1, .c (di v1)), (55, 2, 1, .q (xb false)), (55, 4, 1, .q (xb true))] [] (ob (zAe k p0 _ h2) (ob (o_b h3) (ob (o_b h4) ob0))) (by kernel_rfl))
  ·refine zk g3 (fun v5 h6 g4 => ?_)
   refine zn g4 (fun h7 g5 => ?_) (fun h7 g5 => ?_)
   ·exact zJ (g := zGd) g5 (zqc [(55, 1, 1, .c (di v1)), (55, 2, 1, .q (xb false)), (55, 4, 1, .q (xb false)), (55, 6, 1, .c (db v5)), (55, 6, 2, .q (xb true))] [] (ob (zAe k p0 _ h2) (ob (o_b h3) (ob (o_b h4) (ob (z0i k p0 0 _ h6) (ob (o_b h7) ob0))))) (by kernel_rfl))
   ·exact zJ (g := zGd) g5 (zqc [(55, 1, 1, .c (di v1)), (55, 2, 1, .q (xb false)), (55, 4, 1, .q (xb false)), (55, 6, 1, .c (db v5)), (55, 6, 2, .q (xb false))] [] (ob (zAe k p0 _ h2) (ob (o_b h3) (ob (o_b h4) (ob (z0i k p0 0 _ h6) (ob (o_b h7) ob0))))) (by kernel_rfl))
noncomputable def ziB (p0 : (SL zx)) (p1 : Int) (r : (Bool × (List zi))) (s1_3 s7_5 : Int) : TM := [(0, (.d (dl zI p0.1 p0.2))), (1, (xi p1)), (4, (.d (.sl [] .nil))), (5, (.row 0 5 r.2.length)), (6, (xi s1_3)), (11, (xb true)), (7, (xi s7_5)), (21, (xb true)), (34, (xb r.1))]
noncomputable def z5d (p0 : (SL zx)) (p1 s1_3 s7_5 : Int) (s7_6 : zt9) (cb : Bool) (r : (Bool × (List zi))) : St := ⟨(ziB p0 p1 r s1_3 s7_5), ⟨[(5, (rowO true 2 zz r.2 true))], []⟩, []⟩
noncomputable def zIB (p0 : (SL zx)) (p1 : Int) (s7_6 : zt9) (s1_3 s7_5 : Int) (cb : Bool) : TM := [(0, (.d (dl zI p0.1 p0.2))), (1, (xi p1)), (4, (.d (.sl [] .nil))), (5, (.row 0 5 s7_6.length)), (6, (xi s1_3)), (11, (xb true)), (7, (xi s7_5)), (21, (xb true)), (34, (xb cb))]
theorem znn (k : Nat) (p0 : (SL zx)) (p1 s1_3 s7_5 : Int) (s7_6 : zt9) (cb : Bool) (r : (Bool × (List zi))) (h : zyd k p0 p1 s1_3 s7_5 s7_6 cb = some r) : ev TE 58 (cnd TE 58 34) ⟨(zIB p0 p1 s7_6 s1_3 s7_5 cb), ⟨[(5, (rowO true 2 zz s7_6 true))], []⟩, []⟩ = some (.nor, z5d p0 p1 s1_3 s7_5 s7_6 cb r) := by
 unfold zyd at h
 refine zn h (fun h1001 g1 => ?_) (fun h1001 g1 => ?_)
 ·subst h1001
  refine zk g1 (fun v1002 h1003 g2 => ?_)
  refine zk g2 (fun v1004 h1005 g3 => ?_)
  refine zT g3 (fun h1006 g4 => ?_)
  exact zA (g := fun r => (Ex.nor, z5d p0 p1 s1_3 s7_5 s7_6 true r)) g4 (zqe [(58, 9, 3, .q (.d (.pin (zI v1002)))), (58, 9, 8, .q (.d (.pin [(di v1004.Low), (di v1004.High)]))), (58, 9, 11, .ap (s7_6 ++ [v1004]).length (rowO true 2 zz (s7_6 ++ [v1004]) true))] [] (ob (o_ia (e := zI) 3 h1003 rfl) (ob (o_ia (e := zz) 2 h1005 rfl) (ob (o_ap (b := true) (z := 2) (e := zz) (l := s7_6) (w := true) v1004 (fun _ => rfl) h1006) ob0))) (by kernel_rfl))
 ·subst h1001
  exact zA (g := fun r => (Ex.nor, z5d p0 p1 s1_3 s7_5 s7_6 false r)) g1 (zqe [] [] ob0 (by kernel_rfl))
noncomputable def zYC (p0 : (SL zx)) (p1 : Int) (s7_6 : zt9) (s1_3 s7_5 : Int) : TM := [(0, (.d (dl zI p0.1 p0.2))), (1, (xi p1)), (4, (.d (.sl [] .nil))), (5, (.row 0 5 s7_6.length)), (6, (xi s1_3)), (11, (xb true)), (7, (xi s7_5))]
noncomputable def zBn (p0 : (SL zx)) (p1 s1_3 s7_5 : Int) (s7_6 : zt9) : St := ⟨(zYC p0 p1 s7_6 s1_3 s7_5), ⟨[(5, (rowO true 2 zz s7_6 true))], []⟩, []⟩
noncomputable def zpB (p0 : (SL zx)) (p1 : Int) (r : zt13) (s1_3 : Int) : TM := [(0, (.d (dl zI p0.1 p0.2))), (1, (xi p1)), (4, (.d (.sl [] .nil))), (5, (.row 0 5 r.2.length)), (6, (xi s1_3)), (11, (xb true)), (7, (xi r.1)), (21, (xb false))]
noncomputable def zGf (p0 : (SL zx)) (p1 s1_3 : Int) (r : zt13) : St := ⟨(zpB p0 p1 r s1_3), ⟨[(5, (rowO true 2 zz r.2 true))], []⟩, []⟩
noncomputable def zRn (p0 : (SL zx)) (p1 s1_3 : Int) : (Int × (List zi)) → Ex × St := fun r => ((.exit 2), zGf p0 p1 s1_3 r)
theorem zpn (k : Nat) (p0 : (SL zx)) (p1 s1_3 s7_5 : Int) (s7_6 : zt9) (x : (Int × (List zi)) ⊕ (Int × (List zi))) (h : zzc k p0 p1 s1_3 s7_5 s7_6 = some x) : zQ TE 58 (blk TE 58 2) (fun s : (Int × (List zi)) => zBn p0 p1 s1_3 s.1 s.2) (zRn p0 p1 s1_3) (s7_5, s7_6) x := by
 unfold zzc at h
 refine zk h (fun v901 h902 g1 => ?_)
 refine zn g1 (fun h903 g2 => ?_) (fun h903 g2 => ?_)
 ·refine zk g2 (fun v904 h905 g3 => ?_)
  refine zk g3 (fun v906 h907 g4 => ?_)
  refine zk g4 (fun v908 h909 g5 => ?_)
  exact zqn ((w64 (s7_5 + 1)), v908.2) [5] [(58, 6, 3, .q (.d (.pin (zI v901)))), (58, 6, 6, .q (xi (v901.events.1.length : Int))), (58, 6, 7, .q (xb true)), (58, 8, 2, .q (.d (.pin (zI v904)))), (58, 8, 6, .q (.d (.pin (zm v906))))] [(58, 2000034, (.nor, z5d p0 p1 s1_3 s7_5 s7_6 (v906.day == p1) v908))] g5 (ob (o_ia (e := zI) 3 h902 rfl) (ob (zy zm v901.events.1) (ob (o_b h903) (ob (o_ia (e := zI) 3 h905 rfl) (ob (o_ia (e := zm) 6 h907 rfl) (ob (znn k p0 p1 s1_3 s7_5 s7_6 (v906.day == p1) _ h909) (ob (zgc true 2 zz v908.2 true) ob0))))))) (by kernel_rfl)
 ·exact zqo [(58, 6, 3, .q (.d (.pin (zI v901)))), (58, 6, 6, .q (xi (v901.events.1.length : Int))), (58, 6, 7, .q (xb false))] [] g2 (ob (o_ia (e := zI) 3 h902 rfl) (ob (zy zm v901.events.1) (ob (o_b h903) ob0))) (by kernel_rfl)
noncomputable def zqC (p0 : (SL zx)) (p1 : Int) (s1_4 : zt9) (s1_3 : Int) : TM := [(0, (.d (dl zI p0.1 p0.2))), (1, (xi p1)), (4, (.d (.sl [] .nil))), (5, (.row 0 5 s1_4.length)), (6, (xi s1_3))]
noncomputable def zNn (p0 : (SL zx)) (p1 s1_3 : Int) (s1_4 : zt9) : St := ⟨(zqC p0 p1 s1_4 s1_3), ⟨[(5, (rowO true 2 zz s1_4 true))], []⟩, []⟩
noncomputable def zaC (p0 : (SL zx)) (p1 : Int) (r : zt13) : TM := [(0, (.d (dl zI p0.1 p0.2))), (1, (xi p1)), (4, (.d (.sl [] .nil))), (5, (.row 0 5 r.2.length)), (6, (xi r.1)), (11, (xb false))]
noncomputable def zNf (p0 : (SL zx)) (p1 : Int) (r : zt13) : St := ⟨(zaC p0 p1 r), ⟨[(5, (rowO true 2 zz r.2 true))], []⟩, []⟩
noncomputable def zAn (p0 : (SL zx)) (p1 : Int) : (Int × (List zi)) → Ex × St := fun r => ((.exit 0), zNf p0 p1 r)
theorem zun (k : Nat) (p0 : (SL zx)) (p1 s1_3 : Int) (s1_4 : zt9) (x : (Int × (List zi)) ⊕ (Int × (List zi))) (h : zzd k p0 p1 s1_3 s1_4 = some x) : zQ TE 58 (blk TE 58 0) (fun s : (Int × (List zi)) => zNn p0 p1 s.1 s.2) (zAn p0 p1) (s1_3, s1_4) x := by
 unfold zzd at h
 refine zn h (fun h701 g1 => ?_) (fun h701 g1 => ?_)
 ·refine zk g1 (fun v702 h703 g2 => ?_)
  exact zqn ((w64 (s1_3 + 1)), v702.2) [5] [(58, 3, 2, .q (xi (p0.1.length : Int))), (58, 3, 3, .q (xb true))] [(58, 2, (.nor, zGf p0 p1 s1_3 v702))] g2 (ob (zy zI p0.1) (ob (o_b h701) (ob (zG (id := 2) (r' := (.nor, zGf p0 p1 s1_3 v702)) (zib (zpn k p0 p1 s1_3) k _ _ h703) rfl) (ob (zgc true 2 zz v702.2 true) ob0)))) (by kernel_rfl)
 ·exact zqo [(58, 3, 2, .q (xi (p0.1.length : Int))), (58, 3, 3, .q (xb false))] [] g1 (ob (zy zI p0.1) (ob (o_b h701) ob0)) (by kernel_rfl)
theorem zip (k : Nat) (p0 : (SL zx)) (p1 : Int) (r : (SL zi)) (h : zCd k p0 p1 = some r) : zM TE (ev TE) 58 [(dl zI p0.1 p0.2), (di p1)] = some (z3j r) := by
 unfold zCd at h
 refine zk h (fun v1 h2 g1 => ?_)
 exact zJ (g := z3j) g1 (zqr [] [(58, 0, (.nor, zNf p0 p1 v1))] [(dl zz v1.2 (rcap true v1.2))] (ob (zG (id := 0) (r' := (.nor, zNf p0 p1 v1)) (zib (zun k p0 p1) k _ _ h2) rfl) (ob (show zpc ⟨[(5, (rowO true 2 zz v1.2 true))], []⟩ _ = _ from (o_s1 (x := (.row 0 5 v1.2.length)) (zAj true 2 zz v1.2 true rfl) o_s0)) ob0)) (by kernel_rfl))
theorem zak (k : Nat) (p0 : zi) (p1 : Int) (r : Bool) (h : zdf k p0 p1 = some r) : zM TE (ev TE) 39 [(.agg [(di p0.Low), (di p0.High)]), (di p1)] = some (zlk r) := by
 unfold zdf at h
 refine zk h (fun v1 h2 g1 => ?_)
 exact zJ (g := zlk) g1 (zqc [(39, 1, 5, .c (db v1))] [] (ob (zN k p1 p0.Low p0.High _ h2) ob0) (by kernel_rfl))
noncomputable def zZA (p0 : (SL zi)) (p1 s1_3 : Int) : TM := [(0, (.d (dl zz p0.1 p0.2))), (1, (xi p1)), (4, (xb false)), (5, (xi s1_3))]
noncomputable def zVn (p0 : (SL zi)) (p1 s1_3 : Int) : St := ⟨(zZA p0 p1 s1_3), ⟨[], []⟩, []⟩
noncomputable def zpC (p0 : (SL zi)) (p1 r : Int) : TM := [(0, (.d (dl zz p0.1 p0.2))), (1, (xi p1)), (4, (xb true)), (5, (xi r)), (9, (xb true)), (17, (xb true))]
noncomputable def zSf (p0 : (SL zi)) (p1 r : Int) : St := ⟨(zpC p0 p1 r), ⟨[], []⟩, []⟩
noncomputable def z6A (p0 : (SL zi)) (p1 r : Int) : TM := [(0, (.d (dl zz p0.1 p0.2))), (1, (xi p1)), (4, (xb false)), (5, (xi r)), (9, (xb false))]
noncomputable def zAf (p0 : (SL zi)) (p1 r : Int) : St := ⟨(z6A p0 p1 r), ⟨[], []⟩, []⟩
noncomputable def zIn (p0 : (SL zi)) (p1 : Int) : (Int ⊕ Int) → Ex × St := Sum.elim (fun r => (.ret, zSf p0 p1 r)) (fun r => ((.exit 0), zAf p0 p1 r))
theorem z3h (k : Nat) (p0 : (SL zi)) (p1 s1_3 : Int) (x : Int ⊕ (Int ⊕ Int)) (h : zAd k p0 p1 s1_3 = some x) : zQ TE 64 (blk TE 64 0) (fun s : Int => zVn p0 p1 s) (zIn p0 p1) s1_3 x := by
 unfold zAd at h
 refine zn h (fun h201 g1 => ?_) (fun h201 g1 => ?_)
 ·refine zk g1 (fun v202 h203 g2 => ?_)
  refine zk g2 (fun v204 h205 g3 => ?_)
  refine zn g3 (fun h206 g4 => ?_) (fun h206 g4 => ?_)
  ·subst h206
   exact zqo [(64, 2, 2, .q (xi (p0.1.length : Int))), (64, 2, 3, .q (xb true)), (64, 4, 2, .q (.d (.pin [(di v202.Low), (di v202.High)]))), (64, 4, 5, .c (db true))] [] g4 (ob (zy zz p0.1) (ob (o_b h201) (ob (o_ia (e := zz) 2 h203 rfl) (ob (zak k v202 p1 _ h205) ob0)))) (by kernel_rfl)
  ·subst h206
   exact zqn (w64 (s1_3 + 1)) [] [(64, 2, 2, .q (xi (p0.1.length : Int))), (64, 2, 3, .q (xb true)), (64, 4, 2, .q (.d (.pin [(di v202.Low), (di v202.High)]))), (64, 4, 5, .c (db false))] [] g4 (ob (zy zz p0.1) (ob (o_b h201) (ob (o_ia (e := zz) 2 h203 rfl) (ob (zak k v202 p1 _ h205) ob0)))) (by kernel_rfl)
 ·exact zqo [(64, 2, 2, .q (xi (p0.1.length : Int))), (64, 2, 3, .q (xb false))] [] g1 (ob (zy zz p0.1) (ob (o_b h201) ob0)) (by kernel_rfl)
theorem zpp (k : Nat) (p0 : (SL zi)) (p1 : Int) (r : Bool) (h : zQe k p0 p1 = some r) : zM TE (ev TE) 64 [(dl zz p0.1 p0.2), (di p1)] = some (zrh r) := by
 unfold zQe at h
 refine zk h (fun v1 h2 g1 => ?_)
 refine zwd g1 (fun v4 hh g2_0 => ?_) (fun v4 hh g2_0 => ?_)
 ·subst hh
  exact zJ (g := zrh) g2_0 (zqc [] [(64, 0, (.ret, zSf p0 p1 v4))] (ob (zG (id := 0) (r' := (.ret, zSf p0 p1 v4)) (ztc (z3h k p0 p1) k _ _ h2) rfl) ob0) (by kernel_rfl))
 ·subst hh
  exact zJ (g := zrh) g2_0 (zqc [] [(64, 0, (.nor, zAf p0 p1 v4))] (ob (zG (id := 0) (r' := (.nor, zAf p0 p1 v4)) (ztc (z3h k p0 p1) k _ _ h2) rfl) ob0) (by kernel_rfl))
theorem z2j (k : Nat) (p0 : za) (p1 p2 p3 : Int) (r : zt1) (h : zff k p0 p1 p2 p3 = some r) : zM TE (ev TE) 21 [(.agg (zb p0)), (di p1), (di p2), (di p3)] = some (zOh r) := by
 unfold zff at h
 refine zk h (fun v1 h2 g1 => ?_)
 refine zk g1 (fun v3 h4 g2 => ?_)
 refine zn g2 (fun h5 g3 => ?_) (fun h5 g3 => ?_)
 ·exact zJ (g := zOh) g3 (zqc [(21, 1, 4, .c (db v1)), (21, 1, 5, .c (di v3)), (21, 2, 1, .q (xb true))] [] (ob (z6i k p0 p1 p2 _ h2) (ob (z5i k p0 v1 _ h4) (ob (o_b h5) ob0))) (by kernel_rfl))
 ·refine zk g3 (fun v6 h7 g4 => ?_)
  refine zk g4 (fun v8 h9 g5 => ?_)
  refine zk g5 (fun v10 h11 g6 => ?_)
  exact zJ (g := zOh) g6 (zqc [(21, 1, 4, .c (db v1)), (21, 1, 5, .c (di v3)), (21, 2, 1, .q (xb false)), (21, 4, 2, .c (dl zI v6.1 v6.2)), (21, 4, 4, .c (dl zz v8.1 v8.2)), (21, 4, 6, .c (db v10))] [] (ob (z6i k p0 p1 p2 _ h2) (ob (z5i k p0 v1 _ h4) (ob (o_b h5) (ob (zgg k p0 p1 0 _ h7) (ob (zip k v6 p2 _ h9) (ob (zpp k v8 p3 _ h11) ob0)))))) (by kernel_rfl))
noncomputable def zgB (p0 : za) (p1 p2 p3 : Int) (v1 : zt1) (r : Bool) : TM := [(0, (.d (.agg (zb p0)))), (1, (xi p1)), (2, (xi p2)), (3, (xi p3)), (zsp 4), (8, (xi 0)), (9, (xb v1.1)), (10, (xi v1.2)), (24, (xb r))]
noncomputable def zYc (p0 : za) (p1 p2 p3 : Int) (v1 : zt1) (r : Bool) : St := ⟨(zgB p0 p1 p2 p3 v1 r), ⟨[(zc 4 (zb p0))], []⟩, []⟩
noncomputable def z0B (p0 : za) (p1 p2 p3 : Int) (v1 : zt1) : TM := [(0, (.d (.agg (zb p0)))), (1, (xi p1)), (2, (xi p2)), (3, (xi p3)), (zsp 4), (8, (xi 0)), (9, (xb v1.1)), (10, (xi v1.2))]
theorem z4h (k : Nat) (p0 : za) (p1 p2 p3 : Int) (v1 : zt1) (r : Bool) (h : zSe k p0 p1 p2 p3 v1 = some r) : ev TE 31 (rgn TE 31 2) ⟨(z0B p0 p1 p2 p3 v1), ⟨[(zc 4 (zb p0))], []⟩, []⟩ = some (.nor, zYc p0 p1 p2 p3 v1 r) := by
 unfold zSe at h
 refine zn h (fun h201 g1 => ?_) (fun h201 g1 => ?_)
 ·exact zA (g := fun r => (Ex.nor, zYc p0 p1 p2 p3 v1 r)) g1 (zqe [(31, 2, 2, .q (xb true))] [] (ob (o_b h201) ob0) (by kernel_rfl))
 ·exact zA (g := fun r => (Ex.nor, zYc p0 p1 p2 p3 v1 r)) g1 (zqe [(31, 2, 2, .q (xb false))] [] (ob (o_b h201) ob0) (by kernel_rfl))
theorem zYb (k : Nat) (p0 : za) (p1 p2 p3 r : Int) (h : zJe k p0 p1 p2 p3 = some r) : zM TE (ev TE) 31 [(.agg (zb p0)), (di p1), (di p2), (di p3)] = some (zvh r) := by
 unfold zJe at h
 refine zk h (fun v1 h2 g1 => ?_)
 refine zk g1 (fun v3 h4 g2 => ?_)
 refine zn g2 (fun h5 g3 => ?_) (fun h5 g3 => ?_)
 ·subst h5
  exact zJ (g := zvh) g3 (zqc [(31, 1, 4, .c (.tup [(db v1.1), (di v1.2)]))] [(31, 1000002, (.nor, zYc p0 p1 p2 p3 v1 true))] (ob (z2j k p0 p1 p2 p3 _ h2) (ob (z4h k p0 p1 p2 p3 v1 _ h4) ob0)) (by kernel_rfl))
 ·subst h5
  exact zJ (g := zvh) g3 (zqc [(31, 1, 4, .c (.tup [(db v1.1), (di v1.2)]))] [(31, 1000002, (.nor, zYc p0 p1 p2 p3 v1 false))] (ob (z2j k p0 p1 p2 p3 _ h2) (ob (z4h k p0 p1 p2 p3 v1 _ h4) ob0)) (by kernel_rfl))
end Go.AM

