/- The statement ShelfWas holds for every input that its row lets in. Conditions: none. -/
import Derived.Test.YtfoohlabifhplaaDoorC
set_option linter.all false
set_option linter.unusedVariables false
set_option maxRecDepth 100000
namespace Go.AM
open Go Go.Proofs
def zsp (n : Nat) : Nat × X := (n, .ptr 0 n 0)
def zc (n : Nat) (l : List D) : Nat × O := (n, .cells (l.map .d))
section
variable {E : Env} {fid : Nat} {c : Code}
theorem zqn {S R : Type} {S0 : S → St} {R0 : R → Ex × St} {s : S} {x : S ⊕ R} (s' : S) (rs : List Nat) (V : Ovs) (C : Cuts) (h : some (Sum.inl s') = some x) {P : List Prop} (hP : All P) (hr : loopV E V C rs 80 fid c (S0 s) = some (.inl (S0 s'), P)) : LoopOK E fid c S0 R0 s x := next_ok h hP hr
theorem zqo {S R : Type} {S0 : S → St} {R0 : R → Ex × St} {s : S} {r : R} {x : S ⊕ R} (V : Ovs) (C : Cuts) (h : some (Sum.inr r) = some x) {P : List Prop} (hP : All P) (hr : loopV E V C [] 80 fid c (S0 s) = some (.inr (R0 r), P)) : LoopOK E fid c S0 R0 s x := out_ok h hP hr
theorem z9b {A0 R : Type} {S0 : A0 → St} {R0 : R → Ex × St} {W : A0 → Option ((A0) ⊕ R)} (h : ∀ b0 x, W b0 = some x → LoopOK E fid c S0 R0 b0 x) : ∀ (m : Nat) (s : A0) (r : R), iter (fun s => W s) m s = some r → ev E fid c (S0 s) = some (R0 r) := iter_ok fun s x e => h s x e
theorem zU {A0 A1 R : Type} {S0 : A0 × A1 → St} {R0 : R → Ex × St} {W : A0 → A1 → Option ((A0 × A1) ⊕ R)} (h : ∀ b0 b1 x, W b0 b1 = some x → LoopOK E fid c S0 R0 (b0, b1) x) : ∀ (m : Nat) (s : A0 × A1) (r : R), iter (fun s => W s.1 s.2) m s = some r → ev E fid c (S0 s) = some (R0 r) := iter_ok fun s x e => h s.1 s.2 x e
theorem zxm {A0 A1 A2 R : Type} {S0 : A0 × A1 × A2 → St} {R0 : R → Ex × St} {W : A0 → A1 → A2 → Option ((A0 × A1 × A2) ⊕ R)} (h : ∀ b0 b1 b2 x, W b0 b1 b2 = some x → LoopOK E fid c S0 R0 (b0, b1, b2) x) : ∀ (m : Nat) (s : A0 × A1 × A2) (r : R), iter (fun s => W s.1 s.2.1 s.2.2) m s = some r → ev E fid c (S0 s) = some (R0 r) := iter_ok fun s x e => h s.1 s.2.1 s.2.2 x e
theorem zCm {A0 A1 A2 A3 R : Type} {S0 : A0 × A1 × A2 × A3 → St} {R0 : R → Ex × St} {W : A0 → A1 → A2 → A3 → Option ((A0 × A1 × A2 × A3) ⊕ R)} (h : ∀ b0 b1 b2 b3 x, W b0 b1 b2 b3 = some x → LoopOK E fid c S0 R0 (b0, b1, b2, b3) x) : ∀ (m : Nat) (s : A0 × A1 × A2 × A3) (r : R), iter (fun s => W s.1 s.2.1 s.2.2.1 s.2.2.2) m s = some r → ev E fid c (S0 s) = some (R0 r) := iter_ok fun s x e => h s.1 s.2.1 s.2.2.1 s.2.2.2 x e
theorem zGp {A0 A1 A2 A3 A4 R : Type} {S0 : A0 × A1 × A2 × A3 × A4 → St} {R0 : R → Ex × St} {W : A0 → A1 → A2 → A3 → A4 → Option ((A0 × A1 × A2 × A3 × A4) ⊕ R)} (h : ∀ b0 b1 b2 b3 b4 x, W b0 b1 b2 b3 b4 = some x → LoopOK E fid c S0 R0 (b0, b1, b2, b3, b4) x) : ∀ (m : Nat) (s : A0 × A1 × A2 × A3 × A4) (r : R), iter (fun s => W s.1 s.2.1 s.2.2.1 s.2.2.2.1 s.2.2.2.2) m s = some r → ev E fid c (S0 s) = some (R0 r) := iter_ok fun s x e => h s.1 s.2.1 s.2.2.1 s.2.2.2.1 s.2.2.2.2 x e
theorem zHp {A0 A1 A2 A3 A4 A5 R : Type} {S0 : A0 × A1 × A2 × A3 × A4 × A5 → St} {R0 : R → Ex × St} {W : A0 → A1 → A2 → A3 → A4 → A5 → Option ((A0 × A1 × A2 × A3 × A4 × A5) ⊕ R)} (h : ∀ b0 b1 b2 b3 b4 b5 x, W b0 b1 b2 b3 b4 b5 = some x → LoopOK E fid c S0 R0 (b0, b1, b2, b3, b4, b5) x) : ∀ (m : Nat) (s : A0 × A1 × A2 × A3 × A4 × A5) (r : R), iter (fun s => W s.1 s.2.1 s.2.2.1 s.2.2.2.1 s.2.2.2.2.1 s.2.2.2.2.2) m s = some r → ev E fid c (S0 s) = some (R0 r) := iter_ok fun s x e => h s.1 s.2.1 s.2.2.1 s.2.2.2.1 s.2.2.2.2.1 s.2.2.2.2.2 x e
theorem zqe {st : St} {r : Ex × St} {P : List Prop} (V : Ovs) (C : Cuts) (hP : All P) (h : evV E V C 80 fid c st = some (r, P)) : ev E fid c st = some r := evV_ok hP h
theorem zqc {f : Nat} {ds : List D} {d : D} {P : List Prop} (V : Ovs) (C : Cuts) (hP : All P) (h : callV E V C 80 f ds = some (d, P)) : callP E (ev E) f ds = some d := callV_ok hP h
theorem zqr {f : Nat} {ds : List D} {d : D} {P : List Prop} (V : Ovs) (C : Cuts) (res : List D) (hP : All P) (h : callVR E V C 80 f ds res = some (d, P)) : callP E (ev E) f ds = some d := callVR_ok hP h
end
section
variable {α : Type}
theorem zqa (T : TypeId) (bt lv s : Nat) (n : Int) (b : Bool) (z : Nat) (e : α → List D) (l : List α) (w : Bool) {y : α} (ha : arT TE.P T = none) (hs : slT TE.P T = some (z, bt)) (h : idx l n = some y) : iaX TE.P (fun _ _ => some (rowO b z e l w)) T (.row lv s l.length) (xi n) = some (.rp lv s l.length n.toNat 0) := o_ria ha hs h
theorem zql (T : TypeId) (q : Nat × Bool) (lv s o : Nat) (n : Int) (x : X) (b : Bool) (z : Nat) (e : α → List D) (l : List α) (w : Bool) {y : α} (ht : tyT TE.P T = some q) (h : idx l n = some y) (hx : (grabD q.2 q.1 ((e y).drop o)).map X.d = some x) : ldX TE.P (fun _ _ => some (rowO b z e l w)) T (.rp lv s l.length n.toNat o) = some x := o_rld ht h hx
theorem zqf (T : TypeId) (q : Nat × Nat × Bool) (lv s o f : Nat) (n : Int) (b : Bool) (z : Nat) (e : α → List D) (l : List α) (w : Bool) {y : α} (hf : fdT TE.P T f = some q) (hq : q.2.1 ≠ 0) (h : idx l n = some y) : faX TE.P (fun _ _ => some (rowO b z e l w)) T (.rp lv s l.length n.toNat o) f = some (.rp lv s l.length n.toNat (o + q.1)) := o_rfa hf hq h
end
theorem zD (k : Nat) (p0 p1 p2 : Int) (r : Bool) (h : zN k p0 p1 p2 = some r) : callP TE (ev TE) 60 [(di p0), (di p1), (di p2)] = some (zBh r) := by
 unfold zN at h
 refine cond_ok h (fun h1 g1 => ?_) (fun h1 g1 => ?_)
 ·exact fin_ok (g := zBh) g1 (zqc [(60, 1, 3, .q (xb true))] [] (ob (o_b h1) ob0) (by kernel_rfl))
 ·exact fin_ok (g := zBh) g1 (zqc [(60, 1, 3, .q (xb false))] [] (ob (o_b h1) ob0) (by kernel_rfl))
theorem z9c (k : Nat) (p0 : zb) (p1 p2 : Int) (r : Bool) (h : zBe k p0 p1 p2 = some r) : callP TE (ev TE) 52 [(.agg (za p0)), (di p1), (di p2)] = some (zJh r) := by
 unfold zBe at h
 refine bind_ok h (fun v1 h2 g1 => ?_)
 refine cond_ok g1 (fun h3 g2 => ?_) (fun h3 g2 => ?_)
 ·refine bind_ok g2 (fun v4 h5 g3 => ?_)
  exact fin_ok (g := zJh) g3 (zqc [(52, 1, 3, .q (xi (p0.Shelves.1.length : Int))), (52, 1, 5, .c (db v1)), (52, 1, 6, .q (xb true)), (52, 1, 11, .c (db v4))] [] (ob (o_len zk p0.Shelves.1) (ob (zD k p1 0 (w64 ((p0.Shelves.1.length : Int) - 1)) _ h2) (ob (o_b h3) (ob (zD k p2 0 (w64 (p0.Days - 1)) _ h5) ob0)))) (by kernel_rfl))
 ·exact fin_ok (g := zJh) g2 (zqc [(52, 1, 3, .q (xi (p0.Shelves.1.length : Int))), (52, 1, 5, .c (db v1)), (52, 1, 6, .q (xb false))] [] (ob (o_len zk p0.Shelves.1) (ob (zD k p1 0 (w64 ((p0.Shelves.1.length : Int) - 1)) _ h2) (ob (o_b h3) ob0))) (by kernel_rfl))
theorem z5e (k : Nat) (p0 : zj) (p1 p2 : Int) (r : Bool) (h : zNd k p0 p1 p2 = some r) : callP TE (ev TE) 61 [(.agg [(di p0.Low), (di p0.High)]), (di p1), (di p2)] = some (zmg r) := by
 unfold zNd at h
 refine cond_ok h (fun h1 g1 => ?_) (fun h1 g1 => ?_)
 ·refine cond_ok g1 (fun h2 g2 => ?_) (fun h2 g2 => ?_)
  ·exact fin_ok (g := zmg) g2 (zqc [(61, 1, 4, .q (xb true)), (61, 1, 11, .q (xb true))] [] (ob (o_b h1) (ob (o_b h2) ob0)) (by kernel_rfl))
  ·exact fin_ok (g := zmg) g2 (zqc [(61, 1, 4, .q (xb true)), (61, 1, 11, .q (xb false))] [] (ob (o_b h1) (ob (o_b h2) ob0)) (by kernel_rfl))
 ·exact fin_ok (g := zmg) g1 (zqc [(61, 1, 4, .q (xb false))] [] (ob (o_b h1) ob0) (by kernel_rfl))
noncomputable def zk1 (p0 : zb) (r : Bool) : TM := [(0, (.d (.agg (za p0)))), (zsp 1), (2, (xi 0)), (3, (xb r))]
noncomputable def z3b (p0 : zb) (r : Bool) : St := ⟨(zk1 p0 r), ⟨[(zc 1 (za p0))], []⟩, []⟩
theorem zDi (k : Nat) (p0 : zb) (r : Bool) (h : ztf k p0 = some r) : ev TE 18 (rgn TE 18 1) ⟨[(0, (.d (.agg (za p0)))), (zsp 1), (2, (xi 0))], ⟨[(zc 1 (za p0))], []⟩, []⟩ = some (.nor, z3b p0 r) := by
 unfold ztf at h
 refine bind_ok h (fun v201 h202 g1 => ?_)
 refine cond_ok g1 (fun h203 g2 => ?_) (fun h203 g2 => ?_)
 ·refine bind_ok g2 (fun v204 h205 g3 => ?_)
  refine cond_ok g3 (fun h206 g4 => ?_) (fun h206 g4 => ?_)
  ·refine cond_ok g4 (fun h207 g5 => ?_) (fun h207 g5 => ?_)
   ·refine cond_ok g5 (fun h208 g6 => ?_) (fun h208 g6 => ?_)
    ·exact fin2_ok (g := fun r => (Ex.nor, z3b p0 r)) g6 (zqe [(18, 1, 2, .c (db v201)), (18, 1, 3, .q (xb true)), (18, 1, 6, .q (xi (p0.Shelves.1.length : Int))), (18, 1, 7, .c (db v204)), (18, 1, 9, .q (xb true)), (18, 1, 12, .q (xi (p0.Moves.1.length : Int))), (18, 1, 15, .q (xb true)), (18, 1, 18, .q (xi (p0.Deliveries.1.length : Int))), (18, 1, 21, .q (xb true)), (18, 1, 24, .q (xi (p0.Counts.1.length : Int)))] [] (ob (zD k p0.Days 1 12 _ h202) (ob (o_b h203) (ob (o_len zk p0.Shelves.1) (ob (zD k (p0.Shelves.1.length : Int) 1 4 _ h205) (ob (o_b h206) (ob (o_len zl p0.Moves.1) (ob (o_b h207) (ob (o_len zh p0.Deliveries.1) (ob (o_b h208) (ob (o_len zi p0.Counts.1) ob0)))))))))) (by kernel_rfl))
    ·exact fin2_ok (g := fun r => (Ex.nor, z3b p0 r)) g6 (zqe [(18, 1, 2, .c (db v201)), (18, 1, 3, .q (xb true)), (18, 1, 6, .q (xi (p0.Shelves.1.length : Int))), (18, 1, 7, .c (db v204)), (18, 1, 9, .q (xb true)), (18, 1, 12, .q (xi (p0.Moves.1.length : Int))), (18, 1, 15, .q (xb true)), (18, 1, 18, .q (xi (p0.Deliveries.1.length : Int))), (18, 1, 21, .q (xb false))] [] (ob (zD k p0.Days 1 12 _ h202) (ob (o_b h203) (ob (o_len zk p0.Shelves.1) (ob (zD k (p0.Shelves.1.length : Int) 1 4 _ h205) (ob (o_b h206) (ob (o_len zl p0.Moves.1) (ob (o_b h207) (ob (o_len zh p0.Deliveries.1) (ob (o_b h208) ob0))))))))) (by kernel_rfl))
   ·exact fin2_ok (g := fun r => (Ex.nor, z3b p0 r)) g5 (zqe [(18, 1, 2, .c (db v201)), (18, 1, 3, .q (xb true)), (18, 1, 6, .q (xi (p0.Shelves.1.length : Int))), (18, 1, 7, .c (db v204)), (18, 1, 9, .q (xb true)), (18, 1, 12, .q (xi (p0.Moves.1.length : Int))), (18, 1, 15, .q (xb false))] [] (ob (zD k p0.Days 1 12 _ h202) (ob (o_b h203) (ob (o_len zk p0.Shelves.1) (ob (zD k (p0.Shelves.1.length : Int) 1 4 _ h205) (ob (o_b h206) (ob (o_len zl p0.Moves.1) (ob (o_b h207) ob0))))))) (by kernel_rfl))
  ·exact fin2_ok (g := fun r => (Ex.nor, z3b p0 r)) g4 (zqe [(18, 1, 2, .c (db v201)), (18, 1, 3, .q (xb true)), (18, 1, 6, .q (xi (p0.Shelves.1.length : Int))), (18, 1, 7, .c (db v204)), (18, 1, 9, .q (xb false))] [] (ob (zD k p0.Days 1 12 _ h202) (ob (o_b h203) (ob (o_len zk p0.Shelves.1) (ob (zD k (p0.Shelves.1.length : Int) 1 4 _ h205) (ob (o_b h206) ob0))))) (by kernel_rfl))
 ·exact fin2_ok (g := fun r => (Ex.nor, z3b p0 r)) g2 (zqe [(18, 1, 2, .c (db v201)), (18, 1, 3, .q (xb false))] [] (ob (zD k p0.Days 1 12 _ h202) (ob (o_b h203) ob0)) (by kernel_rfl))
noncomputable def zk2 (p0 : zb) (r : Bool) (s2_9 : Int) : TM := zk1 p0 r ++ [(40, (.d (dl zk p0.Shelves.1 p0.Shelves.2))), (41, (xi (p0.Shelves.1.length : Int))), (42, (xi s2_9)), (43, (xb true)), (zsp 5)]
noncomputable def zEe (p0 : zb) (s2_6 : Bool) (s2_9 : Int) (v402 : zJ) (r : Bool) : St := ⟨(zk2 p0 r s2_9), ⟨[(zc 1 (za p0)), (zc 5 (zk v402))], []⟩, []⟩
noncomputable def zk3 (p0 : zb) (s2_6 : Bool) (s2_9 : Int) : TM := [(0, (.d (.agg (za p0)))), (zsp 1), (2, (xi 0)), (3, (xb s2_6)), (40, (.d (dl zk p0.Shelves.1 p0.Shelves.2))), (41, (xi (p0.Shelves.1.length : Int))), (42, (xi s2_9)), (43, (xb true)), (zsp 5)]
theorem zLl (k : Nat) (p0 : zb) (s2_6 : Bool) (s2_9 : Int) (v402 : zJ) (r : Bool) (h : zof k p0 s2_6 s2_9 v402 = some r) : ev TE 18 (rgn TE 18 5) ⟨(zk3 p0 s2_6 s2_9), ⟨[(zc 1 (za p0)), (zc 5 (zk v402))], []⟩, []⟩ = some (.nor, zEe p0 s2_6 s2_9 v402 r) := by
 unfold zof at h
 refine cond_ok h (fun h501 g1 => ?_) (fun h501 g1 => ?_)
 ·refine bind_ok g1 (fun v502 h503 g2 => ?_)
  refine cond_ok g2 (fun h504 g3 => ?_) (fun h504 g3 => ?_)
  ·refine bind_ok g3 (fun v505 h506 g4 => ?_)
   exact fin2_ok (g := fun r => (Ex.nor, zEe p0 s2_6 s2_9 v402 r)) g4 (zqe [(18, 5, 1, .q (xb true)), (18, 5, 4, .c (db v502)), (18, 5, 6, .q (xb true)), (18, 5, 11, .c (db v505))] [] (ob (o_b h501) (ob (zD k v402.Room 1 60 _ h503) (ob (o_b h504) (ob (z5e k v402.Begin 0 v402.Room _ h506) ob0)))) (by kernel_rfl))
  ·exact fin2_ok (g := fun r => (Ex.nor, zEe p0 s2_6 s2_9 v402 r)) g3 (zqe [(18, 5, 1, .q (xb true)), (18, 5, 4, .c (db v502)), (18, 5, 6, .q (xb false))] [] (ob (o_b h501) (ob (zD k v402.Room 1 60 _ h503) (ob (o_b h504) ob0))) (by kernel_rfl))
 ·exact fin2_ok (g := fun r => (Ex.nor, zEe p0 s2_6 s2_9 v402 r)) g1 (zqe [(18, 5, 1, .q (xb false))] [] (ob (o_b h501) ob0) (by kernel_rfl))
noncomputable def zk4 (p0 : zb) (s2_6 : Bool) (s2_9 : Int) : TM := [(0, (.d (.agg (za p0)))), (zsp 1), (2, (xi 0)), (3, (xb s2_6)), (40, (.d (dl zk p0.Shelves.1 p0.Shelves.2))), (41, (xi (p0.Shelves.1.length : Int))), (42, (xi s2_9))]
noncomputable def z5l (p0 : zb) (s2_6 : Bool) (s2_9 : Int) : St := ⟨(zk4 p0 s2_6 s2_9), ⟨[(zc 1 (za p0))], []⟩, []⟩
noncomputable def zk5 (p0 : zb) (r : zt1) : TM := [(0, (.d (.agg (za p0)))), (zsp 1), (2, (xi 0)), (3, (xb r.1)), (40, (.d (dl zk p0.Shelves.1 p0.Shelves.2))), (41, (xi (p0.Shelves.1.length : Int))), (42, (xi r.2)), (43, (xb false))]
noncomputable def zfe (p0 : zb) (r : zt1) : St := ⟨(zk5 p0 r), ⟨[(zc 1 (za p0))], []⟩, []⟩
noncomputable def zZl (p0 : zb) : (Bool × Int) → Ex × St := fun r => ((.exit 0), zfe p0 r)
theorem zHi (k : Nat) (p0 : zb) (s2_6 : Bool) (s2_9 : Int) (x : (Bool × Int) ⊕ (Bool × Int)) (h : zLc k p0 s2_6 s2_9 = some x) : LoopOK TE 18 (blk TE 18 0) (fun s : (Bool × Int) => z5l p0 s.1 s.2) (zZl p0) (s2_6, s2_9) x := by
 unfold zLc at h
 refine cond_ok h (fun h401 g1 => ?_) (fun h401 g1 => ?_)
 ·refine bind_ok g1 (fun v402 h403 g2 => ?_)
  refine bind_ok g2 (fun v404 h405 g3 => ?_)
  exact zqn (v404, (w64 (s2_9 + 1))) [] [(18, 3, 0, .q (xb true)), (18, 4, 0, .q (.d (.pin (zk v402))))] [(18, 1000005, (.nor, zEe p0 s2_6 s2_9 v402 v404))] g3 (ob (o_b h401) (ob (o_ia (e := zk) 3 h403 rfl) (ob (zLl k p0 s2_6 s2_9 v402 _ h405) ob0))) (by kernel_rfl)
 ·exact zqo [(18, 3, 0, .q (xb false))] [] g1 (ob (o_b h401) ob0) (by kernel_rfl)
noncomputable def zk6 (p0 : zb) (r : Bool) (v3 : zt1) (s5_13 : Int) : TM := zk1 p0 r ++ [(40, (.d (dl zk p0.Shelves.1 p0.Shelves.2))), (41, (xi (p0.Shelves.1.length : Int))), (42, (xi v3.2)), (43, (xb false)), (61, (.d (dl zl p0.Moves.1 p0.Moves.2))), (62, (xi (p0.Moves.1.length : Int))), (63, (xi s5_13)), (64, (xb true)), (zsp 7)]
noncomputable def zxd (p0 : zb) (v3 : zt1) (s5_6 : Bool) (s5_13 : Int) (v702 : zC) (r : Bool) : St := ⟨(zk6 p0 r v3 s5_13), ⟨[(zc 1 (za p0)), (zc 7 (zl v702))], []⟩, []⟩
noncomputable def zk7 (p0 : zb) (s5_6 : Bool) (v3 : zt1) (s5_13 : Int) : TM := [(0, (.d (.agg (za p0)))), (zsp 1), (2, (xi 0)), (3, (xb s5_6)), (40, (.d (dl zk p0.Shelves.1 p0.Shelves.2))), (41, (xi (p0.Shelves.1.length : Int))), (42, (xi v3.2)), (43, (xb false)), (61, (.d (dl zl p0.Moves.1 p0.Moves.2))), (62, (xi (p0.Moves.1.length : Int))), (63, (xi s5_13)), (64, (xb true)), (zsp 7)]
theorem zAl (k : Nat) (p0 : zb) (v3 : zt1) (s5_6 : Bool) (s5_13 : Int) (v702 : zC) (r : Bool) (h : zzf k p0 v3 s5_6 s5_13 v702 = some r) : ev TE 18 (rgn TE 18 10) ⟨(zk7 p0 s5_6 v3 s5_13), ⟨[(zc 1 (za p0)), (zc 7 (zl v702))], []⟩, []⟩ = some (.nor, zxd p0 v3 s5_6 s5_13 v702 r) := by
 unfold zzf at h
 refine cond_ok h (fun h801 g1 => ?_) (fun h801 g1 => ?_)
 ·refine bind_ok g1 (fun v802 h803 g2 => ?_)
  refine cond_ok g2 (fun h804 g3 => ?_) (fun h804 g3 => ?_)
  ·refine bind_ok g3 (fun v805 h806 g4 => ?_)
   refine cond_ok g4 (fun h807 g5 => ?_) (fun h807 g5 => ?_)
   ·refine bind_ok g5 (fun v808 h809 g6 => ?_)
    exact fin2_ok (g := fun r => (Ex.nor, zxd p0 v3 s5_6 s5_13 v702 r)) g6 (zqe [(18, 10, 1, .q (xb true)), (18, 10, 7, .c (db v802)), (18, 10, 9, .q (xb true)), (18, 10, 14, .q (xi (p0.Shelves.1.length : Int))), (18, 10, 16, .c (db v805)), (18, 10, 18, .q (xb true)), (18, 10, 21, .c (db v808))] [] (ob (o_b h801) (ob (zD k v702.Day 0 (w64 (p0.Days - 1)) _ h803) (ob (o_b h804) (ob (o_len zk p0.Shelves.1) (ob (zD k v702.Shelf 0 (w64 ((p0.Shelves.1.length : Int) - 1)) _ h806) (ob (o_b h807) (ob (z5e k v702.By 0 60 _ h809) ob0))))))) (by kernel_rfl))
   ·exact fin2_ok (g := fun r => (Ex.nor, zxd p0 v3 s5_6 s5_13 v702 r)) g5 (zqe [(18, 10, 1, .q (xb true)), (18, 10, 7, .c (db v802)), (18, 10, 9, .q (xb true)), (18, 10, 14, .q (xi (p0.Shelves.1.length : Int))), (18, 10, 16, .c (db v805)), (18, 10, 18, .q (xb false))] [] (ob (o_b h801) (ob (zD k v702.Day 0 (w64 (p0.Days - 1)) _ h803) (ob (o_b h804) (ob (o_len zk p0.Shelves.1) (ob (zD k v702.Shelf 0 (w64 ((p0.Shelves.1.length : Int) - 1)) _ h806) (ob (o_b h807) ob0)))))) (by kernel_rfl))
  ·exact fin2_ok (g := fun r => (Ex.nor, zxd p0 v3 s5_6 s5_13 v702 r)) g3 (zqe [(18, 10, 1, .q (xb true)), (18, 10, 7, .c (db v802)), (18, 10, 9, .q (xb false))] [] (ob (o_b h801) (ob (zD k v702.Day 0 (w64 (p0.Days - 1)) _ h803) (ob (o_b h804) ob0))) (by kernel_rfl))
 ·exact fin2_ok (g := fun r => (Ex.nor, zxd p0 v3 s5_6 s5_13 v702 r)) g1 (zqe [(18, 10, 1, .q (xb false))] [] (ob (o_b h801) ob0) (by kernel_rfl))
noncomputable def zk8 (p0 : zb) (s5_6 : Bool) (v3 : zt1) (s5_13 : Int) : TM := [(0, (.d (.agg (za p0)))), (zsp 1), (2, (xi 0)), (3, (xb s5_6)), (40, (.d (dl zk p0.Shelves.1 p0.Shelves.2))), (41, (xi (p0.Shelves.1.length : Int))), (42, (xi v3.2)), (43, (xb false)), (61, (.d (dl zl p0.Moves.1 p0.Moves.2))), (62, (xi (p0.Moves.1.length : Int))), (63, (xi s5_13))]
noncomputable def z8l (p0 : zb) (v3 : zt1) (s5_6 : Bool) (s5_13 : Int) : St := ⟨(zk8 p0 s5_6 v3 s5_13), ⟨[(zc 1 (za p0))], []⟩, []⟩
noncomputable def zk9 (p0 : zb) (r v3 : zt1) : TM := [(0, (.d (.agg (za p0)))), (zsp 1), (2, (xi 0)), (3, (xb r.1)), (40, (.d (dl zk p0.Shelves.1 p0.Shelves.2))), (41, (xi (p0.Shelves.1.length : Int))), (42, (xi v3.2)), (43, (xb false)), (61, (.d (dl zl p0.Moves.1 p0.Moves.2))), (62, (xi (p0.Moves.1.length : Int))), (63, (xi r.2)), (64, (xb false))]
noncomputable def zae (p0 : zb) (v3 r : zt1) : St := ⟨(zk9 p0 r v3), ⟨[(zc 1 (za p0))], []⟩, []⟩
noncomputable def zSl (p0 : zb) (v3 : zt1) : (Bool × Int) → Ex × St := fun r => ((.exit 2), zae p0 v3 r)
theorem zIi (k : Nat) (p0 : zb) (v3 : zt1) (s5_6 : Bool) (s5_13 : Int) (x : (Bool × Int) ⊕ (Bool × Int)) (h : zPc k p0 v3 s5_6 s5_13 = some x) : LoopOK TE 18 (blk TE 18 2) (fun s : (Bool × Int) => z8l p0 v3 s.1 s.2) (zSl p0 v3) (s5_6, s5_13) x := by
 unfold zPc at h
 refine cond_ok h (fun h701 g1 => ?_) (fun h701 g1 => ?_)
 ·refine bind_ok g1 (fun v702 h703 g2 => ?_)
  refine bind_ok g2 (fun v704 h705 g3 => ?_)
  exact zqn (v704, (w64 (s5_13 + 1))) [] [(18, 8, 0, .q (xb true)), (18, 9, 0, .q (.d (.pin (zl v702))))] [(18, 1000010, (.nor, zxd p0 v3 s5_6 s5_13 v702 v704))] g3 (ob (o_b h701) (ob (o_ia (e := zl) 5 h703 rfl) (ob (zAl k p0 v3 s5_6 s5_13 v702 _ h705) ob0))) (by kernel_rfl)
 ·exact zqo [(18, 8, 0, .q (xb false))] [] g1 (ob (o_b h701) ob0) (by kernel_rfl)
noncomputable def zFp (p0 : zb) (r : Bool) (v3 v5 : zt1) (s8_17 : Int) : TM := zk1 p0 r ++ [(40, (.d (dl zk p0.Shelves.1 p0.Shelves.2))), (41, (xi (p0.Shelves.1.length : Int))), (42, (xi v3.2)), (43, (xb false)), (61, (.d (dl zl p0.Moves.1 p0.Moves.2))), (62, (xi (p0.Moves.1.length : Int))), (63, (xi v5.2)), (64, (xb false)), (92, (.d (dl zh p0.Deliveries.1 p0.Deliveries.2))), (93, (xi (p0.Deliveries.1.length : Int))), (94, (xi s8_17)), (95, (xb true)), (zsp 9)]
noncomputable def zhd (p0 : zb) (v3 v5 : zt1) (s8_6 : Bool) (s8_17 : Int) (v1002 : zo) (r : Bool) : St := ⟨(zFp p0 r v3 v5 s8_17), ⟨[(zc 1 (za p0)), (zc 9 (zh v1002))], []⟩, []⟩
noncomputable def zmp (p0 : zb) (s8_6 : Bool) (v3 v5 : zt1) (s8_17 : Int) : TM := [(0, (.d (.agg (za p0)))), (zsp 1), (2, (xi 0)), (3, (xb s8_6)), (40, (.d (dl zk p0.Shelves.1 p0.Shelves.2))), (41, (xi (p0.Shelves.1.length : Int))), (42, (xi v3.2)), (43, (xb false)), (61, (.d (dl zl p0.Moves.1 p0.Moves.2))), (62, (xi (p0.Moves.1.length : Int))), (63, (xi v5.2)), (64, (xb false)), (92, (.d (dl zh p0.Deliveries.1 p0.Deliveries.2))), (93, (xi (p0.Deliveries.1.length : Int))), (94, (xi s8_17)), (95, (xb true)), (zsp 9)]
theorem zol (k : Nat) (p0 : zb) (v3 v5 : zt1) (s8_6 : Bool) (s8_17 : Int) (v1002 : zo) (r : Bool) (h : z6e k p0 v3 v5 s8_6 s8_17 v1002 = some r) : ev TE 18 (rgn TE 18 15) ⟨(zmp p0 s8_6 v3 v5 s8_17), ⟨[(zc 1 (za p0)), (zc 9 (zh v1002))], []⟩, []⟩ = some (.nor, zhd p0 v3 v5 s8_6 s8_17 v1002 r) := by
 unfold z6e at h
 refine cond_ok h (fun h1101 g1 => ?_) (fun h1101 g1 => ?_)
 ·refine bind_ok g1 (fun v1102 h1103 g2 => ?_)
  refine cond_ok g2 (fun h1104 g3 => ?_) (fun h1104 g3 => ?_)
  ·refine bind_ok g3 (fun v1105 h1106 g4 => ?_)
   refine cond_ok g4 (fun h1107 g5 => ?_) (fun h1107 g5 => ?_)
   ·refine bind_ok g5 (fun v1108 h1109 g6 => ?_)
    exact fin2_ok (g := fun r => (Ex.nor, zhd p0 v3 v5 s8_6 s8_17 v1002 r)) g6 (zqe [(18, 15, 1, .q (xb true)), (18, 15, 6, .q (xi (p0.Shelves.1.length : Int))), (18, 15, 8, .c (db v1102)), (18, 15, 10, .q (xb true)), (18, 15, 16, .c (db v1105)), (18, 15, 18, .q (xb true)), (18, 15, 21, .c (db v1108))] [] (ob (o_b h1101) (ob (o_len zk p0.Shelves.1) (ob (zD k v1002.Shelf 0 (w64 ((p0.Shelves.1.length : Int) - 1)) _ h1103) (ob (o_b h1104) (ob (z5e k v1002.Days 0 (w64 (p0.Days - 1)) _ h1106) (ob (o_b h1107) (ob (z5e k v1002.By 0 60 _ h1109) ob0))))))) (by kernel_rfl))
   ·exact fin2_ok (g := fun r => (Ex.nor, zhd p0 v3 v5 s8_6 s8_17 v1002 r)) g5 (zqe [(18, 15, 1, .q (xb true)), (18, 15, 6, .q (xi (p0.Shelves.1.length : Int))), (18, 15, 8, .c (db v1102)), (18, 15, 10, .q (xb true)), (18, 15, 16, .c (db v1105)), (18, 15, 18, .q (xb false))] [] (ob (o_b h1101) (ob (o_len zk p0.Shelves.1) (ob (zD k v1002.Shelf 0 (w64 ((p0.Shelves.1.length : Int) - 1)) _ h1103) (ob (o_b h1104) (ob (z5e k v1002.Days 0 (w64 (p0.Days - 1)) _ h1106) (ob (o_b h1107) ob0)))))) (by kernel_rfl))
  ·exact fin2_ok (g := fun r => (Ex.nor, zhd p0 v3 v5 s8_6 s8_17 v1002 r)) g3 (zqe [(18, 15, 1, .q (xb true)), (18, 15, 6, .q (xi (p0.Shelves.1.length : Int))), (18, 15, 8, .c (db v1102)), (18, 15, 10, .q (xb false))] [] (ob (o_b h1101) (ob (o_len zk p0.Shelves.1) (ob (zD k v1002.Shelf 0 (w64 ((p0.Shelves.1.length : Int) - 1)) _ h1103) (ob (o_b h1104) ob0)))) (by kernel_rfl))
 ·exact fin2_ok (g := fun r => (Ex.nor, zhd p0 v3 v5 s8_6 s8_17 v1002 r)) g1 (zqe [(18, 15, 1, .q (xb false))] [] (ob (o_b h1101) ob0) (by kernel_rfl))
noncomputable def zBp (p0 : zb) (s8_6 : Bool) (v3 v5 : zt1) (s8_17 : Int) : TM := [(0, (.d (.agg (za p0)))), (zsp 1), (2, (xi 0)), (3, (xb s8_6)), (40, (.d (dl zk p0.Shelves.1 p0.Shelves.2))), (41, (xi (p0.Shelves.1.length : Int))), (42, (xi v3.2)), (43, (xb false)), (61, (.d (dl zl p0.Moves.1 p0.Moves.2))), (62, (xi (p0.Moves.1.length : Int))), (63, (xi v5.2)), (64, (xb false)), (92, (.d (dl zh p0.Deliveries.1 p0.Deliveries.2))), (93, (xi (p0.Deliveries.1.length : Int))), (94, (xi s8_17))]
noncomputable def z7l (p0 : zb) (v3 v5 : zt1) (s8_6 : Bool) (s8_17 : Int) : St := ⟨(zBp p0 s8_6 v3 v5 s8_17), ⟨[(zc 1 (za p0))], []⟩, []⟩
noncomputable def zNo (p0 : zb) (r v3 v5 : zt1) : TM := [(0, (.d (.agg (za p0)))), (zsp 1), (2, (xi 0)), (3, (xb r.1)), (40, (.d (dl zk p0.Shelves.1 p0.Shelves.2))), (41, (xi (p0.Shelves.1.length : Int))), (42, (xi v3.2)), (43, (xb false)), (61, (.d (dl zl p0.Moves.1 p0.Moves.2))), (62, (xi (p0.Moves.1.length : Int))), (63, (xi v5.2)), (64, (xb false)), (92, (.d (dl zh p0.Deliveries.1 p0.Deliveries.2))), (93, (xi (p0.Deliveries.1.length : Int))), (94, (xi r.2)), (95, (xb false))]
noncomputable def z9d (p0 : zb) (v3 v5 r : zt1) : St := ⟨(zNo p0 r v3 v5), ⟨[(zc 1 (za p0))], []⟩, []⟩
noncomputable def zTl (p0 : zb) (v3 v5 : zt1) : (Bool × Int) → Ex × St := fun r => ((.exit 4), z9d p0 v3 v5 r)
theorem zAi (k : Nat) (p0 : zb) (v3 v5 : zt1) (s8_6 : Bool) (s8_17 : Int) (x : (Bool × Int) ⊕ (Bool × Int)) (h : zJc k p0 v3 v5 s8_6 s8_17 = some x) : LoopOK TE 18 (blk TE 18 4) (fun s : (Bool × Int) => z7l p0 v3 v5 s.1 s.2) (zTl p0 v3 v5) (s8_6, s8_17) x := by
 unfold zJc at h
 refine cond_ok h (fun h1001 g1 => ?_) (fun h1001 g1 => ?_)
 ·refine bind_ok g1 (fun v1002 h1003 g2 => ?_)
  refine bind_ok g2 (fun v1004 h1005 g3 => ?_)
  exact zqn (v1004, (w64 (s8_17 + 1))) [] [(18, 13, 0, .q (xb true)), (18, 14, 0, .q (.d (.pin (zh v1002))))] [(18, 1000015, (.nor, zhd p0 v3 v5 s8_6 s8_17 v1002 v1004))] g3 (ob (o_b h1001) (ob (o_ia (e := zh) 5 h1003 rfl) (ob (zol k p0 v3 v5 s8_6 s8_17 v1002 _ h1005) ob0))) (by kernel_rfl)
 ·exact zqo [(18, 13, 0, .q (xb false))] [] g1 (ob (o_b h1001) ob0) (by kernel_rfl)
noncomputable def zfp (p0 : zb) (r : Bool) (v3 v5 v7 : zt1) (s11_21 : Int) : TM := zk1 p0 r ++ [(40, (.d (dl zk p0.Shelves.1 p0.Shelves.2))), (41, (xi (p0.Shelves.1.length : Int))), (42, (xi v3.2)), (43, (xb false)), (61, (.d (dl zl p0.Moves.1 p0.Moves.2))), (62, (xi (p0.Moves.1.length : Int))), (63, (xi v5.2)), (64, (xb false)), (92, (.d (dl zh p0.Deliveries.1 p0.Deliveries.2))), (93, (xi (p0.Deliveries.1.length : Int))), (94, (xi v7.2)), (95, (xb false)), (123, (.d (dl zi p0.Counts.1 p0.Counts.2))), (124, (xi (p0.Counts.1.length : Int))), (125, (xi s11_21)), (126, (xb true)), (zsp 11)]
noncomputable def zoc (p0 : zb) (v3 v5 v7 : zt1) (s11_6 : Bool) (s11_21 : Int) (v1302 : zp) (r : Bool) : St := ⟨(zfp p0 r v3 v5 v7 s11_21), ⟨[(zc 1 (za p0)), (zc 11 (zi v1302))], []⟩, []⟩
noncomputable def zmo (p0 : zb) (s11_6 : Bool) (v3 v5 v7 : zt1) (s11_21 : Int) : TM := [(0, (.d (.agg (za p0)))), (zsp 1), (2, (xi 0)), (3, (xb s11_6)), (40, (.d (dl zk p0.Shelves.1 p0.Shelves.2))), (41, (xi (p0.Shelves.1.length : Int))), (42, (xi v3.2)), (43, (xb false)), (61, (.d (dl zl p0.Moves.1 p0.Moves.2))), (62, (xi (p0.Moves.1.length : Int))), (63, (xi v5.2)), (64, (xb false)), (92, (.d (dl zh p0.Deliveries.1 p0.Deliveries.2))), (93, (xi (p0.Deliveries.1.length : Int))), (94, (xi v7.2)), (95, (xb false)), (123, (.d (dl zi p0.Counts.1 p0.Counts.2))), (124, (xi (p0.Counts.1.length : Int))), (125, (xi s11_21)), (126, (xb true)), (zsp 11)]
theorem zkl (k : Nat) (p0 : zb) (v3 v5 v7 : zt1) (s11_6 : Bool) (s11_21 : Int) (v1302 : zp) (r : Bool) (h : z4e k p0 v3 v5 v7 s11_6 s11_21 v1302 = some r) : ev TE 18 (rgn TE 18 20) ⟨(zmo p0 s11_6 v3 v5 v7 s11_21), ⟨[(zc 1 (za p0)), (zc 11 (zi v1302))], []⟩, []⟩ = some (.nor, zoc p0 v3 v5 v7 s11_6 s11_21 v1302 r) := by
 unfold z4e at h
 refine cond_ok h (fun h1401 g1 => ?_) (fun h1401 g1 => ?_)
 ·refine bind_ok g1 (fun v1402 h1403 g2 => ?_)
  refine cond_ok g2 (fun h1404 g3 => ?_) (fun h1404 g3 => ?_)
  ·refine bind_ok g3 (fun v1405 h1406 g4 => ?_)
   refine cond_ok g4 (fun h1407 g5 => ?_) (fun h1407 g5 => ?_)
   ·refine bind_ok g5 (fun v1408 h1409 g6 => ?_)
    refine cond_ok g6 (fun h1410 g7 => ?_) (fun h1410 g7 => ?_)
    ·refine bind_ok g7 (fun v1411 h1412 g8 => ?_)
     exact fin2_ok (g := fun r => (Ex.nor, zoc p0 v3 v5 v7 s11_6 s11_21 v1302 r)) g8 (zqe [(18, 20, 1, .q (xb true)), (18, 20, 7, .c (db v1402)), (18, 20, 9, .q (xb true)), (18, 20, 14, .q (xi (p0.Shelves.1.length : Int))), (18, 20, 16, .c (db v1405)), (18, 20, 18, .q (xb true)), (18, 20, 21, .c (db v1408)), (18, 20, 23, .q (xb true)), (18, 20, 26, .c (db v1411))] [] (ob (o_b h1401) (ob (zD k v1302.Day 0 (w64 (p0.Days - 1)) _ h1403) (ob (o_b h1404) (ob (o_len zk p0.Shelves.1) (ob (zD k v1302.Shelf 0 (w64 ((p0.Shelves.1.length : Int) - 1)) _ h1406) (ob (o_b h1407) (ob (zD k v1302.Read 0 60 _ h1409) (ob (o_b h1410) (ob (zD k v1302.Err 0 20 _ h1412) ob0))))))))) (by kernel_rfl))
    ·exact fin2_ok (g := fun r => (Ex.nor, zoc p0 v3 v5 v7 s11_6 s11_21 v1302 r)) g7 (zqe [(18, 20, 1, .q (xb true)), (18, 20, 7, .c (db v1402)), (18, 20, 9, .q (xb true)), (18, 20, 14, .q (xi (p0.Shelves.1.length : Int))), (18, 20, 16, .c (db v1405)), (18, 20, 18, .q (xb true)), (18, 20, 21, .c (db v1408)), (18, 20, 23, .q (xb false))] [] (ob (o_b h1401) (ob (zD k v1302.Day 0 (w64 (p0.Days - 1)) _ h1403) (ob (o_b h1404) (ob (o_len zk p0.Shelves.1) (ob (zD k v1302.Shelf 0 (w64 ((p0.Shelves.1.length : Int) - 1)) _ h1406) (ob (o_b h1407) (ob (zD k v1302.Read 0 60 _ h1409) (ob (o_b h1410) ob0)))))))) (by kernel_rfl))
   ·exact fin2_ok (g := fun r => (Ex.nor, zoc p0 v3 v5 v7 s11_6 s11_21 v1302 r)) g5 (zqe [(18, 20, 1, .q (xb true)), (18, 20, 7, .c (db v1402)), (18, 20, 9, .q (xb true)), (18, 20, 14, .q (xi (p0.Shelves.1.length : Int))), (18, 20, 16, .c (db v1405)), (18, 20, 18, .q (xb false))] [] (ob (o_b h1401) (ob (zD k v1302.Day 0 (w64 (p0.Days - 1)) _ h1403) (ob (o_b h1404) (ob (o_len zk p0.Shelves.1) (ob (zD k v1302.Shelf 0 (w64 ((p0.Shelves.1.length : Int) - 1)) _ h1406) (ob (o_b h1407) ob0)))))) (by kernel_rfl))
  ·exact fin2_ok (g := fun r => (Ex.nor, zoc p0 v3 v5 v7 s11_6 s11_21 v1302 r)) g3 (zqe [(18, 20, 1, .q (xb true)), (18, 20, 7, .c (db v1402)), (18, 20, 9, .q (xb false))] [] (ob (o_b h1401) (ob (zD k v1302.Day 0 (w64 (p0.Days - 1)) _ h1403) (ob (o_b h1404) ob0))) (by kernel_rfl))
 ·exact fin2_ok (g := fun r => (Ex.nor, zoc p0 v3 v5 v7 s11_6 s11_21 v1302 r)) g1 (zqe [(18, 20, 1, .q (xb false))] [] (ob (o_b h1401) ob0) (by kernel_rfl))
noncomputable def zFo (p0 : zb) (s11_6 : Bool) (v3 v5 v7 : zt1) (s11_21 : Int) : TM := [(0, (.d (.agg (za p0)))), (zsp 1), (2, (xi 0)), (3, (xb s11_6)), (40, (.d (dl zk p0.Shelves.1 p0.Shelves.2))), (41, (xi (p0.Shelves.1.length : Int))), (42, (xi v3.2)), (43, (xb false)), (61, (.d (dl zl p0.Moves.1 p0.Moves.2))), (62, (xi (p0.Moves.1.length : Int))), (63, (xi v5.2)), (64, (xb false)), (92, (.d (dl zh p0.Deliveries.1 p0.Deliveries.2))), (93, (xi (p0.Deliveries.1.length : Int))), (94, (xi v7.2)), (95, (xb false)), (123, (.d (dl zi p0.Counts.1 p0.Counts.2))), (124, (xi (p0.Counts.1.length : Int))), (125, (xi s11_21))]
noncomputable def zxl (p0 : zb) (v3 v5 v7 : zt1) (s11_6 : Bool) (s11_21 : Int) : St := ⟨(zFo p0 s11_6 v3 v5 v7 s11_21), ⟨[(zc 1 (za p0))], []⟩, []⟩
noncomputable def zBo (p0 : zb) (r v3 v5 v7 : zt1) : TM := [(0, (.d (.agg (za p0)))), (zsp 1), (2, (xi 0)), (3, (xb r.1)), (40, (.d (dl zk p0.Shelves.1 p0.Shelves.2))), (41, (xi (p0.Shelves.1.length : Int))), (42, (xi v3.2)), (43, (xb false)), (61, (.d (dl zl p0.Moves.1 p0.Moves.2))), (62, (xi (p0.Moves.1.length : Int))), (63, (xi v5.2)), (64, (xb false)), (92, (.d (dl zh p0.Deliveries.1 p0.Deliveries.2))), (93, (xi (p0.Deliveries.1.length : Int))), (94, (xi v7.2)), (95, (xb false)), (123, (.d (dl zi p0.Counts.1 p0.Counts.2))), (124, (xi (p0.Counts.1.length : Int))), (125, (xi r.2)), (126, (xb false))]
noncomputable def zHd (p0 : zb) (v3 v5 v7 r : zt1) : St := ⟨(zBo p0 r v3 v5 v7), ⟨[(zc 1 (za p0))], []⟩, []⟩
noncomputable def zKl (p0 : zb) (v3 v5 v7 : zt1) : (Bool × Int) → Ex × St := fun r => ((.exit 6), zHd p0 v3 v5 v7 r)
theorem z9h (k : Nat) (p0 : zb) (v3 v5 v7 : zt1) (s11_6 : Bool) (s11_21 : Int) (x : (Bool × Int) ⊕ (Bool × Int)) (h : zpc k p0 v3 v5 v7 s11_6 s11_21 = some x) : LoopOK TE 18 (blk TE 18 6) (fun s : (Bool × Int) => zxl p0 v3 v5 v7 s.1 s.2) (zKl p0 v3 v5 v7) (s11_6, s11_21) x := by
 unfold zpc at h
 refine cond_ok h (fun h1301 g1 => ?_) (fun h1301 g1 => ?_)
 ·refine bind_ok g1 (fun v1302 h1303 g2 => ?_)
  refine bind_ok g2 (fun v1304 h1305 g3 => ?_)
  exact zqn (v1304, (w64 (s11_21 + 1))) [] [(18, 18, 0, .q (xb true)), (18, 19, 0, .q (.d (.pin (zi v1302))))] [(18, 1000020, (.nor, zoc p0 v3 v5 v7 s11_6 s11_21 v1302 v1304))] g3 (ob (o_b h1301) (ob (o_ia (e := zi) 4 h1303 rfl) (ob (zkl k p0 v3 v5 v7 s11_6 s11_21 v1302 _ h1305) ob0))) (by kernel_rfl)
 ·exact zqo [(18, 18, 0, .q (xb false))] [] g1 (ob (o_b h1301) ob0) (by kernel_rfl)
theorem zSc (k : Nat) (p0 : zb) (r : Int) (h : zoe k p0 = some r) : callP TE (ev TE) 18 [(.agg (za p0))] = some (zji r) := by
 unfold zoe at h
 refine bind_ok h (fun v1 h2 g1 => ?_)
 refine bind_ok g1 (fun v3 h4 g2 => ?_)
 refine bind_ok g2 (fun v5 h6 g3 => ?_)
 refine bind_ok g3 (fun v7 h8 g4 => ?_)
 refine bind_ok g4 (fun v9 h10 g5 => ?_)
 refine cond_ok g5 (fun h11 g6 => ?_) (fun h11 g6 => ?_)
 ·exact fin_ok (g := zji) g6 (zqc [(18, 2, 2, .q (xi (p0.Shelves.1.length : Int))), (18, 7, 2, .q (xi (p0.Moves.1.length : Int))), (18, 12, 2, .q (xi (p0.Deliveries.1.length : Int))), (18, 17, 2, .q (xi (p0.Counts.1.length : Int))), (18, 22, 1, .q (xb true))] [(18, 1000001, (.nor, z3b p0 v1)), (18, 0, (.nor, zfe p0 v3)), (18, 2, (.nor, zae p0 v3 v5)), (18, 4, (.nor, z9d p0 v3 v5 v7)), (18, 6, (.nor, zHd p0 v3 v5 v7 v9))] (ob (zDi k p0 _ h2) (ob (o_len zk p0.Shelves.1) (ob (block_ok (id := 0) (r' := (.nor, zfe p0 v3)) (zU (zHi k p0) k _ _ h4) rfl) (ob (o_len zl p0.Moves.1) (ob (block_ok (id := 2) (r' := (.nor, zae p0 v3 v5)) (zU (zIi k p0 v3) k _ _ h6) rfl) (ob (o_len zh p0.Deliveries.1) (ob (block_ok (id := 4) (r' := (.nor, z9d p0 v3 v5 v7)) (zU (zAi k p0 v3 v5) k _ _ h8) rfl) (ob (o_len zi p0.Counts.1) (ob (block_ok (id := 6) (r' := (.nor, zHd p0 v3 v5 v7 v9)) (zU (z9h k p0 v3 v5 v7) k _ _ h10) rfl) (ob (o_b h11) ob0)))))))))) (by kernel_rfl))
 ·exact fin_ok (g := zji) g6 (zqc [(18, 2, 2, .q (xi (p0.Shelves.1.length : Int))), (18, 7, 2, .q (xi (p0.Moves.1.length : Int))), (18, 12, 2, .q (xi (p0.Deliveries.1.length : Int))), (18, 17, 2, .q (xi (p0.Counts.1.length : Int))), (18, 22, 1, .q (xb false))] [(18, 1000001, (.nor, z3b p0 v1)), (18, 0, (.nor, zfe p0 v3)), (18, 2, (.nor, zae p0 v3 v5)), (18, 4, (.nor, z9d p0 v3 v5 v7)), (18, 6, (.nor, zHd p0 v3 v5 v7 v9))] (ob (zDi k p0 _ h2) (ob (o_len zk p0.Shelves.1) (ob (block_ok (id := 0) (r' := (.nor, zfe p0 v3)) (zU (zHi k p0) k _ _ h4) rfl) (ob (o_len zl p0.Moves.1) (ob (block_ok (id := 2) (r' := (.nor, zae p0 v3 v5)) (zU (zIi k p0 v3) k _ _ h6) rfl) (ob (o_len zh p0.Deliveries.1) (ob (block_ok (id := 4) (r' := (.nor, z9d p0 v3 v5 v7)) (zU (zAi k p0 v3 v5) k _ _ h8) rfl) (ob (o_len zi p0.Counts.1) (ob (block_ok (id := 6) (r' := (.nor, zHd p0 v3 v5 v7 v9)) (zU (z9h k p0 v3 v5 v7) k _ _ h10) rfl) (ob (o_b h11) ob0)))))))))) (by kernel_rfl))
noncomputable def zbp (p0 : zd) (s1_7 : Int) : TM := [(0, (.d (.agg (zm p0)))), (zsp 1), (zsp 2), (zsp 3), (4, (xi s1_7))]
noncomputable def zTk (p0 : zd) (s1_7 : Int) (s1_16 : zt0) : St := ⟨(zbp p0 s1_7), ⟨[(zc 1 (zm p0)), (zc 2 (aB 61 (fun _ => false))), (zc 3 (aB 61 s1_16))], []⟩, []⟩
noncomputable def zpo (p0 : zd) (r : zt12) : TM := [(0, (.d (.agg (zm p0)))), (zsp 1), (zsp 2), (zsp 3), (4, (xi r.1)), (24, (xb false))]
noncomputable def zff (p0 : zd) (r : zt12) : St := ⟨(zpo p0 r), ⟨[(zc 1 (zm p0)), (zc 2 (aB 61 (fun _ => false))), (zc 3 (aB 61 r.2))], []⟩, []⟩
noncomputable def zPk (p0 : zd) : (Int × (Nat → Bool)) → Ex × St := fun r => ((.exit 0), zff p0 r)
theorem z9j (k : Nat) (p0 : zd) (s1_7 : Int) (s1_16 : zt0) (x : (Int × (Nat → Bool)) ⊕ (Int × (Nat → Bool))) (h : zqd k p0 s1_7 s1_16 = some x) : LoopOK TE 90 (blk TE 90 0) (fun s : (Int × (Nat → Bool)) => zTk p0 s.1 s.2) (zPk p0) (s1_7, s1_16) x := by
 unfold zqd at h
 refine bind_ok h (fun v201 h202 g1 => ?_)
 refine cond_ok g1 (fun h203 g2 => ?_) (fun h203 g2 => ?_)
 ·refine guard_ok g2 (fun h204 g3 => ?_)
  exact zqn ((w64 (s1_7 + 1)), (upd s1_16 s1_7.toNat true)) [] [(90, 3, 6, .q (.d (.pin (zk v201)))), (90, 3, 10, .q (xb true)), (90, 5, 1, .q (.ptr 0 3 (s1_7.toNat))), (90, 5, 2, .st ((aB 61 (upd s1_16 s1_7.toNat true)).map .d))] [] g3 (ob (o_ia (e := zk) 3 h202 rfl) (ob (o_b h203) (ob (o_aptr (m := 61) 0 3 0 1 s1_7.toNat h204 (by omega)) (ob (o_stB 61 s1_16 s1_7.toNat true (by have := h204; simp only [Bool.and_eq_true, decide_eq_true_eq] at this; omega)) ob0)))) (by kernel_rfl)
 ·exact zqo [(90, 3, 6, .q (.d (.pin (zk v201)))), (90, 3, 10, .q (xb false))] [] g2 (ob (o_ia (e := zk) 3 h202 rfl) (ob (o_b h203) ob0)) (by kernel_rfl)
theorem z9k (k : Nat) (p0 : zd) (r : zt0) (h : zCe k p0 = some r) : callP TE (ev TE) 90 [(.agg (zm p0))] = some (zRh r) := by
 unfold zCe at h
 refine bind_ok h (fun v1 h2 g1 => ?_)
 refine bind_ok g1 (fun v3 h4 g2 => ?_)
 exact fin_ok (g := zRh) g2 (zqc [(90, 2, 5, .q (.d (.pin (zk v1))))] [(90, 0, (.nor, zff p0 v3))] (ob (o_ia (e := zk) 3 h2 rfl) (ob (block_ok (id := 0) (r' := (.nor, zff p0 v3)) (zU (z9j k p0) k _ _ h4) rfl) ob0)) (by kernel_rfl))
theorem zGf (k : Nat) (r : zt0) (h : z1e k = some r) : callP TE (ev TE) 87 [] = some (z6j r) := by
 unfold z1e at h
 exact fin_ok (g := z6j) h (zqc [] [] ob0 (by kernel_rfl))
theorem zbi (k : Nat) (p0 : zd) (p1 p2 : Int) (r : zt5) (h : zVd k p0 p1 p2 = some r) : callP TE (ev TE) 91 [(.agg (zm p0)), (di p1), (di p2)] = some (zKi r) := by
 unfold zVd at h
 exact fin_ok (g := zKi) h (zqc [] [] ob0 (by kernel_rfl))
noncomputable def zrp (p0 : zd) (p1 p2 : Int) (s1_20 : zt13) (s1_12 : Int) : TM := [(0, (.d (.agg (zm p0)))), (1, (xi p1)), (2, (xi p2)), (zsp 3), (6, (.d (.sl [] .nil))), (7, (.row 0 7 s1_20.length)), (15, (.d (dl zh p0.ShelfBook.Deliveries.1 p0.ShelfBook.Deliveries.2))), (16, (xi (p0.ShelfBook.Deliveries.1.length : Int))), (17, (xi s1_12))]
noncomputable def zRk (p0 : zd) (p1 p2 s1_12 : Int) (s1_20 : zt13) : St := ⟨(zrp p0 p1 p2 s1_20 s1_12), ⟨[(zc 3 (zm p0)), (7, (rowO true 3 zH s1_20 true))], []⟩, []⟩
noncomputable def zWo (p0 : zd) (p1 p2 : Int) (r : zt11) : TM := [(0, (.d (.agg (zm p0)))), (1, (xi p1)), (2, (xi p2)), (zsp 3), (6, (.d (.sl [] .nil))), (7, (.row 0 7 r.2.length)), (15, (.d (dl zh p0.ShelfBook.Deliveries.1 p0.ShelfBook.Deliveries.2))), (16, (xi (p0.ShelfBook.Deliveries.1.length : Int))), (17, (xi r.1)), (18, (xb false))]
noncomputable def zaf (p0 : zd) (p1 p2 : Int) (r : zt11) : St := ⟨(zWo p0 p1 p2 r), ⟨[(zc 3 (zm p0)), (7, (rowO true 3 zH r.2 true))], []⟩, []⟩
noncomputable def zEk (p0 : zd) (p1 p2 : Int) : (Int × (List zA)) → Ex × St := fun r => ((.exit 0), zaf p0 p1 p2 r)
theorem zqk (k : Nat) (p0 : zd) (p1 p2 s1_12 : Int) (s1_20 : zt13) (x : (Int × (List zA)) ⊕ (Int × (List zA))) (h : zod k p0 p1 p2 s1_12 s1_20 = some x) : LoopOK TE 92 (blk TE 92 0) (fun s : (Int × (List zA)) => zRk p0 p1 p2 s.1 s.2) (zEk p0 p1 p2) (s1_12, s1_20) x := by
 unfold zod at h
 refine cond_ok h (fun h301 g1 => ?_) (fun h301 g1 => ?_)
 ·refine bind_ok g1 (fun v302 h303 g2 => ?_)
  refine cond_ok g2 (fun h304 g3 => ?_) (fun h304 g3 => ?_)
  ·cases g3
  ·refine cond_ok g3 (fun h305 g4 => ?_) (fun h305 g4 => ?_)
   ·refine guard_ok g4 (fun h306 g5 => ?_)
    exact zqn ((w64 (s1_12 + 1)), (s1_20 ++ [(⟨1, v302.By⟩ : zA)])) [7] [(92, 3, 0, .q (xb true)), (92, 4, 1, .q (.d (.pin (zh v302)))), (92, 5, 2, .q (xi (shr64 p2 s1_12))), (92, 5, 4, .q (xb true)), (92, 6, 5, .ap (s1_20 ++ [(⟨1, v302.By⟩ : zA)]).length (rowO true 3 zH (s1_20 ++ [(⟨1, v302.By⟩ : zA)]) true))] [] g5 (ob (o_b h301) (ob (o_ia (e := zh) 5 h303 rfl) (ob (o_shr (x := p2) h304) (ob (o_b h305) (ob (o_ap (b := true) (z := 3) (e := zH) (l := s1_20) (w := true) (⟨1, v302.By⟩ : zA) (fun _ => rfl) h306) (ob (o_ref true 3 zH (s1_20 ++ [(⟨1, v302.By⟩ : zA)]) true) ob0)))))) (by kernel_rfl)
   ·exact zqn ((w64 (s1_12 + 1)), s1_20) [7] [(92, 3, 0, .q (xb true)), (92, 4, 1, .q (.d (.pin (zh v302)))), (92, 5, 2, .q (xi (shr64 p2 s1_12))), (92, 5, 4, .q (xb false))] [] g4 (ob (o_b h301) (ob (o_ia (e := zh) 5 h303 rfl) (ob (o_shr (x := p2) h304) (ob (o_b h305) (ob (o_ref true 3 zH s1_20 true) ob0))))) (by kernel_rfl)
 ·exact zqo [(92, 3, 0, .q (xb false))] [] g1 (ob (o_b h301) ob0) (by kernel_rfl)
noncomputable def z4o (p0 : zd) (p1 p2 : Int) (s3_24 : zt13) (v1 : zt11) (s3_16 : Int) (r : Bool) : TM := [(0, (.d (.agg (zm p0)))), (1, (xi p1)), (2, (xi p2)), (zsp 3), (6, (.d (.sl [] .nil))), (7, (.row 0 7 s3_24.length)), (15, (.d (dl zh p0.ShelfBook.Deliveries.1 p0.ShelfBook.Deliveries.2))), (16, (xi (p0.ShelfBook.Deliveries.1.length : Int))), (17, (xi v1.1)), (18, (xb false)), (36, (.d (dl zl p0.ShelfBook.Moves.1 p0.ShelfBook.Moves.2))), (37, (xi (p0.ShelfBook.Moves.1.length : Int))), (38, (xi s3_16)), (39, (xb true)), (zsp 11), (52, (xb r))]
noncomputable def z0c (p0 : zd) (p1 p2 : Int) (v1 : zt11) (s3_16 : Int) (s3_24 : zt13) (v702 : zC) (r : Bool) : St := ⟨(z4o p0 p1 p2 s3_24 v1 s3_16 r), ⟨[(zc 3 (zm p0)), (7, (rowO true 3 zH s3_24 true)), (zc 11 (zl v702))], []⟩, []⟩
noncomputable def zym (p0 : zd) (p1 p2 : Int) (s3_24 : zt13) (v1 : zt11) (s3_16 : Int) : TM := [(0, (.d (.agg (zm p0)))), (1, (xi p1)), (2, (xi p2)), (zsp 3), (6, (.d (.sl [] .nil))), (7, (.row 0 7 s3_24.length)), (15, (.d (dl zh p0.ShelfBook.Deliveries.1 p0.ShelfBook.Deliveries.2))), (16, (xi (p0.ShelfBook.Deliveries.1.length : Int))), (17, (xi v1.1)), (18, (xb false)), (36, (.d (dl zl p0.ShelfBook.Moves.1 p0.ShelfBook.Moves.2))), (37, (xi (p0.ShelfBook.Moves.1.length : Int))), (38, (xi s3_16)), (39, (xb true)), (zsp 11)]
theorem zPg (k : Nat) (p0 : zd) (p1 p2 : Int) (v1 : zt11) (s3_16 : Int) (s3_24 : zt13) (v702 : zC) (r : Bool) (h : zQe k p0 p1 p2 v1 s3_16 s3_24 v702 = some r) : ev TE 92 (rgn TE 92 11) ⟨(zym p0 p1 p2 s3_24 v1 s3_16), ⟨[(zc 3 (zm p0)), (7, (rowO true 3 zH s3_24 true)), (zc 11 (zl v702))], []⟩, []⟩ = some (.nor, z0c p0 p1 p2 v1 s3_16 s3_24 v702 r) := by
 unfold zQe at h
 refine cond_ok h (fun h801 g1 => ?_) (fun h801 g1 => ?_)
 ·exact fin2_ok (g := fun r => (Ex.nor, z0c p0 p1 p2 v1 s3_16 s3_24 v702 r)) g1 (zqe [(92, 11, 4, .q (xb true))] [] (ob (o_b h801) ob0) (by kernel_rfl))
 ·exact fin2_ok (g := fun r => (Ex.nor, z0c p0 p1 p2 v1 s3_16 s3_24 v702 r)) g1 (zqe [(92, 11, 4, .q (xb false))] [] (ob (o_b h801) ob0) (by kernel_rfl))
noncomputable def zYd (p0 : zd) (p1 p2 : Int) (v1 : zt11) (s3_16 : Int) (s3_24 : zt13) (v702 : zC) (cb : Bool) (r : zt1) : St := ⟨(zym p0 p1 p2 s3_24 v1 s3_16 ++ [(52, (xb true)), (zsp 12), (57, (xb r.1))]), ⟨[(zc 3 (zm p0)), (7, (rowO true 3 zH s3_24 true)), (zc 11 (zl v702)), (12, (.cells [(xi r.2), (xi v702.By.Low), (xi v702.By.High)]))], []⟩, []⟩
theorem zok (k : Nat) (p0 : zd) (p1 p2 : Int) (v1 : zt11) (s3_16 : Int) (s3_24 : zt13) (v702 : zC) (cb : Bool) (r : zt1) (h : zTf k p0 p1 p2 v1 s3_16 s3_24 v702 cb = some r) : ev TE 92 (cnd TE 92 57) ⟨(zym p0 p1 p2 s3_24 v1 s3_16 ++ [(52, (xb true)), (zsp 12), (57, (xb cb))]), ⟨[(zc 3 (zm p0)), (7, (rowO true 3 zH s3_24 true)), (zc 11 (zl v702)), (12, (.cells [(xi 0), (xi v702.By.Low), (xi v702.By.High)]))], []⟩, []⟩ = some (.nor, zYd p0 p1 p2 v1 s3_16 s3_24 v702 cb r) := by
 unfold zTf at h
 refine cond_ok h (fun h1001 g1 => ?_) (fun h1001 g1 => ?_)
 ·subst h1001
  exact fin2_ok (g := fun r => (Ex.nor, zYd p0 p1 p2 v1 s3_16 s3_24 v702 true r)) g1 (zqe [] [] ob0 (by kernel_rfl))
 ·subst h1001
  exact fin2_ok (g := fun r => (Ex.nor, zYd p0 p1 p2 v1 s3_16 s3_24 v702 false r)) g1 (zqe [] [] ob0 (by kernel_rfl))
noncomputable def zEo (p0 : zd) (p1 p2 : Int) (s3_24 : zt13) (v1 : zt11) (s3_16 : Int) : TM := [(0, (.d (.agg (zm p0)))), (1, (xi p1)), (2, (xi p2)), (zsp 3), (6, (.d (.sl [] .nil))), (7, (.row 0 7 s3_24.length)), (15, (.d (dl zh p0.ShelfBook.Deliveries.1 p0.ShelfBook.Deliveries.2))), (16, (xi (p0.ShelfBook.Deliveries.1.length : Int))), (17, (xi v1.1)), (18, (xb false)), (36, (.d (dl zl p0.ShelfBook.Moves.1 p0.ShelfBook.Moves.2))), (37, (xi (p0.ShelfBook.Moves.1.length : Int))), (38, (xi s3_16))]
noncomputable def zKk (p0 : zd) (p1 p2 : Int) (v1 : zt11) (s3_16 : Int) (s3_24 : zt13) : St := ⟨(zEo p0 p1 p2 s3_24 v1 s3_16), ⟨[(zc 3 (zm p0)), (7, (rowO true 3 zH s3_24 true))], []⟩, []⟩
noncomputable def zEp (p0 : zd) (p1 p2 : Int) (r v1 : zt11) : TM := [(0, (.d (.agg (zm p0)))), (1, (xi p1)), (2, (xi p2)), (zsp 3), (6, (.d (.sl [] .nil))), (7, (.row 0 7 r.2.length)), (15, (.d (dl zh p0.ShelfBook.Deliveries.1 p0.ShelfBook.Deliveries.2))), (16, (xi (p0.ShelfBook.Deliveries.1.length : Int))), (17, (xi v1.1)), (18, (xb false)), (36, (.d (dl zl p0.ShelfBook.Moves.1 p0.ShelfBook.Moves.2))), (37, (xi (p0.ShelfBook.Moves.1.length : Int))), (38, (xi r.1)), (39, (xb false))]
noncomputable def zmf (p0 : zd) (p1 p2 : Int) (v1 r : zt11) : St := ⟨(zEp p0 p1 p2 r v1), ⟨[(zc 3 (zm p0)), (7, (rowO true 3 zH r.2 true))], []⟩, []⟩
noncomputable def zFk (p0 : zd) (p1 p2 : Int) (v1 : zt11) : (Int × (List zA)) → Ex × St := fun r => ((.exit 2), zmf p0 p1 p2 v1 r)
theorem zik (k : Nat) (p0 : zd) (p1 p2 : Int) (v1 : zt11) (s3_16 : Int) (s3_24 : zt13) (x : (Int × (List zA)) ⊕ (Int × (List zA))) (h : zsd k p0 p1 p2 v1 s3_16 s3_24 = some x) : LoopOK TE 92 (blk TE 92 2) (fun s : (Int × (List zA)) => zKk p0 p1 p2 v1 s.1 s.2) (zFk p0 p1 p2 v1) (s3_16, s3_24) x := by
 unfold zsd at h
 refine cond_ok h (fun h701 g1 => ?_) (fun h701 g1 => ?_)
 ·refine bind_ok g1 (fun v702 h703 g2 => ?_)
  refine bind_ok g2 (fun v704 h705 g3 => ?_)
  refine cond_ok g3 (fun h706 g4 => ?_) (fun h706 g4 => ?_)
  ·subst h706
   refine bind_ok g4 (fun v707 h708 g5 => ?_)
   refine guard_ok g5 (fun h709 g6 => ?_)
   exact zqn ((w64 (s3_16 + 1)), (s3_24 ++ [(⟨v707.2, v702.By⟩ : zA)])) [7] [(92, 9, 0, .q (xb true)), (92, 10, 0, .q (.d (.pin (zl v702)))), (92, 15, 3, .ap (s3_24 ++ [(⟨v707.2, v702.By⟩ : zA)]).length (rowO true 3 zH (s3_24 ++ [(⟨v707.2, v702.By⟩ : zA)]) true))] [(92, 1000011, (.nor, z0c p0 p1 p2 v1 s3_16 s3_24 v702 true)), (92, 2000057, (.nor, zYd p0 p1 p2 v1 s3_16 s3_24 v702 v702.Back v707))] g6 (ob (o_b h701) (ob (o_ia (e := zl) 5 h703 rfl) (ob (zPg k p0 p1 p2 v1 s3_16 s3_24 v702 _ h705) (ob (zok k p0 p1 p2 v1 s3_16 s3_24 v702 v702.Back _ h708) (ob (o_ap (b := true) (z := 3) (e := zH) (l := s3_24) (w := true) (⟨v707.2, v702.By⟩ : zA) (fun _ => rfl) h709) (ob (o_ref true 3 zH (s3_24 ++ [(⟨v707.2, v702.By⟩ : zA)]) true) ob0)))))) (by kernel_rfl)
  ·subst h706
   exact zqn ((w64 (s3_16 + 1)), s3_24) [7] [(92, 9, 0, .q (xb true)), (92, 10, 0, .q (.d (.pin (zl v702))))] [(92, 1000011, (.nor, z0c p0 p1 p2 v1 s3_16 s3_24 v702 false))] g4 (ob (o_b h701) (ob (o_ia (e := zl) 5 h703 rfl) (ob (zPg k p0 p1 p2 v1 s3_16 s3_24 v702 _ h705) (ob (o_ref true 3 zH s3_24 true) ob0)))) (by kernel_rfl)
 ·exact zqo [(92, 9, 0, .q (xb false))] [] g1 (ob (o_b h701) ob0) (by kernel_rfl)
theorem zuh (k : Nat) (p0 : zd) (p1 p2 : Int) (r : (SL zA)) (h : zud k p0 p1 p2 = some r) : callP TE (ev TE) 92 [(.agg (zm p0)), (di p1), (di p2)] = some (zNh r) := by
 unfold zud at h
 refine bind_ok h (fun v1 h2 g1 => ?_)
 refine bind_ok g1 (fun v3 h4 g2 => ?_)
 exact fin_ok (g := zNh) g2 (zqr [(92, 2, 3, .q (xi (p0.ShelfBook.Deliveries.1.length : Int))), (92, 8, 3, .q (xi (p0.ShelfBook.Moves.1.length : Int)))] [(92, 0, (.nor, zaf p0 p1 p2 v1)), (92, 2, (.nor, zmf p0 p1 p2 v1 v3))] [(dl zH v3.2 (rcap true v3.2))] (ob (o_len zh p0.ShelfBook.Deliveries.1) (ob (block_ok (id := 0) (r' := (.nor, zaf p0 p1 p2 v1)) (zU (zqk k p0 p1 p2) k _ _ h2) rfl) (ob (o_len zl p0.ShelfBook.Moves.1) (ob (block_ok (id := 2) (r' := (.nor, zmf p0 p1 p2 v1 v3)) (zU (zik k p0 p1 p2 v1) k _ _ h4) rfl) (ob (show snaps ⟨[(7, (rowO true 3 zH v3.2 true))], []⟩ _ = _ from (o_s1 (x := (.row 0 7 v3.2.length)) (snap_rowR true 3 zH v3.2 true rfl) o_s0)) ob0))))) (by kernel_rfl))
theorem zjd (k : Nat) (p0 r : zt0) (h : zW k p0 = some r) : callP TE (ev TE) 83 [(.agg (aB 61 p0))] = some (zRg r) := by
 unfold zW at h
 exact fin_ok (g := zRg) h (zqc [] [] ob0 (by kernel_rfl))
theorem zfl (k : Nat) (p0 : zd) (p1 p2 r : Int) (h : zXf k p0 p1 p2 = some r) : callP TE (ev TE) 114 [(.agg (zm p0)), (di p1), (di p2)] = some (zyi r) := by
 unfold zXf at h
 exact fin_ok (g := zyi) h (zqc [] [] ob0 (by kernel_rfl))
theorem zll (k : Nat) (p0 : zd) (p1 p2 r : Int) (h : zVf k p0 p1 p2 = some r) : callP TE (ev TE) 115 [(.agg (zm p0)), (di p1), (di p2)] = some (zxi r) := by
 unfold zVf at h
 exact fin_ok (g := zxi) h (zqc [] [] ob0 (by kernel_rfl))
noncomputable def z9o (p0 : zd) (p1 : zt0) (p2 : Int) (p3 : zj) (v1 : zt0) (s1_2 s9_14 v1203 : Int) (r : (Bool × (Nat → Bool))) : TM := [(0, (.d (.agg (zm p0)))), (1, (.d (.agg (aB 61 p1)))), (2, (xi p2)), (3, (.d (.agg [(di p3.Low), (di p3.High)]))), (zsp 4), (zsp 5), (zsp 6), (zsp 7), (zsp 8), (zsp 9), (14, (.d (.fn 96 [] [(.pin (aB 61 v1))]))), (15, (xi s1_2)), (10, (xi s1_2)), (11, (xi s9_14)), (21, (xb true)), (12, (xi v1203)), (40, (xb r.1))]
noncomputable def zWg (p0 : zd) (p1 : zt0) (p2 : Int) (p3 : zj) (v1 : zt0) : TM := [(0, (.d (.agg (zm p0)))), (1, (.d (.agg (aB 61 p1)))), (2, (xi p2)), (3, (.d (.agg [(di p3.Low), (di p3.High)]))), (zsp 4), (zsp 5), (zsp 6), (zsp 7), (zsp 8), (zsp 9), (14, (.d (.fn 96 [] [(.pin (aB 61 v1))])))]
noncomputable def zBd (p0 : zd) (p1 : zt0) (p2 : Int) (p3 : zj) (v1 : zt0) (s1_2 s9_14 : Int) (s9_27 : zt0) (v1203 : Int) (v1207 : Bool) (r : (Bool × (Nat → Bool))) : St := ⟨(z9o p0 p1 p2 p3 v1 s1_2 s9_14 v1203 r), ⟨[], [[(zc 4 (zm p0)), (zc 5 (aB 61 p1)), (6, (.cells [(xi p2)])), (7, (.cells [(xi p3.Low), (xi p3.High)])), (zc 8 (aB 61 (fun _ => false))), (zc 9 (aB 61 r.2))], []]⟩, [⟨(zWg p0 p1 p2 p3 v1), 0, rfP (blk TE 93 0), rfA (blk TE 93 0), rfB (blk TE 93 0), 93, .busy⟩]⟩
noncomputable def zhp (p0 : zd) (p1 : zt0) (p2 : Int) (p3 : zj) (v1 : zt0) (s1_2 s9_14 v1203 : Int) (v1207 : Bool) : TM := zWg p0 p1 p2 p3 v1 ++ [(15, (xi s1_2)), (10, (xi s1_2)), (11, (xi s9_14)), (21, (xb true)), (12, (xi v1203)), (40, (xb v1207))]
theorem zGj (k : Nat) (p0 : zd) (p1 : zt0) (p2 : Int) (p3 : zj) (v1 : zt0) (s1_2 s9_14 : Int) (s9_27 : zt0) (v1203 : Int) (v1207 : Bool) (r : (Bool × (Nat → Bool))) (h : zcd k p0 p1 p2 p3 v1 s1_2 s9_14 s9_27 v1203 v1207 = some r) : ev TE 93 (cnd TE 93 40) ⟨(zhp p0 p1 p2 p3 v1 s1_2 s9_14 v1203 v1207), ⟨[], [[(zc 4 (zm p0)), (zc 5 (aB 61 p1)), (6, (.cells [(xi p2)])), (7, (.cells [(xi p3.Low), (xi p3.High)])), (zc 8 (aB 61 (fun _ => false))), (zc 9 (aB 61 s9_27))], []]⟩, [⟨(zWg p0 p1 p2 p3 v1), 0, rfP (blk TE 93 0), rfA (blk TE 93 0), rfB (blk TE 93 0), 93, .busy⟩]⟩ = some (.nor, zBd p0 p1 p2 p3 v1 s1_2 s9_14 s9_27 v1203 v1207 r) := by
 unfold zcd at h
 refine cond_ok h (fun h1301 g1 => ?_) (fun h1301 g1 => ?_)
 ·subst h1301
  refine guard_ok g1 (fun h1302 g2 => ?_)
  exact fin2_ok (g := fun r => (Ex.nor, zBd p0 p1 p2 p3 v1 s1_2 s9_14 s9_27 v1203 true r)) g2 (zqe [(93, 9, 1, .q (.ptr 0 9 (v1203.toNat))), (93, 9, 2, .st ((aB 61 (upd s9_27 v1203.toNat true)).map .d))] [] (ob (o_aptr (m := 61) 0 9 0 1 v1203.toNat h1302 (by omega)) (ob (o_stB 61 s9_27 v1203.toNat true (by have := h1302; simp only [Bool.and_eq_true, decide_eq_true_eq] at this; omega)) ob0)) (by kernel_rfl))
 ·subst h1301
  exact fin2_ok (g := fun r => (Ex.nor, zBd p0 p1 p2 p3 v1 s1_2 s9_14 s9_27 v1203 false r)) g1 (zqe [] [] ob0 (by kernel_rfl))
noncomputable def z8o (p0 : zd) (p1 : zt0) (p2 : Int) (p3 : zj) (v1 : zt0) (s1_2 s9_14 v1204 : Int) (r : (Bool × (Nat → Bool))) : TM := zWg p0 p1 p2 p3 v1 ++ [(15, (xi s1_2)), (10, (xi s1_2)), (11, (xi s9_14)), (21, (xb true)), (12, (xi v1204)), (40, (xb r.1))]
noncomputable def zyd (p0 : zd) (p1 : zt0) (p2 : Int) (p3 : zj) (v1 : zt0) (s1_2 s9_14 : Int) (s9_27 : zt0) (v1204 : Int) (v1208 : Bool) (r : (Bool × (Nat → Bool))) : St := ⟨(z8o p0 p1 p2 p3 v1 s1_2 s9_14 v1204 r), ⟨[], [[(zc 4 (zm p0)), (zc 5 (aB 61 p1)), (6, (.cells [(xi p2)])), (7, (.cells [(xi p3.Low), (xi p3.High)])), (zc 8 (aB 61 (fun _ => false))), (zc 9 (aB 61 r.2))], []]⟩, [⟨(zWg p0 p1 p2 p3 v1), 0, rfP (blk TE 93 0), rfA (blk TE 93 0), rfB (blk TE 93 0), 93, .busy⟩]⟩
noncomputable def znp (p0 : zd) (p1 : zt0) (p2 : Int) (p3 : zj) (v1 : zt0) (s1_2 s9_14 v1204 : Int) (v1208 : Bool) : TM := zWg p0 p1 p2 p3 v1 ++ [(15, (xi s1_2)), (10, (xi s1_2)), (11, (xi s9_14)), (21, (xb true)), (12, (xi v1204)), (40, (xb v1208))]
theorem z4j (k : Nat) (p0 : zd) (p1 : zt0) (p2 : Int) (p3 : zj) (v1 : zt0) (s1_2 s9_14 : Int) (s9_27 : zt0) (v1204 : Int) (v1208 : Bool) (r : (Bool × (Nat → Bool))) (h : zad k p0 p1 p2 p3 v1 s1_2 s9_14 s9_27 v1204 v1208 = some r) : ev TE 93 (cnd TE 93 40) ⟨(znp p0 p1 p2 p3 v1 s1_2 s9_14 v1204 v1208), ⟨[], [[(zc 4 (zm p0)), (zc 5 (aB 61 p1)), (6, (.cells [(xi p2)])), (7, (.cells [(xi p3.Low), (xi p3.High)])), (zc 8 (aB 61 (fun _ => false))), (zc 9 (aB 61 s9_27))], []]⟩, [⟨(zWg p0 p1 p2 p3 v1), 0, rfP (blk TE 93 0), rfA (blk TE 93 0), rfB (blk TE 93 0), 93, .busy⟩]⟩ = some (.nor, zyd p0 p1 p2 p3 v1 s1_2 s9_14 s9_27 v1204 v1208 r) := by
 unfold zad at h
 refine cond_ok h (fun h1401 g1 => ?_) (fun h1401 g1 => ?_)
 ·subst h1401
  refine guard_ok g1 (fun h1402 g2 => ?_)
  exact fin2_ok (g := fun r => (Ex.nor, zyd p0 p1 p2 p3 v1 s1_2 s9_14 s9_27 v1204 true r)) g2 (zqe [(93, 9, 1, .q (.ptr 0 9 (v1204.toNat))), (93, 9, 2, .st ((aB 61 (upd s9_27 v1204.toNat true)).map .d))] [] (ob (o_aptr (m := 61) 0 9 0 1 v1204.toNat h1402 (by omega)) (ob (o_stB 61 s9_27 v1204.toNat true (by have := h1402; simp only [Bool.and_eq_true, decide_eq_true_eq] at this; omega)) ob0)) (by kernel_rfl))
 ·subst h1401
  exact fin2_ok (g := fun r => (Ex.nor, zyd p0 p1 p2 p3 v1 s1_2 s9_14 s9_27 v1204 false r)) g1 (zqe [] [] ob0 (by kernel_rfl))
noncomputable def zDk (p0 : zd) (p1 : zt0) (p2 : Int) (p3 : zj) (v1 : zt0) (s1_2 s9_14 : Int) (s9_27 : zt0) : St := ⟨(zWg p0 p1 p2 p3 v1 ++ [(15, (xi s1_2)), (10, (xi s1_2)), (11, (xi s9_14))]), ⟨[], [[(zc 4 (zm p0)), (zc 5 (aB 61 p1)), (6, (.cells [(xi p2)])), (7, (.cells [(xi p3.Low), (xi p3.High)])), (zc 8 (aB 61 (fun _ => false))), (zc 9 (aB 61 s9_27))], []]⟩, [⟨(zWg p0 p1 p2 p3 v1), 0, rfP (blk TE 93 0), rfA (blk TE 93 0), rfB (blk TE 93 0), 93, .busy⟩]⟩
noncomputable def zdf (p0 : zd) (p1 : zt0) (p2 : Int) (p3 : zj) (v1 : zt0) (s1_2 : Int) (r : zt12) : St := ⟨(zWg p0 p1 p2 p3 v1 ++ [(15, (xi s1_2)), (10, (xi s1_2)), (11, (xi r.1)), (21, (xb false))]), ⟨[], [[(zc 4 (zm p0)), (zc 5 (aB 61 p1)), (6, (.cells [(xi p2)])), (7, (.cells [(xi p3.Low), (xi p3.High)])), (zc 8 (aB 61 (fun _ => false))), (zc 9 (aB 61 r.2))], []]⟩, [⟨(zWg p0 p1 p2 p3 v1), 0, rfP (blk TE 93 0), rfA (blk TE 93 0), rfB (blk TE 93 0), 93, .busy⟩]⟩
noncomputable def zNk (p0 : zd) (p1 : zt0) (p2 : Int) (p3 : zj) (v1 : zt0) (s1_2 : Int) : (Int × (Nat → Bool)) → Ex × St := fun r => ((.exit 2), zdf p0 p1 p2 p3 v1 s1_2 r)
theorem zlk (k : Nat) (p0 : zd) (p1 : zt0) (p2 : Int) (p3 : zj) (v1 : zt0) (s1_2 s9_14 : Int) (s9_27 : zt0) (x : (Int × (Nat → Bool)) ⊕ (Int × (Nat → Bool))) (h : zNb k p0 p1 p2 p3 v1 s1_2 s9_14 s9_27 = some x) : LoopOK TE 93 (blk TE 93 2) (fun s : (Int × (Nat → Bool)) => zDk p0 p1 p2 p3 v1 s1_2 s.1 s.2) (zNk p0 p1 p2 p3 v1 s1_2) (s9_14, s9_27) x := by
 unfold zNb at h
 refine cond_ok h (fun h1201 g1 => ?_) (fun h1201 g1 => ?_)
 ·refine cond_ok g1 (fun h1202 g2 => ?_) (fun h1202 g2 => ?_)
  ·refine bind_ok g2 (fun v1203 h1204 g3 => ?_)
   refine bind_ok g3 (fun v1205 h1206 g4 => ?_)
   refine bind_ok g4 (fun v1207 h1208 g5 => ?_)
   refine bind_ok g5 (fun v1209 h1210 g6 => ?_)
   exact zqn ((w64 (s9_14 + 1)), v1209.2) [] [(93, 5, 3, .q (xb true)), (93, 7, 1, .q (.d (.pin [(.fn 114 [] []), (.fn 115 [] [])]))), (93, 7, 6, .c (di v1203)), (93, 8, 6, .q (.d (.pin (zk v1205)))), (93, 8, 9, .c (db v1207))] [(93, 2000040, (.nor, zBd p0 p1 p2 p3 v1 s1_2 s9_14 s9_27 v1203 v1207 v1209))] g6 (ob (o_b h1201) (ob (o_apin [(.fn 114 [] []), (.fn 115 [] [])] 2 1 (j := 0) (eq_of_beq h1202) (by decide)) (ob (zfl k p0 s1_2 s9_14 _ h1204) (ob (o_ia (e := zk) 3 h1206 rfl) (ob (zD k v1203 0 v1205.Room _ h1208) (ob (zGj k p0 p1 p2 p3 v1 s1_2 s9_14 s9_27 v1203 v1207 _ h1210) ob0)))))) (by kernel_rfl)
  ·refine cond_ok g2 (fun h1203 g3 => ?_) (fun h1203 g3 => ?_)
   ·refine bind_ok g3 (fun v1204 h1205 g4 => ?_)
    refine bind_ok g4 (fun v1206 h1207 g5 => ?_)
    refine bind_ok g5 (fun v1208 h1209 g6 => ?_)
    refine bind_ok g6 (fun v1210 h1211 g7 => ?_)
    exact zqn ((w64 (s9_14 + 1)), v1210.2) [] [(93, 5, 3, .q (xb true)), (93, 7, 1, .q (.d (.pin [(.fn 115 [] [])]))), (93, 7, 6, .c (di v1204)), (93, 8, 6, .q (.d (.pin (zk v1206)))), (93, 8, 9, .c (db v1208))] [(93, 2000040, (.nor, zyd p0 p1 p2 p3 v1 s1_2 s9_14 s9_27 v1204 v1208 v1210))] g7 (ob (o_b h1201) (ob (o_apin [(.fn 114 [] []), (.fn 115 [] [])] 2 1 (j := 1) (eq_of_beq h1203) (by decide)) (ob (zll k p0 s1_2 s9_14 _ h1205) (ob (o_ia (e := zk) 3 h1207 rfl) (ob (zD k v1204 0 v1206.Room _ h1209) (ob (z4j k p0 p1 p2 p3 v1 s1_2 s9_14 s9_27 v1204 v1208 _ h1211) ob0)))))) (by kernel_rfl)
   ·cases g3
 ·exact zqo [(93, 5, 3, .q (xb false))] [] g1 (ob (o_b h1201) ob0) (by kernel_rfl)
noncomputable def zep (v1 : zt0) (s1_2 : Int) : TM := [(0, (.yld 0)), (1, (.d (.pin (aB 61 v1)))), (5, (.d (.agg (aB 61 v1)))), (6, (xi s1_2)), (7, (xb true)), (3, (xi s1_2)), (4, (xb (v1 s1_2.toNat))), (16, (xb false))]
noncomputable def zTd (p0 : zd) (p1 : zt0) (p2 : Int) (p3 : zj) (v1 : zt0) (s1_2 : Int) (s1_15 r : zt0) : St := ⟨(zep v1 s1_2), ⟨[], [[(zc 4 (zm p0)), (zc 5 (aB 61 p1)), (6, (.cells [(xi p2)])), (7, (.cells [(xi p3.Low), (xi p3.High)])), (zc 8 (aB 61 (fun _ => false))), (zc 9 (aB 61 r))]]⟩, [⟨(zWg p0 p1 p2 p3 v1), 0, rfP (blk TE 93 0), rfA (blk TE 93 0), rfB (blk TE 93 0), 93, .rdy⟩]⟩
noncomputable def zvo (v1 : zt0) (s1_2 : Int) : TM := [(0, (.yld 0)), (1, (.d (.pin (aB 61 v1)))), (5, (.d (.agg (aB 61 v1)))), (6, (xi s1_2)), (7, (xb true)), (3, (xi s1_2)), (4, (xb (v1 s1_2.toNat)))]
theorem zwk (k : Nat) (p0 : zd) (p1 : zt0) (p2 : Int) (p3 : zj) (v1 : zt0) (s1_2 : Int) (s1_15 r : zt0) (h : zPe k p0 p1 p2 p3 v1 s1_2 s1_15 = some r) : ev TE 96 (rgn TE 96 3) ⟨(zvo v1 s1_2), ⟨[], [[(zc 4 (zm p0)), (zc 5 (aB 61 p1)), (6, (.cells [(xi p2)])), (7, (.cells [(xi p3.Low), (xi p3.High)])), (zc 8 (aB 61 (fun _ => false))), (zc 9 (aB 61 s1_15))]]⟩, [⟨(zWg p0 p1 p2 p3 v1), 0, rfP (blk TE 93 0), rfA (blk TE 93 0), rfB (blk TE 93 0), 93, .rdy⟩]⟩ = some (.nor, zTd p0 p1 p2 p3 v1 s1_2 s1_15 r) := by
 unfold zPe at h
 refine cond_ok h (fun h901 g1 => ?_) (fun h901 g1 => ?_)
 ·refine bind_ok g1 (fun v902 h903 g2 => ?_)
  exact fin2_ok (g := fun r => (Ex.nor, zTd p0 p1 p2 p3 v1 s1_2 s1_15 r)) g2 (zqe [(96, 3, 1, .q (xb true))] [(93, 2, (.nor, zdf p0 p1 p2 p3 v1 s1_2 v902))] (ob (o_b h901) (ob (block_ok (id := 2) (r' := (.nor, zdf p0 p1 p2 p3 v1 s1_2 v902)) (zU (zlk k p0 p1 p2 p3 v1 s1_2) k _ _ h903) rfl) ob0)) (by kernel_rfl))
 ·exact fin2_ok (g := fun r => (Ex.nor, zTd p0 p1 p2 p3 v1 s1_2 s1_15 r)) g1 (zqe [(96, 3, 1, .q (xb false))] [] (ob (o_b h901) ob0) (by kernel_rfl))
noncomputable def zKo (v1 : zt0) (s1_2 : Int) : TM := [(0, (.yld 0)), (1, (.d (.pin (aB 61 v1)))), (5, (.d (.agg (aB 61 v1)))), (6, (xi s1_2))]
noncomputable def zZk (p0 : zd) (p1 : zt0) (p2 : Int) (p3 : zj) (v1 : zt0) (s1_2 : Int) (s1_15 : zt0) : St := ⟨(zKo v1 s1_2), ⟨[], [[(zc 4 (zm p0)), (zc 5 (aB 61 p1)), (6, (.cells [(xi p2)])), (7, (.cells [(xi p3.Low), (xi p3.High)])), (zc 8 (aB 61 (fun _ => false))), (zc 9 (aB 61 s1_15))]]⟩, [⟨(zWg p0 p1 p2 p3 v1), 0, rfP (blk TE 93 0), rfA (blk TE 93 0), rfB (blk TE 93 0), 93, .rdy⟩]⟩
noncomputable def zup (v1 : zt0) (r : zt12) : TM := [(0, (.yld 0)), (1, (.d (.pin (aB 61 v1)))), (5, (.d (.agg (aB 61 v1)))), (6, (xi r.1)), (7, (xb false))]
noncomputable def z9e (p0 : zd) (p1 : zt0) (p2 : Int) (p3 : zj) (v1 : zt0) (r : zt12) : St := ⟨(zup v1 r), ⟨[], [[(zc 4 (zm p0)), (zc 5 (aB 61 p1)), (6, (.cells [(xi p2)])), (7, (.cells [(xi p3.Low), (xi p3.High)])), (zc 8 (aB 61 (fun _ => false))), (zc 9 (aB 61 r.2))]]⟩, [⟨(zWg p0 p1 p2 p3 v1), 0, rfP (blk TE 93 0), rfA (blk TE 93 0), rfB (blk TE 93 0), 93, .rdy⟩]⟩
noncomputable def zXk (p0 : zd) (p1 : zt0) (p2 : Int) (p3 : zj) (v1 : zt0) : (Int × (Nat → Bool)) → Ex × St := fun r => ((.exit 0), z9e p0 p1 p2 p3 v1 r)
theorem zyk (k : Nat) (p0 : zd) (p1 : zt0) (p2 : Int) (p3 : zj) (v1 : zt0) (s1_2 : Int) (s1_15 : zt0) (x : (Int × (Nat → Bool)) ⊕ (Int × (Nat → Bool))) (h : zpd k p0 p1 p2 p3 v1 s1_2 s1_15 = some x) : LoopOK TE 96 (blk TE 96 0) (fun s : (Int × (Nat → Bool)) => zZk p0 p1 p2 p3 v1 s.1 s.2) (zXk p0 p1 p2 p3 v1) (s1_2, s1_15) x := by
 unfold zpd at h
 refine cond_ok h (fun h801 g1 => ?_) (fun h801 g1 => ?_)
 ·refine guard_ok g1 (fun h802 g2 => ?_)
  refine bind_ok g2 (fun v803 h804 g3 => ?_)
  exact zqn ((w64 (s1_2 + 1)), v803) [] [(96, 1, 0, .q (xb true)), (96, 2, 1, .q (xb (v1 s1_2.toNat)))] [(96, 1000003, (.nor, zTd p0 p1 p2 p3 v1 s1_2 s1_15 v803))] g3 (ob (o_b h801) (ob (o_ixB 61 v1 s1_2 h802) (ob (zwk k p0 p1 p2 p3 v1 s1_2 s1_15 _ h804) ob0))) (by kernel_rfl)
 ·exact zqo [(96, 1, 0, .q (xb false))] [] g1 (ob (o_b h801) ob0) (by kernel_rfl)
theorem zth (k : Nat) (p0 : zd) (p1 : zt0) (p2 : Int) (p3 : zj) (r : zt0) (h : zIc k p0 p1 p2 p3 = some r) : callP TE (ev TE) 93 [(.agg (zm p0)), (.agg (aB 61 p1)), (di p2), (.agg [(di p3.Low), (di p3.High)])] = some (zMh r) := by
 unfold zIc at h
 refine bind_ok h (fun v1 h2 g1 => ?_)
 refine bind_ok g1 (fun v3 h4 g2 => ?_)
 exact fin_ok (g := zMh) g2 (zqc [(93, 2, 1, .c (.fn 96 [] [(.pin (aB 61 v1))]))] [(96, 0, (.nor, z9e p0 p1 p2 p3 v1 v3))] (ob (zjd k p1 _ h2) (ob (block_ok (id := 0) (r' := (.nor, z9e p0 p1 p2 p3 v1 v3)) (zU (zyk k p0 p1 p2 p3 v1) k _ _ h4) rfl) ob0)) (by kernel_rfl))
noncomputable def zAp (p0 : zd) (p1 : zt0) (p2 s1_11 : Int) (r : Bool) : TM := [(0, (.d (.agg (zm p0)))), (1, (.d (.agg (aB 61 p1)))), (2, (xi p2)), (zsp 3), (zsp 4), (zsp 6), (12, (.d (dl zi p0.ShelfBook.Counts.1 p0.ShelfBook.Counts.2))), (13, (xi (p0.ShelfBook.Counts.1.length : Int))), (14, (xi s1_11)), (15, (xb true)), (zsp 8), (7, (xi s1_11)), (37, (xb r))]
noncomputable def zAb (p0 : zd) (p1 : zt0) (p2 s1_11 : Int) (s1_19 : zt0) (v602 : zp) (r : Bool) : St := ⟨(zAp p0 p1 p2 s1_11 r), ⟨[(zc 3 (zm p0)), (zc 4 (aB 61 s1_19)), (zc 6 (aB 61 (fun _ => false))), (zc 8 (zi v602))], []⟩, []⟩
noncomputable def znm (p0 : zd) (p1 : zt0) (p2 s1_11 : Int) : TM := [(0, (.d (.agg (zm p0)))), (1, (.d (.agg (aB 61 p1)))), (2, (xi p2)), (zsp 3), (zsp 4), (zsp 6), (12, (.d (dl zi p0.ShelfBook.Counts.1 p0.ShelfBook.Counts.2))), (13, (xi (p0.ShelfBook.Counts.1.length : Int))), (14, (xi s1_11)), (15, (xb true)), (zsp 8), (7, (xi s1_11))]
theorem zbg (k : Nat) (p0 : zd) (p1 : zt0) (p2 s1_11 : Int) (s1_19 : zt0) (v602 : zp) (r : Bool) (h : zWd k p0 p1 p2 s1_11 s1_19 v602 = some r) : ev TE 95 (rgn TE 95 4) ⟨(znm p0 p1 p2 s1_11), ⟨[(zc 3 (zm p0)), (zc 4 (aB 61 s1_19)), (zc 6 (aB 61 (fun _ => false))), (zc 8 (zi v602))], []⟩, []⟩ = some (.nor, zAb p0 p1 p2 s1_11 s1_19 v602 r) := by
 unfold zWd at h
 refine cond_ok h (fun h701 g1 => ?_) (fun h701 g1 => ?_)
 ·exact fin2_ok (g := fun r => (Ex.nor, zAb p0 p1 p2 s1_11 s1_19 v602 r)) g1 (zqe [(95, 4, 4, .q (xb true))] [] (ob (o_b h701) ob0) (by kernel_rfl))
 ·refine cond_ok g1 (fun h702 g2 => ?_) (fun h702 g2 => ?_)
  ·exact fin2_ok (g := fun r => (Ex.nor, zAb p0 p1 p2 s1_11 s1_19 v602 r)) g2 (zqe [(95, 4, 4, .q (xb false)), (95, 4, 11, .q (xb true))] [] (ob (o_b h701) (ob (o_b h702) ob0)) (by kernel_rfl))
  ·refine cond_ok g2 (fun h703 g3 => ?_) (fun h703 g3 => ?_)
   ·cases g3
   ·exact fin2_ok (g := fun r => (Ex.nor, zAb p0 p1 p2 s1_11 s1_19 v602 r)) g3 (zqe [(95, 4, 4, .q (xb false)), (95, 4, 11, .q (xb false)), (95, 4, 15, .q (xi (shr64 p0.left s1_11)))] [] (ob (o_b h701) (ob (o_b h702) (ob (o_shr (x := p0.left) h703) ob0))) (by kernel_rfl))
noncomputable def zid (p0 : zd) (p1 : zt0) (p2 s1_11 : Int) (v602 : zp) (s7_15 : Int) (s7_23 r : zt0) : St := ⟨(znm p0 p1 p2 s1_11 ++ [(37, (xb false)), (38, (xi s7_15)), (39, (xb true)), (9, (xi s7_15))]), ⟨[(zc 3 (zm p0)), (zc 4 (aB 61 r)), (zc 6 (aB 61 (fun _ => false))), (zc 8 (zi v602))], []⟩, []⟩
theorem zxj (k : Nat) (p0 : zd) (p1 : zt0) (p2 s1_11 : Int) (v602 : zp) (s7_15 : Int) (s7_23 r : zt0) (h : zUd k p0 p1 p2 s1_11 v602 s7_15 s7_23 = some r) : ev TE 95 (rgn TE 95 8) ⟨(znm p0 p1 p2 s1_11 ++ [(37, (xb false)), (38, (xi s7_15)), (39, (xb true)), (9, (xi s7_15))]), ⟨[(zc 3 (zm p0)), (zc 4 (aB 61 s7_23)), (zc 6 (aB 61 (fun _ => false))), (zc 8 (zi v602))], []⟩, []⟩ = some (.nor, zid p0 p1 p2 s1_11 v602 s7_15 s7_23 r) := by
 unfold zUd at h
 refine guard_ok h (fun h1001 g1 => ?_)
 refine cond_ok g1 (fun h1002 g2 => ?_) (fun h1002 g2 => ?_)
 ·refine bind_ok g2 (fun v1003 h1004 g3 => ?_)
  exact fin2_ok (g := fun r => (Ex.nor, zid p0 p1 p2 s1_11 v602 s7_15 s7_23 r)) g3 (zqe [(95, 8, 2, .q (.ptr 0 4 (s7_15.toNat))), (95, 8, 3, .q (xb (s7_23 s7_15.toNat))), (95, 8, 4, .q (xb true)), (95, 8, 16, .c (db v1003)), (95, 8, 18, .q (.ptr 0 4 (s7_15.toNat))), (95, 8, 19, .st ((aB 61 (upd s7_23 s7_15.toNat v1003)).map .d))] [] (ob (o_aptr (m := 61) 0 4 0 1 s7_15.toNat h1001 (by omega)) (ob (o_ldB 61 s7_23 s7_15.toNat (by have := h1001; simp only [Bool.and_eq_true, decide_eq_true_eq] at this; omega)) (ob (o_b h1002) (ob (zD k s7_15 (w64 (v602.Read - v602.Err)) (w64 (v602.Read + v602.Err)) _ h1004) (ob (o_aptr (m := 61) 0 4 0 1 s7_15.toNat h1001 (by omega)) (ob (o_stB 61 s7_23 s7_15.toNat v1003 (by have := h1001; simp only [Bool.and_eq_true, decide_eq_true_eq] at this; omega)) ob0)))))) (by kernel_rfl))
 ·exact fin2_ok (g := fun r => (Ex.nor, zid p0 p1 p2 s1_11 v602 s7_15 s7_23 r)) g2 (zqe [(95, 8, 2, .q (.ptr 0 4 (s7_15.toNat))), (95, 8, 3, .q (xb (s7_23 s7_15.toNat))), (95, 8, 4, .q (xb false)), (95, 8, 18, .q (.ptr 0 4 (s7_15.toNat))), (95, 8, 19, .st ((aB 61 (upd s7_23 s7_15.toNat false)).map .d))] [] (ob (o_aptr (m := 61) 0 4 0 1 s7_15.toNat h1001 (by omega)) (ob (o_ldB 61 s7_23 s7_15.toNat (by have := h1001; simp only [Bool.and_eq_true, decide_eq_true_eq] at this; omega)) (ob (o_b h1002) (ob (o_aptr (m := 61) 0 4 0 1 s7_15.toNat h1001 (by omega)) (ob (o_stB 61 s7_23 s7_15.toNat false (by have := h1001; simp only [Bool.and_eq_true, decide_eq_true_eq] at this; omega)) ob0))))) (by kernel_rfl))
noncomputable def zYj (p0 : zd) (p1 : zt0) (p2 s1_11 : Int) (v602 : zp) (s7_15 : Int) (s7_23 : zt0) : St := ⟨(znm p0 p1 p2 s1_11 ++ [(37, (xb false)), (38, (xi s7_15))]), ⟨[(zc 3 (zm p0)), (zc 4 (aB 61 s7_23)), (zc 6 (aB 61 (fun _ => false))), (zc 8 (zi v602))], []⟩, []⟩
noncomputable def zve (p0 : zd) (p1 : zt0) (p2 s1_11 : Int) (v602 : zp) (r : zt12) : St := ⟨(znm p0 p1 p2 s1_11 ++ [(37, (xb false)), (38, (xi r.1)), (39, (xb false))]), ⟨[(zc 3 (zm p0)), (zc 4 (aB 61 r.2)), (zc 6 (aB 61 (fun _ => false))), (zc 8 (zi v602))], []⟩, []⟩
noncomputable def zTj (p0 : zd) (p1 : zt0) (p2 s1_11 : Int) (v602 : zp) : (Int × (Nat → Bool)) → Ex × St := fun r => ((.exit 2), zve p0 p1 p2 s1_11 v602 r)
theorem zaj (k : Nat) (p0 : zd) (p1 : zt0) (p2 s1_11 : Int) (v602 : zp) (s7_15 : Int) (s7_23 : zt0) (x : (Int × (Nat → Bool)) ⊕ (Int × (Nat → Bool))) (h : z1b k p0 p1 p2 s1_11 v602 s7_15 s7_23 = some x) : LoopOK TE 95 (blk TE 95 2) (fun s : (Int × (Nat → Bool)) => zYj p0 p1 p2 s1_11 v602 s.1 s.2) (zTj p0 p1 p2 s1_11 v602) (s7_15, s7_23) x := by
 unfold z1b at h
 refine cond_ok h (fun h901 g1 => ?_) (fun h901 g1 => ?_)
 ·refine bind_ok g1 (fun v902 h903 g2 => ?_)
  exact zqn ((w64 (s7_15 + 1)), v902) [] [(95, 6, 0, .q (xb true))] [(95, 1000008, (.nor, zid p0 p1 p2 s1_11 v602 s7_15 s7_23 v902))] g2 (ob (o_b h901) (ob (zxj k p0 p1 p2 s1_11 v602 s7_15 s7_23 _ h903) ob0)) (by kernel_rfl)
 ·exact zqo [(95, 6, 0, .q (xb false))] [] g1 (ob (o_b h901) ob0) (by kernel_rfl)
noncomputable def zCo (p0 : zd) (p1 : zt0) (p2 s1_11 : Int) : TM := [(0, (.d (.agg (zm p0)))), (1, (.d (.agg (aB 61 p1)))), (2, (xi p2)), (zsp 3), (zsp 4), (zsp 6), (12, (.d (dl zi p0.ShelfBook.Counts.1 p0.ShelfBook.Counts.2))), (13, (xi (p0.ShelfBook.Counts.1.length : Int))), (14, (xi s1_11))]
noncomputable def zFj (p0 : zd) (p1 : zt0) (p2 s1_11 : Int) (s1_19 : zt0) : St := ⟨(zCo p0 p1 p2 s1_11), ⟨[(zc 3 (zm p0)), (zc 4 (aB 61 s1_19)), (zc 6 (aB 61 (fun _ => false)))], []⟩, []⟩
noncomputable def zlp (p0 : zd) (p1 : zt0) (p2 : Int) (r : zt12) : TM := [(0, (.d (.agg (zm p0)))), (1, (.d (.agg (aB 61 p1)))), (2, (xi p2)), (zsp 3), (zsp 4), (zsp 6), (12, (.d (dl zi p0.ShelfBook.Counts.1 p0.ShelfBook.Counts.2))), (13, (xi (p0.ShelfBook.Counts.1.length : Int))), (14, (xi r.1)), (15, (xb false))]
noncomputable def zHe (p0 : zd) (p1 : zt0) (p2 : Int) (r : zt12) : St := ⟨(zlp p0 p1 p2 r), ⟨[(zc 3 (zm p0)), (zc 4 (aB 61 r.2)), (zc 6 (aB 61 (fun _ => false)))], []⟩, []⟩
noncomputable def zJj (p0 : zd) (p1 : zt0) (p2 : Int) : (Int × (Nat → Bool)) → Ex × St := fun r => ((.exit 0), zHe p0 p1 p2 r)
theorem zlj (k : Nat) (p0 : zd) (p1 : zt0) (p2 s1_11 : Int) (s1_19 : zt0) (x : (Int × (Nat → Bool)) ⊕ (Int × (Nat → Bool))) (h : zOc k p0 p1 p2 s1_11 s1_19 = some x) : LoopOK TE 95 (blk TE 95 0) (fun s : (Int × (Nat → Bool)) => zFj p0 p1 p2 s.1 s.2) (zJj p0 p1 p2) (s1_11, s1_19) x := by
 unfold zOc at h
 refine cond_ok h (fun h601 g1 => ?_) (fun h601 g1 => ?_)
 ·refine bind_ok g1 (fun v602 h603 g2 => ?_)
  refine bind_ok g2 (fun v604 h605 g3 => ?_)
  refine cond_ok g3 (fun h606 g4 => ?_) (fun h606 g4 => ?_)
  ·subst h606
   exact zqn ((w64 (s1_11 + 1)), s1_19) [] [(95, 2, 0, .q (xb true)), (95, 3, 1, .q (.d (.pin (zi v602))))] [(95, 1000004, (.nor, zAb p0 p1 p2 s1_11 s1_19 v602 true))] g4 (ob (o_b h601) (ob (o_ia (e := zi) 4 h603 rfl) (ob (zbg k p0 p1 p2 s1_11 s1_19 v602 _ h605) ob0))) (by kernel_rfl)
  ·subst h606
   refine bind_ok g4 (fun v607 h608 g5 => ?_)
   exact zqn ((w64 (s1_11 + 1)), v607.2) [] [(95, 2, 0, .q (xb true)), (95, 3, 1, .q (.d (.pin (zi v602))))] [(95, 1000004, (.nor, zAb p0 p1 p2 s1_11 s1_19 v602 false)), (95, 2, (.nor, zve p0 p1 p2 s1_11 v602 v607))] g5 (ob (o_b h601) (ob (o_ia (e := zi) 4 h603 rfl) (ob (zbg k p0 p1 p2 s1_11 s1_19 v602 _ h605) (ob (block_ok (id := 2) (r' := (.nor, zve p0 p1 p2 s1_11 v602 v607)) (zU (zaj k p0 p1 p2 s1_11 v602) k _ _ h608) rfl) ob0)))) (by kernel_rfl)
 ·exact zqo [(95, 2, 0, .q (xb false))] [] g1 (ob (o_b h601) ob0) (by kernel_rfl)
theorem z2g (k : Nat) (p0 : zd) (p1 : zt0) (p2 : Int) (r : zt0) (h : zMc k p0 p1 p2 = some r) : callP TE (ev TE) 95 [(.agg (zm p0)), (.agg (aB 61 p1)), (di p2)] = some (zih r) := by
 unfold zMc at h
 refine bind_ok h (fun v1 h2 g1 => ?_)
 exact fin_ok (g := zih) g1 (zqc [(95, 1, 3, .q (xi (p0.ShelfBook.Counts.1.length : Int)))] [(95, 0, (.nor, zHe p0 p1 p2 v1))] (ob (o_len zi p0.ShelfBook.Counts.1) (ob (block_ok (id := 0) (r' := (.nor, zHe p0 p1 p2 v1)) (zU (zlj k p0 p1 p2) k _ _ h2) rfl) ob0)) (by kernel_rfl))
noncomputable def z1o (v1 : zt0) (s1_2 : Int) : TM := [(0, (.yld 0)), (1, (.d (.pin (aB 61 v1)))), (5, (.d (.agg (aB 61 v1)))), (6, (xi s1_2)), (7, (xb true)), (3, (xi s1_2)), (4, (xb (v1 s1_2.toNat))), (16, (xb false))]
noncomputable def zpm (p0 p1 v1 : zt0) : TM := [(0, (.d (.agg (aB 61 p0)))), (1, (.d (.agg (aB 61 p1)))), (zsp 2), (zsp 3), (zsp 4), (7, (.d (.fn 96 [] [(.pin (aB 61 v1))])))]
noncomputable def z1f (p0 p1 v1 : zt0) (s1_2 : Int) (s1_3 r : zt0) : St := ⟨(z1o v1 s1_2), ⟨[], [[(zc 2 (aB 61 r)), (zc 3 (aB 61 p1)), (zc 4 (aB 61 (fun _ => false)))]]⟩, [⟨(zpm p0 p1 v1), 0, rfP (blk TE 94 0), rfA (blk TE 94 0), rfB (blk TE 94 0), 94, .rdy⟩]⟩
noncomputable def zJo (v1 : zt0) (s1_2 : Int) : TM := [(0, (.yld 0)), (1, (.d (.pin (aB 61 v1)))), (5, (.d (.agg (aB 61 v1)))), (6, (xi s1_2)), (7, (xb true)), (3, (xi s1_2)), (4, (xb (v1 s1_2.toNat)))]
theorem z6l (k : Nat) (p0 p1 v1 : zt0) (s1_2 : Int) (s1_3 r : zt0) (h : zTg k p0 p1 v1 s1_2 s1_3 = some r) : ev TE 96 (rgn TE 96 3) ⟨(zJo v1 s1_2), ⟨[], [[(zc 2 (aB 61 s1_3)), (zc 3 (aB 61 p1)), (zc 4 (aB 61 (fun _ => false)))]]⟩, [⟨(zpm p0 p1 v1), 0, rfP (blk TE 94 0), rfA (blk TE 94 0), rfB (blk TE 94 0), 94, .rdy⟩]⟩ = some (.nor, z1f p0 p1 v1 s1_2 s1_3 r) := by
 unfold zTg at h
 refine cond_ok h (fun h401 g1 => ?_) (fun h401 g1 => ?_)
 ·refine guard_ok g1 (fun h402 g2 => ?_)
  exact fin2_ok (g := fun r => (Ex.nor, z1f p0 p1 v1 s1_2 s1_3 r)) g2 (zqe [(96, 3, 1, .q (xb true)), (94, 3, 1, .q (.ptr 0 2 (s1_2.toNat))), (94, 3, 2, .st ((aB 61 (upd s1_3 s1_2.toNat true)).map .d))] [] (ob (o_b h401) (ob (o_aptr (m := 61) 0 2 0 1 s1_2.toNat h402 (by omega)) (ob (o_stB 61 s1_3 s1_2.toNat true (by have := h402; simp only [Bool.and_eq_true, decide_eq_true_eq] at this; omega)) ob0))) (by kernel_rfl))
 ·exact fin2_ok (g := fun r => (Ex.nor, z1f p0 p1 v1 s1_2 s1_3 r)) g1 (zqe [(96, 3, 1, .q (xb false))] [] (ob (o_b h401) ob0) (by kernel_rfl))
noncomputable def zdp (v1 : zt0) (s1_2 : Int) : TM := [(0, (.yld 0)), (1, (.d (.pin (aB 61 v1)))), (5, (.d (.agg (aB 61 v1)))), (6, (xi s1_2))]
noncomputable def zjm (p0 p1 v1 : zt0) (s1_2 : Int) (s1_3 : zt0) : St := ⟨(zdp v1 s1_2), ⟨[], [[(zc 2 (aB 61 s1_3)), (zc 3 (aB 61 p1)), (zc 4 (aB 61 (fun _ => false)))]]⟩, [⟨(zpm p0 p1 v1), 0, rfP (blk TE 94 0), rfA (blk TE 94 0), rfB (blk TE 94 0), 94, .rdy⟩]⟩
noncomputable def zxo (v1 : zt0) (r : zt12) : TM := [(0, (.yld 0)), (1, (.d (.pin (aB 61 v1)))), (5, (.d (.agg (aB 61 v1)))), (6, (xi r.1)), (7, (xb false))]
noncomputable def zZg (p0 p1 v1 : zt0) (r : zt12) : St := ⟨(zxo v1 r), ⟨[], [[(zc 2 (aB 61 r.2)), (zc 3 (aB 61 p1)), (zc 4 (aB 61 (fun _ => false)))]]⟩, [⟨(zpm p0 p1 v1), 0, rfP (blk TE 94 0), rfA (blk TE 94 0), rfB (blk TE 94 0), 94, .rdy⟩]⟩
noncomputable def zgm (p0 p1 v1 : zt0) : (Int × (Nat → Bool)) → Ex × St := fun r => ((.exit 0), zZg p0 p1 v1 r)
theorem zXl (k : Nat) (p0 p1 v1 : zt0) (s1_2 : Int) (s1_3 : zt0) (x : (Int × (Nat → Bool)) ⊕ (Int × (Nat → Bool))) (h : zOf k p0 p1 v1 s1_2 s1_3 = some x) : LoopOK TE 96 (blk TE 96 0) (fun s : (Int × (Nat → Bool)) => zjm p0 p1 v1 s.1 s.2) (zgm p0 p1 v1) (s1_2, s1_3) x := by
 unfold zOf at h
 refine cond_ok h (fun h301 g1 => ?_) (fun h301 g1 => ?_)
 ·refine guard_ok g1 (fun h302 g2 => ?_)
  refine bind_ok g2 (fun v303 h304 g3 => ?_)
  exact zqn ((w64 (s1_2 + 1)), v303) [] [(96, 1, 0, .q (xb true)), (96, 2, 1, .q (xb (v1 s1_2.toNat)))] [(96, 1000003, (.nor, z1f p0 p1 v1 s1_2 s1_3 v303))] g3 (ob (o_b h301) (ob (o_ixB 61 v1 s1_2 h302) (ob (z6l k p0 p1 v1 s1_2 s1_3 _ h304) ob0))) (by kernel_rfl)
 ·exact zqo [(96, 1, 0, .q (xb false))] [] g1 (ob (o_b h301) ob0) (by kernel_rfl)
theorem z8k (k : Nat) (p0 p1 r : zt0) (h : zog k p0 p1 = some r) : callP TE (ev TE) 94 [(.agg (aB 61 p0)), (.agg (aB 61 p1))] = some (zil r) := by
 unfold zog at h
 refine bind_ok h (fun v1 h2 g1 => ?_)
 refine bind_ok g1 (fun v3 h4 g2 => ?_)
 exact fin_ok (g := zil) g2 (zqc [(94, 1, 1, .c (.fn 96 [] [(.pin (aB 61 v1))]))] [(96, 0, (.nor, zZg p0 p1 v1 v3))] (ob (zjd k p1 _ h2) (ob (block_ok (id := 0) (r' := (.nor, zZg p0 p1 v1 v3)) (zU (zXl k p0 p1 v1) k _ _ h4) rfl) ob0)) (by kernel_rfl))
noncomputable def zTo (v3105 : zt5) (s31_10 s36_15 : Int) (r : Bool) : TM := [(0, (.yld 0)), (1, (.d (.pin [(di v3105.1), (dl zk v3105.2.1.1 v3105.2.1.2), (dl zl v3105.2.2.1.1 v3105.2.2.1.2), (dl zh v3105.2.2.2.1.1 v3105.2.2.2.1.2), (dl zi v3105.2.2.2.2.1.1 v3105.2.2.2.2.1.2), (di v3105.2.2.2.2.2.1), (di v3105.2.2.2.2.2.2.1)]))), (2, (.d (.pin [(di v3105.2.2.2.2.2.2.2.1)]))), (3, (.d (.pin [(di v3105.2.2.2.2.2.2.2.2)]))), (14, (xi (shl64 1 (v3105.2.2.2.1.1.length : Int)))), (15, (xi s31_10)), (16, (xb true)), (5, (xi s31_10)), (20, (.d (dl zh v3105.2.2.2.1.1 v3105.2.2.2.1.2))), (21, (xi (v3105.2.2.2.1.1.length : Int))), (22, (xi s36_15)), (23, (xb true)), (7, (.ptr 1 7 0)), (6, (xi s36_15)), (8, (xb ((and64 (shr64 v3105.2.2.2.2.2.2.2.1 s36_15) 1) == 1))), (9, (xb ((and64 (shr64 s31_10 s36_15) 1) == 1))), (41, (xb false)), (76, (xb r))]
noncomputable def zfi (p0 : zd) (s1_8 s21_11 : Int) (v3105 : zt5) : TM := [(0, (.d (.agg (zm p0)))), (zsp 1), (2, (.d .nilm)), (zsp 3), (18, (xi p0.ShelfBook.Days)), (19, (xi s1_8)), (20, (xb true)), (zsp 4), (26, (xi (shl64 1 (p0.ShelfBook.Deliveries.1.length : Int)))), (27, (xi s21_11)), (28, (xb true)), (zsp 5), (zsp 6), (38, (xb false)), (42, (.d (.fn 97 [] [(.pin [(di v3105.1), (dl zk v3105.2.1.1 v3105.2.1.2), (dl zl v3105.2.2.1.1 v3105.2.2.1.2), (dl zh v3105.2.2.2.1.1 v3105.2.2.2.1.2), (dl zi v3105.2.2.2.2.1.1 v3105.2.2.2.2.1.2), (di v3105.2.2.2.2.2.1), (di v3105.2.2.2.2.2.2.1)]), (.pin [(di v3105.2.2.2.2.2.2.2.1)]), (.pin [(di v3105.2.2.2.2.2.2.2.2)])])))]
noncomputable def zL (p0 : zd) (s1_8 s21_11 : Int) (s21_19 : zt2) (v3105 : zt5) (s31_10 : Int) (s31_18 : zt2) (s36_15 : Int) (v3802 : zo) (r : Bool) : St := ⟨(zTo v3105 s31_10 s36_15 r), ⟨[(zc 7 (zh v3802))], [[(zc 1 (zm p0)), (11, (.map (em (fun k => D.agg (zy k)) (fun v => D.agg ((aB 61) v)) s31_18))), (3, (.cells [(.map 0 11)])), (4, (.cells [(xi s1_8)])), (5, (.cells [(xi s21_11)])), (zc 6 (aB 61 ((mfind zz (⟨(w64 (s1_8 - 1)), s21_11⟩ : zq) s21_19).getD (fun _ => false))))]]⟩, [⟨(zfi p0 s1_8 s21_11 v3105), 0, rfP (blk TE 81 4), rfA (blk TE 81 4), rfB (blk TE 81 4), 81, .rdy⟩]⟩
noncomputable def zRo (v3105 : zt5) (s31_10 s36_15 : Int) : TM := [(0, (.yld 0)), (1, (.d (.pin [(di v3105.1), (dl zk v3105.2.1.1 v3105.2.1.2), (dl zl v3105.2.2.1.1 v3105.2.2.1.2), (dl zh v3105.2.2.2.1.1 v3105.2.2.2.1.2), (dl zi v3105.2.2.2.2.1.1 v3105.2.2.2.2.1.2), (di v3105.2.2.2.2.2.1), (di v3105.2.2.2.2.2.2.1)]))), (2, (.d (.pin [(di v3105.2.2.2.2.2.2.2.1)]))), (3, (.d (.pin [(di v3105.2.2.2.2.2.2.2.2)]))), (14, (xi (shl64 1 (v3105.2.2.2.1.1.length : Int)))), (15, (xi s31_10)), (16, (xb true)), (5, (xi s31_10)), (20, (.d (dl zh v3105.2.2.2.1.1 v3105.2.2.2.1.2))), (21, (xi (v3105.2.2.2.1.1.length : Int))), (22, (xi s36_15)), (23, (xb true)), (7, (.ptr 1 7 0)), (6, (xi s36_15)), (8, (xb ((and64 (shr64 v3105.2.2.2.2.2.2.2.1 s36_15) 1) == 1))), (9, (xb ((and64 (shr64 s31_10 s36_15) 1) == 1))), (41, (xb false))]
theorem zrg (k : Nat) (p0 : zd) (s1_8 s21_11 : Int) (s21_19 : zt2) (v3105 : zt5) (s31_10 : Int) (s31_18 : zt2) (s36_15 : Int) (v3802 : zo) (r : Bool) (h : zke k p0 s1_8 s21_11 s21_19 v3105 s31_10 s31_18 s36_15 v3802 = some r) : ev TE 97 (rgn TE 97 9) ⟨(zRo v3105 s31_10 s36_15), ⟨[(zc 7 (zh v3802))], [[(zc 1 (zm p0)), (11, (.map (em (fun k => D.agg (zy k)) (fun v => D.agg ((aB 61) v)) s31_18))), (3, (.cells [(.map 0 11)])), (4, (.cells [(xi s1_8)])), (5, (.cells [(xi s21_11)])), (zc 6 (aB 61 ((mfind zz (⟨(w64 (s1_8 - 1)), s21_11⟩ : zq) s21_19).getD (fun _ => false))))]]⟩, [⟨(zfi p0 s1_8 s21_11 v3105), 0, rfP (blk TE 81 4), rfA (blk TE 81 4), rfB (blk TE 81 4), 81, .rdy⟩]⟩ = some (.nor, zL p0 s1_8 s21_11 s21_19 v3105 s31_10 s31_18 s36_15 v3802 r) := by
 unfold zke at h
 refine cond_ok h (fun h3901 g1 => ?_) (fun h3901 g1 => ?_)
 ·refine cond_ok g1 (fun h3902 g2 => ?_) (fun h3902 g2 => ?_)
  ·exact fin2_ok (g := fun r => (Ex.nor, zL p0 s1_8 s21_11 s21_19 v3105 s31_10 s31_18 s36_15 v3802 r)) g2 (zqe [(97, 9, 1, .q (xb true)), (97, 9, 5, .q (xb true))] [] (ob (o_b h3901) (ob (o_b h3902) ob0)) (by kernel_rfl))
  ·refine cond_ok g2 (fun h3903 g3 => ?_) (fun h3903 g3 => ?_)
   ·refine cond_ok g3 (fun h3904 g4 => ?_) (fun h3904 g4 => ?_)
    ·refine bind_ok g4 (fun v3905 h3906 g5 => ?_)
     refine cond_ok g5 (fun h3907 g6 => ?_) (fun h3907 g6 => ?_)
     ·exact fin2_ok (g := fun r => (Ex.nor, zL p0 s1_8 s21_11 s21_19 v3105 s31_10 s31_18 s36_15 v3802 r)) g6 (zqe [(97, 9, 1, .q (xb true)), (97, 9, 5, .q (xb false)), (97, 9, 7, .q (xb true)), (97, 9, 11, .q (xb true)), (97, 9, 19, .c (db v3905)), (97, 9, 23, .q (xb true))] [] (ob (o_b h3901) (ob (o_b h3902) (ob (o_b h3903) (ob (o_b h3904) (ob (zD k v3105.2.2.2.2.2.2.2.2 v3802.Days.Low v3802.Days.High _ h3906) (ob (o_b h3907) ob0)))))) (by kernel_rfl))
     ·exact fin2_ok (g := fun r => (Ex.nor, zL p0 s1_8 s21_11 s21_19 v3105 s31_10 s31_18 s36_15 v3802 r)) g6 (zqe [(97, 9, 1, .q (xb true)), (97, 9, 5, .q (xb false)), (97, 9, 7, .q (xb true)), (97, 9, 11, .q (xb true)), (97, 9, 19, .c (db v3905)), (97, 9, 23, .q (xb false)), (97, 9, 26, .q (xb false))] [] (ob (o_b h3901) (ob (o_b h3902) (ob (o_b h3903) (ob (o_b h3904) (ob (zD k v3105.2.2.2.2.2.2.2.2 v3802.Days.Low v3802.Days.High _ h3906) (ob (o_b h3907) (ob (o_b h3902) ob0))))))) (by kernel_rfl))
    ·exact fin2_ok (g := fun r => (Ex.nor, zL p0 s1_8 s21_11 s21_19 v3105 s31_10 s31_18 s36_15 v3802 r)) g4 (zqe [(97, 9, 1, .q (xb true)), (97, 9, 5, .q (xb false)), (97, 9, 7, .q (xb true)), (97, 9, 11, .q (xb false)), (97, 9, 26, .q (xb false))] [] (ob (o_b h3901) (ob (o_b h3902) (ob (o_b h3903) (ob (o_b h3904) (ob (o_b h3902) ob0))))) (by kernel_rfl))
   ·exact fin2_ok (g := fun r => (Ex.nor, zL p0 s1_8 s21_11 s21_19 v3105 s31_10 s31_18 s36_15 v3802 r)) g3 (zqe [(97, 9, 1, .q (xb true)), (97, 9, 5, .q (xb false)), (97, 9, 7, .q (xb false)), (97, 9, 26, .q (xb false))] [] (ob (o_b h3901) (ob (o_b h3902) (ob (o_b h3903) (ob (o_b h3902) ob0)))) (by kernel_rfl))
 ·refine cond_ok g1 (fun h3902 g2 => ?_) (fun h3902 g2 => ?_)
  ·refine cond_ok g2 (fun h3903 g3 => ?_) (fun h3903 g3 => ?_)
   ·refine bind_ok g3 (fun v3904 h3905 g4 => ?_)
    refine cond_ok g4 (fun h3906 g5 => ?_) (fun h3906 g5 => ?_)
    ·exact fin2_ok (g := fun r => (Ex.nor, zL p0 s1_8 s21_11 s21_19 v3105 s31_10 s31_18 s36_15 v3802 r)) g5 (zqe [(97, 9, 1, .q (xb false)), (97, 9, 7, .q (xb true)), (97, 9, 11, .q (xb true)), (97, 9, 19, .c (db v3904)), (97, 9, 23, .q (xb true))] [] (ob (o_b h3901) (ob (o_b h3902) (ob (o_b h3903) (ob (zD k v3105.2.2.2.2.2.2.2.2 v3802.Days.Low v3802.Days.High _ h3905) (ob (o_b h3906) ob0))))) (by kernel_rfl))
    ·refine cond_ok g5 (fun h3907 g6 => ?_) (fun h3907 g6 => ?_)
     ·exact fin2_ok (g := fun r => (Ex.nor, zL p0 s1_8 s21_11 s21_19 v3105 s31_10 s31_18 s36_15 v3802 r)) g6 (zqe [(97, 9, 1, .q (xb false)), (97, 9, 7, .q (xb true)), (97, 9, 11, .q (xb true)), (97, 9, 19, .c (db v3904)), (97, 9, 23, .q (xb false)), (97, 9, 26, .q (xb true))] [] (ob (o_b h3901) (ob (o_b h3902) (ob (o_b h3903) (ob (zD k v3105.2.2.2.2.2.2.2.2 v3802.Days.Low v3802.Days.High _ h3905) (ob (o_b h3906) (ob (o_b h3907) ob0)))))) (by kernel_rfl))
     ·exact fin2_ok (g := fun r => (Ex.nor, zL p0 s1_8 s21_11 s21_19 v3105 s31_10 s31_18 s36_15 v3802 r)) g6 (zqe [(97, 9, 1, .q (xb false)), (97, 9, 7, .q (xb true)), (97, 9, 11, .q (xb true)), (97, 9, 19, .c (db v3904)), (97, 9, 23, .q (xb false)), (97, 9, 26, .q (xb false))] [] (ob (o_b h3901) (ob (o_b h3902) (ob (o_b h3903) (ob (zD k v3105.2.2.2.2.2.2.2.2 v3802.Days.Low v3802.Days.High _ h3905) (ob (o_b h3906) (ob (o_b h3907) ob0)))))) (by kernel_rfl))
   ·refine cond_ok g3 (fun h3904 g4 => ?_) (fun h3904 g4 => ?_)
    ·exact fin2_ok (g := fun r => (Ex.nor, zL p0 s1_8 s21_11 s21_19 v3105 s31_10 s31_18 s36_15 v3802 r)) g4 (zqe [(97, 9, 1, .q (xb false)), (97, 9, 7, .q (xb true)), (97, 9, 11, .q (xb false)), (97, 9, 26, .q (xb true))] [] (ob (o_b h3901) (ob (o_b h3902) (ob (o_b h3903) (ob (o_b h3904) ob0)))) (by kernel_rfl))
    ·exact fin2_ok (g := fun r => (Ex.nor, zL p0 s1_8 s21_11 s21_19 v3105 s31_10 s31_18 s36_15 v3802 r)) g4 (zqe [(97, 9, 1, .q (xb false)), (97, 9, 7, .q (xb true)), (97, 9, 11, .q (xb false)), (97, 9, 26, .q (xb false))] [] (ob (o_b h3901) (ob (o_b h3902) (ob (o_b h3903) (ob (o_b h3904) ob0)))) (by kernel_rfl))
  ·refine cond_ok g2 (fun h3903 g3 => ?_) (fun h3903 g3 => ?_)
   ·exact fin2_ok (g := fun r => (Ex.nor, zL p0 s1_8 s21_11 s21_19 v3105 s31_10 s31_18 s36_15 v3802 r)) g3 (zqe [(97, 9, 1, .q (xb false)), (97, 9, 7, .q (xb false)), (97, 9, 26, .q (xb true))] [] (ob (o_b h3901) (ob (o_b h3902) (ob (o_b h3903) ob0))) (by kernel_rfl))
   ·exact fin2_ok (g := fun r => (Ex.nor, zL p0 s1_8 s21_11 s21_19 v3105 s31_10 s31_18 s36_15 v3802 r)) g3 (zqe [(97, 9, 1, .q (xb false)), (97, 9, 7, .q (xb false)), (97, 9, 26, .q (xb false))] [] (ob (o_b h3901) (ob (o_b h3902) (ob (o_b h3903) ob0))) (by kernel_rfl))
noncomputable def zip (v3105 : zt5) (s31_10 s36_15 : Int) : TM := [(0, (.yld 0)), (1, (.d (.pin [(di v3105.1), (dl zk v3105.2.1.1 v3105.2.1.2), (dl zl v3105.2.2.1.1 v3105.2.2.1.2), (dl zh v3105.2.2.2.1.1 v3105.2.2.2.1.2), (dl zi v3105.2.2.2.2.1.1 v3105.2.2.2.2.1.2), (di v3105.2.2.2.2.2.1), (di v3105.2.2.2.2.2.2.1)]))), (2, (.d (.pin [(di v3105.2.2.2.2.2.2.2.1)]))), (3, (.d (.pin [(di v3105.2.2.2.2.2.2.2.2)]))), (14, (xi (shl64 1 (v3105.2.2.2.1.1.length : Int)))), (15, (xi s31_10)), (16, (xb true)), (5, (xi s31_10)), (20, (.d (dl zh v3105.2.2.2.1.1 v3105.2.2.2.1.2))), (21, (xi (v3105.2.2.2.1.1.length : Int))), (22, (xi s36_15))]
noncomputable def zxk (p0 : zd) (s1_8 s21_11 : Int) (s21_19 : zt2) (v3105 : zt5) (s31_10 : Int) (s31_18 : zt2) (s36_15 : Int) : St := ⟨(zip v3105 s31_10 s36_15), ⟨[], [[(zc 1 (zm p0)), (11, (.map (em (fun k => D.agg (zy k)) (fun v => D.agg ((aB 61) v)) s31_18))), (3, (.cells [(.map 0 11)])), (4, (.cells [(xi s1_8)])), (5, (.cells [(xi s21_11)])), (zc 6 (aB 61 ((mfind zz (⟨(w64 (s1_8 - 1)), s21_11⟩ : zq) s21_19).getD (fun _ => false))))]]⟩, [⟨(zfi p0 s1_8 s21_11 v3105), 0, rfP (blk TE 81 4), rfA (blk TE 81 4), rfB (blk TE 81 4), 81, .rdy⟩]⟩
noncomputable def zzo (v3105 : zt5) (s31_10 : Int) (r : (Int × Bool × Bool × Int × Int × Int × Int × Int)) : TM := [(0, (.yld 0)), (1, (.d (.pin [(di v3105.1), (dl zk v3105.2.1.1 v3105.2.1.2), (dl zl v3105.2.2.1.1 v3105.2.2.1.2), (dl zh v3105.2.2.2.1.1 v3105.2.2.2.1.2), (dl zi v3105.2.2.2.2.1.1 v3105.2.2.2.2.1.2), (di v3105.2.2.2.2.2.1), (di v3105.2.2.2.2.2.2.1)]))), (2, (.d (.pin [(di v3105.2.2.2.2.2.2.2.1)]))), (3, (.d (.pin [(di v3105.2.2.2.2.2.2.2.2)]))), (14, (xi (shl64 1 (v3105.2.2.2.1.1.length : Int)))), (15, (xi s31_10)), (16, (xb true)), (5, (xi s31_10)), (20, (.d (dl zh v3105.2.2.2.1.1 v3105.2.2.2.1.2))), (21, (xi (v3105.2.2.2.1.1.length : Int))), (22, (xi r.1)), (23, (xb true)), (7, (.ptr 1 7 0)), (6, (xi r.1)), (8, (xb r.2.1)), (9, (xb r.2.2.1)), (41, (xb true)), (42, (xb true))]
noncomputable def zRe (p0 : zd) (s1_8 s21_11 : Int) (s21_19 : zt2) (v3105 : zt5) (s31_10 : Int) (s31_18 : zt2) (r : (Int × Bool × Bool × Int × Int × Int × Int × Int)) : St := ⟨(zzo v3105 s31_10 r), ⟨[(7, (.cells [(xi r.2.2.2.1), (xi r.2.2.2.2.1), (xi r.2.2.2.2.2.1), (xi r.2.2.2.2.2.2.1), (xi r.2.2.2.2.2.2.2)]))], [[(zc 1 (zm p0)), (11, (.map (em (fun k => D.agg (zy k)) (fun v => D.agg ((aB 61) v)) s31_18))), (3, (.cells [(.map 0 11)])), (4, (.cells [(xi s1_8)])), (5, (.cells [(xi s21_11)])), (zc 6 (aB 61 ((mfind zz (⟨(w64 (s1_8 - 1)), s21_11⟩ : zq) s21_19).getD (fun _ => false))))]]⟩, [⟨(zfi p0 s1_8 s21_11 v3105), 0, rfP (blk TE 81 4), rfA (blk TE 81 4), rfB (blk TE 81 4), 81, .rdy⟩]⟩
noncomputable def zOo (v3105 : zt5) (s31_10 : Int) (r : (Int × Bool × Bool × Int × Int × Int × Int × Int)) : TM := [(0, (.yld 0)), (1, (.d (.pin [(di v3105.1), (dl zk v3105.2.1.1 v3105.2.1.2), (dl zl v3105.2.2.1.1 v3105.2.2.1.2), (dl zh v3105.2.2.2.1.1 v3105.2.2.2.1.2), (dl zi v3105.2.2.2.2.1.1 v3105.2.2.2.2.1.2), (di v3105.2.2.2.2.2.1), (di v3105.2.2.2.2.2.2.1)]))), (2, (.d (.pin [(di v3105.2.2.2.2.2.2.2.1)]))), (3, (.d (.pin [(di v3105.2.2.2.2.2.2.2.2)]))), (14, (xi (shl64 1 (v3105.2.2.2.1.1.length : Int)))), (15, (xi s31_10)), (16, (xb true)), (5, (xi s31_10)), (20, (.d (dl zh v3105.2.2.2.1.1 v3105.2.2.2.1.2))), (21, (xi (v3105.2.2.2.1.1.length : Int))), (22, (xi r.1)), (23, (xb true)), (7, (.ptr 1 7 0)), (6, (xi r.1)), (8, (xb r.2.1)), (9, (xb r.2.2.1)), (41, (xb false)), (76, (xb true))]
noncomputable def zUe (p0 : zd) (s1_8 s21_11 : Int) (s21_19 : zt2) (v3105 : zt5) (s31_10 : Int) (s31_18 : zt2) (r : (Int × Bool × Bool × Int × Int × Int × Int × Int)) : St := ⟨(zOo v3105 s31_10 r), ⟨[(7, (.cells [(xi r.2.2.2.1), (xi r.2.2.2.2.1), (xi r.2.2.2.2.2.1), (xi r.2.2.2.2.2.2.1), (xi r.2.2.2.2.2.2.2)]))], [[(zc 1 (zm p0)), (11, (.map (em (fun k => D.agg (zy k)) (fun v => D.agg ((aB 61) v)) s31_18))), (3, (.cells [(.map 0 11)])), (4, (.cells [(xi s1_8)])), (5, (.cells [(xi s21_11)])), (zc 6 (aB 61 ((mfind zz (⟨(w64 (s1_8 - 1)), s21_11⟩ : zq) s21_19).getD (fun _ => false))))]]⟩, [⟨(zfi p0 s1_8 s21_11 v3105), 0, rfP (blk TE 81 4), rfA (blk TE 81 4), rfB (blk TE 81 4), 81, .rdy⟩]⟩
noncomputable def zGo (v3105 : zt5) (s31_10 r : Int) : TM := [(0, (.yld 0)), (1, (.d (.pin [(di v3105.1), (dl zk v3105.2.1.1 v3105.2.1.2), (dl zl v3105.2.2.1.1 v3105.2.2.1.2), (dl zh v3105.2.2.2.1.1 v3105.2.2.2.1.2), (dl zi v3105.2.2.2.2.1.1 v3105.2.2.2.2.1.2), (di v3105.2.2.2.2.2.1), (di v3105.2.2.2.2.2.2.1)]))), (2, (.d (.pin [(di v3105.2.2.2.2.2.2.2.1)]))), (3, (.d (.pin [(di v3105.2.2.2.2.2.2.2.2)]))), (14, (xi (shl64 1 (v3105.2.2.2.1.1.length : Int)))), (15, (xi s31_10)), (16, (xb true)), (5, (xi s31_10)), (20, (.d (dl zh v3105.2.2.2.1.1 v3105.2.2.2.1.2))), (21, (xi (v3105.2.2.2.1.1.length : Int))), (22, (xi r)), (23, (xb false))]
noncomputable def zZe (p0 : zd) (s1_8 s21_11 : Int) (s21_19 : zt2) (v3105 : zt5) (s31_10 : Int) (s31_18 : zt2) (r : Int) : St := ⟨(zGo v3105 s31_10 r), ⟨[], [[(zc 1 (zm p0)), (11, (.map (em (fun k => D.agg (zy k)) (fun v => D.agg ((aB 61) v)) s31_18))), (3, (.cells [(.map 0 11)])), (4, (.cells [(xi s1_8)])), (5, (.cells [(xi s21_11)])), (zc 6 (aB 61 ((mfind zz (⟨(w64 (s1_8 - 1)), s21_11⟩ : zq) s21_19).getD (fun _ => false))))]]⟩, [⟨(zfi p0 s1_8 s21_11 v3105), 0, rfP (blk TE 81 4), rfA (blk TE 81 4), rfB (blk TE 81 4), 81, .rdy⟩]⟩
noncomputable def zhk (p0 : zd) (s1_8 s21_11 : Int) (s21_19 : zt2) (v3105 : zt5) (s31_10 : Int) (s31_18 : zt2) : ((Int × Bool × Bool × Int × Int × Int × Int × Int) ⊕ ((Int × Bool × Bool × Int × Int × Int × Int × Int) ⊕ Int)) → Ex × St := Sum.elim (fun r => ((.exit 1), zRe p0 s1_8 s21_11 s21_19 v3105 s31_10 s31_18 r)) (Sum.elim (fun r => ((.exit 1), zUe p0 s1_8 s21_11 s21_19 v3105 s31_10 s31_18 r)) (fun r => ((.exit 2), zZe p0 s1_8 s21_11 s21_19 v3105 s31_10 s31_18 r)))
theorem zSe (k : Nat) (p0 : zd) (s1_8 s21_11 : Int) (s21_19 : zt2) (v3105 : zt5) (s31_10 : Int) (s31_18 : zt2) (s36_15 : Int) (x : Int ⊕ ((Int × Bool × Bool × Int × Int × Int × Int × Int) ⊕ ((Int × Bool × Bool × Int × Int × Int × Int × Int) ⊕ Int))) (h : zfc k p0 s1_8 s21_11 s21_19 v3105 s31_10 s31_18 s36_15 = some x) : LoopOK TE 97 (blk TE 97 2) (fun s : Int => zxk p0 s1_8 s21_11 s21_19 v3105 s31_10 s31_18 s) (zhk p0 s1_8 s21_11 s21_19 v3105 s31_10 s31_18) s36_15 x := by
 unfold zfc at h
 refine cond_ok h (fun h3801 g1 => ?_) (fun h3801 g1 => ?_)
 ·refine bind_ok g1 (fun v3802 h3803 g2 => ?_)
  refine cond_ok g2 (fun h3804 g3 => ?_) (fun h3804 g3 => ?_)
  ·cases g3
  ·refine cond_ok g3 (fun h3805 g4 => ?_) (fun h3805 g4 => ?_)
   ·refine cond_ok g4 (fun h3806 g5 => ?_) (fun h3806 g5 => ?_)
    ·exact zqo [(97, 4, 0, .q (xb true)), (97, 5, 1, .q (.d (.pin (zh v3802)))), (97, 6, 2, .q (xi (shr64 v3105.2.2.2.2.2.2.2.1 s36_15))), (97, 6, 7, .q (xi (shr64 s31_10 s36_15))), (97, 7, 4, .q (xb true)), (97, 8, 0, .q (xb true))] [] g5 (ob (o_b h3801) (ob (o_ia (e := zh) 5 h3803 rfl) (ob (o_shr (x := v3105.2.2.2.2.2.2.2.1) h3804) (ob (o_shr (x := s31_10) h3804) (ob (o_b h3805) (ob (o_b h3806) ob0)))))) (by kernel_rfl)
    ·exact zqn (w64 (s36_15 + 1)) [] [(97, 4, 0, .q (xb true)), (97, 5, 1, .q (.d (.pin (zh v3802)))), (97, 6, 2, .q (xi (shr64 v3105.2.2.2.2.2.2.2.1 s36_15))), (97, 6, 7, .q (xi (shr64 s31_10 s36_15))), (97, 7, 4, .q (xb true)), (97, 8, 0, .q (xb false))] [] g5 (ob (o_b h3801) (ob (o_ia (e := zh) 5 h3803 rfl) (ob (o_shr (x := v3105.2.2.2.2.2.2.2.1) h3804) (ob (o_shr (x := s31_10) h3804) (ob (o_b h3805) (ob (o_b h3806) ob0)))))) (by kernel_rfl)
   ·refine bind_ok g4 (fun v3806 h3807 g5 => ?_)
    refine cond_ok g5 (fun h3808 g6 => ?_) (fun h3808 g6 => ?_)
    ·subst h3808
     exact zqo [(97, 4, 0, .q (xb true)), (97, 5, 1, .q (.d (.pin (zh v3802)))), (97, 6, 2, .q (xi (shr64 v3105.2.2.2.2.2.2.2.1 s36_15))), (97, 6, 7, .q (xi (shr64 s31_10 s36_15))), (97, 7, 4, .q (xb false))] [(97, 1000009, (.nor, zL p0 s1_8 s21_11 s21_19 v3105 s31_10 s31_18 s36_15 v3802 true))] g6 (ob (o_b h3801) (ob (o_ia (e := zh) 5 h3803 rfl) (ob (o_shr (x := v3105.2.2.2.2.2.2.2.1) h3804) (ob (o_shr (x := s31_10) h3804) (ob (o_b h3805) (ob (zrg k p0 s1_8 s21_11 s21_19 v3105 s31_10 s31_18 s36_15 v3802 _ h3807) ob0)))))) (by kernel_rfl)
    ·subst h3808
     exact zqn (w64 (s36_15 + 1)) [] [(97, 4, 0, .q (xb true)), (97, 5, 1, .q (.d (.pin (zh v3802)))), (97, 6, 2, .q (xi (shr64 v3105.2.2.2.2.2.2.2.1 s36_15))), (97, 6, 7, .q (xi (shr64 s31_10 s36_15))), (97, 7, 4, .q (xb false))] [(97, 1000009, (.nor, zL p0 s1_8 s21_11 s21_19 v3105 s31_10 s31_18 s36_15 v3802 false))] g6 (ob (o_b h3801) (ob (o_ia (e := zh) 5 h3803 rfl) (ob (o_shr (x := v3105.2.2.2.2.2.2.2.1) h3804) (ob (o_shr (x := s31_10) h3804) (ob (o_b h3805) (ob (zrg k p0 s1_8 s21_11 s21_19 v3105 s31_10 s31_18 s36_15 v3802 _ h3807) ob0)))))) (by kernel_rfl)
 ·exact zqo [(97, 4, 0, .q (xb false))] [] g1 (ob (o_b h3801) ob0) (by kernel_rfl)
noncomputable def zIo (p0 : zd) (s1_8 s21_11 : Int) (v3105 : zt5) (s31_10 : Int) (v3606 : (SL zA)) (s39_27 : Int) : TM := zfi p0 s1_8 s21_11 v3105 ++ [(43, (xi s31_10)), (7, (xi s31_10)), (8, (.ptr 2 8 0)), (50, (.d (dl zH v3606.1 v3606.2))), (51, (xi (v3606.1.length : Int))), (52, (xi s39_27))]
noncomputable def zpk (p0 : zd) (s1_8 s21_11 : Int) (s21_19 : zt2) (v3105 : zt5) (s31_10 : Int) (s31_18 : zt2) (v3606 : (SL zA)) (s39_27 : Int) (s39_28 : zt0) : St := ⟨(zIo p0 s1_8 s21_11 v3105 s31_10 v3606 s39_27), ⟨[(zc 8 (aB 61 s39_28))], [[(zc 1 (zm p0)), (11, (.map (em (fun k => D.agg (zy k)) (fun v => D.agg ((aB 61) v)) s31_18))), (3, (.cells [(.map 0 11)])), (4, (.cells [(xi s1_8)])), (5, (.cells [(xi s21_11)])), (zc 6 (aB 61 ((mfind zz (⟨(w64 (s1_8 - 1)), s21_11⟩ : zq) s21_19).getD (fun _ => false))))], []]⟩, [⟨(zfi p0 s1_8 s21_11 v3105), 0, rfP (blk TE 81 4), rfA (blk TE 81 4), rfB (blk TE 81 4), 81, .busy⟩]⟩
noncomputable def zuo (p0 : zd) (s1_8 s21_11 : Int) (v3105 : zt5) (s31_10 : Int) (v3606 : (SL zA)) (r : zt12) : TM := zfi p0 s1_8 s21_11 v3105 ++ [(43, (xi s31_10)), (7, (xi s31_10)), (8, (.ptr 2 8 0)), (50, (.d (dl zH v3606.1 v3606.2))), (51, (xi (v3606.1.length : Int))), (52, (xi r.1)), (53, (xb false))]
noncomputable def zTe (p0 : zd) (s1_8 s21_11 : Int) (s21_19 : zt2) (v3105 : zt5) (s31_10 : Int) (s31_18 : zt2) (v3606 : (SL zA)) (r : zt12) : St := ⟨(zuo p0 s1_8 s21_11 v3105 s31_10 v3606 r), ⟨[(zc 8 (aB 61 r.2))], [[(zc 1 (zm p0)), (11, (.map (em (fun k => D.agg (zy k)) (fun v => D.agg ((aB 61) v)) s31_18))), (3, (.cells [(.map 0 11)])), (4, (.cells [(xi s1_8)])), (5, (.cells [(xi s21_11)])), (zc 6 (aB 61 ((mfind zz (⟨(w64 (s1_8 - 1)), s21_11⟩ : zq) s21_19).getD (fun _ => false))))], []]⟩, [⟨(zfi p0 s1_8 s21_11 v3105), 0, rfP (blk TE 81 4), rfA (blk TE 81 4), rfB (blk TE 81 4), 81, .busy⟩]⟩
noncomputable def zak (p0 : zd) (s1_8 s21_11 : Int) (s21_19 : zt2) (v3105 : zt5) (s31_10 : Int) (s31_18 : zt2) (v3606 : (SL zA)) : (Int × (Nat → Bool)) → Ex × St := fun r => ((.exit 6), zTe p0 s1_8 s21_11 s21_19 v3105 s31_10 s31_18 v3606 r)
theorem zDj (k : Nat) (p0 : zd) (s1_8 s21_11 : Int) (s21_19 : zt2) (v3105 : zt5) (s31_10 : Int) (s31_18 : zt2) (v3606 : (SL zA)) (s39_27 : Int) (s39_28 : zt0) (x : (Int × (Nat → Bool)) ⊕ (Int × (Nat → Bool))) (h : z8b k p0 s1_8 s21_11 s21_19 v3105 s31_10 s31_18 v3606 s39_27 s39_28 = some x) : LoopOK TE 81 (blk TE 81 6) (fun s : (Int × (Nat → Bool)) => zpk p0 s1_8 s21_11 s21_19 v3105 s31_10 s31_18 v3606 s.1 s.2) (zak p0 s1_8 s21_11 s21_19 v3105 s31_10 s31_18 v3606) (s39_27, s39_28) x := by
 unfold z8b at h
 refine cond_ok h (fun h4001 g1 => ?_) (fun h4001 g1 => ?_)
 ·refine bind_ok g1 (fun v4002 h4003 g2 => ?_)
  refine bind_ok g2 (fun v4004 h4005 g3 => ?_)
  exact zqn ((w64 (s39_27 + 1)), v4004) [] [(81, 14, 0, .q (xb true)), (81, 15, 0, .q (.d (.pin (zH v4002)))), (81, 16, 6, .c (.agg (aB 61 v4004)))] [] g3 (ob (o_b h4001) (ob (o_ia (e := zH) 3 h4003 rfl) (ob (zth k p0 s39_28 v4002.way v4002.by_ _ h4005) ob0))) (by kernel_rfl)
 ·exact zqo [(81, 14, 0, .q (xb false))] [] g1 (ob (o_b h4001) ob0) (by kernel_rfl)
noncomputable def zwp (v3105 : zt5) (s31_10 : Int) : TM := [(0, (.yld 0)), (1, (.d (.pin [(di v3105.1), (dl zk v3105.2.1.1 v3105.2.1.2), (dl zl v3105.2.2.1.1 v3105.2.2.1.2), (dl zh v3105.2.2.2.1.1 v3105.2.2.2.1.2), (dl zi v3105.2.2.2.2.1.1 v3105.2.2.2.2.1.2), (di v3105.2.2.2.2.2.1), (di v3105.2.2.2.2.2.2.1)]))), (2, (.d (.pin [(di v3105.2.2.2.2.2.2.2.1)]))), (3, (.d (.pin [(di v3105.2.2.2.2.2.2.2.2)]))), (14, (xi (shl64 1 (v3105.2.2.2.1.1.length : Int)))), (15, (xi s31_10))]
noncomputable def zsk (p0 : zd) (s1_8 s21_11 : Int) (s21_19 : zt2) (v3105 : zt5) (s31_10 : Int) (s31_18 : zt2) : St := ⟨(zwp v3105 s31_10), ⟨[], [[(zc 1 (zm p0)), (11, (.map (em (fun k => D.agg (zy k)) (fun v => D.agg ((aB 61) v)) s31_18))), (3, (.cells [(.map 0 11)])), (4, (.cells [(xi s1_8)])), (5, (.cells [(xi s21_11)])), (zc 6 (aB 61 ((mfind zz (⟨(w64 (s1_8 - 1)), s21_11⟩ : zq) s21_19).getD (fun _ => false))))]]⟩, [⟨(zfi p0 s1_8 s21_11 v3105), 0, rfP (blk TE 81 4), rfA (blk TE 81 4), rfB (blk TE 81 4), 81, .rdy⟩]⟩
noncomputable def zxp (v3105 : zt5) (r : zt6) : TM := [(0, (.yld 0)), (1, (.d (.pin [(di v3105.1), (dl zk v3105.2.1.1 v3105.2.1.2), (dl zl v3105.2.2.1.1 v3105.2.2.1.2), (dl zh v3105.2.2.2.1.1 v3105.2.2.2.1.2), (dl zi v3105.2.2.2.2.1.1 v3105.2.2.2.2.1.2), (di v3105.2.2.2.2.2.1), (di v3105.2.2.2.2.2.2.1)]))), (2, (.d (.pin [(di v3105.2.2.2.2.2.2.2.1)]))), (3, (.d (.pin [(di v3105.2.2.2.2.2.2.2.2)]))), (14, (xi (shl64 1 (v3105.2.2.2.1.1.length : Int)))), (15, (xi r.1)), (16, (xb false))]
noncomputable def zYe (p0 : zd) (s1_8 s21_11 : Int) (s21_19 : zt2) (v3105 : zt5) (r : zt6) : St := ⟨(zxp v3105 r), ⟨[], [[(zc 1 (zm p0)), (11, (.map (em (fun k => D.agg (zy k)) (fun v => D.agg ((aB 61) v)) r.2))), (3, (.cells [(.map 0 11)])), (4, (.cells [(xi s1_8)])), (5, (.cells [(xi s21_11)])), (zc 6 (aB 61 ((mfind zz (⟨(w64 (s1_8 - 1)), s21_11⟩ : zq) s21_19).getD (fun _ => false))))]]⟩, [⟨(zfi p0 s1_8 s21_11 v3105), 0, rfP (blk TE 81 4), rfA (blk TE 81 4), rfB (blk TE 81 4), 81, .rdy⟩]⟩
noncomputable def z8j (p0 : zd) (s1_8 s21_11 : Int) (s21_19 : zt2) (v3105 : zt5) : (Int × (List (zq × (Nat → Bool)))) → Ex × St := fun r => ((.exit 0), zYe p0 s1_8 s21_11 s21_19 v3105 r)
theorem z0j (k : Nat) (p0 : zd) (s1_8 s21_11 : Int) (s21_19 : zt2) (v3105 : zt5) (s31_10 : Int) (s31_18 : zt2) (x : (Int × (List (zq × (Nat → Bool)))) ⊕ (Int × (List (zq × (Nat → Bool))))) (h : zac k p0 s1_8 s21_11 s21_19 v3105 s31_10 s31_18 = some x) : LoopOK TE 97 (blk TE 97 0) (fun s : (Int × (List (zq × (Nat → Bool)))) => zsk p0 s1_8 s21_11 s21_19 v3105 s.1 s.2) (z8j p0 s1_8 s21_11 s21_19 v3105) (s31_10, s31_18) x := by
 unfold zac at h
 refine cond_ok h (fun h3601 g1 => ?_) (fun h3601 g1 => ?_)
 ·refine bind_ok g1 (fun v3602 h3603 g2 => ?_)
  refine sum_ok g2 (fun v3605 hh g3_0 => ?_) (fun w2_0 hh g3_0 => ?_)
  ·subst hh
   exact zqn ((w64 (s31_10 + 1)), s31_18) [] [(97, 1, 0, .q (xb true)), (97, 3, 3, .q (xi (v3105.2.2.2.1.1.length : Int)))] [(97, 2, ((.exit 1), zRe p0 s1_8 s21_11 s21_19 v3105 s31_10 s31_18 v3605))] g3_0 (ob (o_b h3601) (ob (o_len zh v3105.2.2.2.1.1) (ob (block_ok (id := 2) (r' := ((.exit 1), zRe p0 s1_8 s21_11 s21_19 v3105 s31_10 s31_18 v3605)) (z9b (zSe k p0 s1_8 s21_11 s21_19 v3105 s31_10 s31_18) k _ _ h3603) rfl) ob0))) (by kernel_rfl)
  ·subst hh
   refine sum_ok g3_0 (fun v3605 hh g3_1 => ?_) (fun v3605 hh g3_1 => ?_)
   ·subst hh
    exact zqn ((w64 (s31_10 + 1)), s31_18) [] [(97, 1, 0, .q (xb true)), (97, 3, 3, .q (xi (v3105.2.2.2.1.1.length : Int)))] [(97, 2, ((.exit 1), zUe p0 s1_8 s21_11 s21_19 v3105 s31_10 s31_18 v3605))] g3_1 (ob (o_b h3601) (ob (o_len zh v3105.2.2.2.1.1) (ob (block_ok (id := 2) (r' := ((.exit 1), zUe p0 s1_8 s21_11 s21_19 v3105 s31_10 s31_18 v3605)) (z9b (zSe k p0 s1_8 s21_11 s21_19 v3105 s31_10 s31_18) k _ _ h3603) rfl) ob0))) (by kernel_rfl)
   ·subst hh
    refine bind_ok g3_1 (fun v3606 h3607 g4 => ?_)
    refine bind_ok g4 (fun v3608 h3609 g5 => ?_)
    refine bind_ok g5 (fun v3610 h3611 g6 => ?_)
    refine bind_ok g6 (fun v3612 h3613 g7 => ?_)
    exact zqn ((w64 (s31_10 + 1)), (mset zz (⟨s1_8, s31_10⟩ : zq) v3612 s31_18)) [] [(97, 1, 0, .q (xb true)), (97, 3, 3, .q (xi (v3105.2.2.2.1.1.length : Int))), (81, 13, 5, .c (dl zH v3606.1 v3606.2)), (81, 13, 6, .q (xi (v3606.1.length : Int))), (81, 18, 8, .q (.d (.agg (aB 61 ((mfind zz (⟨s1_8, s31_10⟩ : zq) s31_18).getD (fun _ => false)))))), (81, 18, 12, .c (.agg (aB 61 v3610))), (81, 18, 13, .c (.agg (aB 61 v3612))), (81, 18, 14, .mp (em (fun k => D.agg (zy k)) (fun v => D.agg ((aB 61) v)) (mset zz (⟨s1_8, s31_10⟩ : zq) v3612 s31_18)))] [(97, 2, (.nor, zZe p0 s1_8 s21_11 s21_19 v3105 s31_10 s31_18 v3605)), (81, 6, (.nor, zTe p0 s1_8 s21_11 s21_19 v3105 s31_10 s31_18 v3606 v3608))] g7 (ob (o_b h3601) (ob (o_len zh v3105.2.2.2.1.1) (ob (block_ok (id := 2) (r' := (.nor, zZe p0 s1_8 s21_11 s21_19 v3105 s31_10 s31_18 v3605)) (z9b (zSe k p0 s1_8 s21_11 s21_19 v3105 s31_10 s31_18) k _ _ h3603) rfl) (ob (zuh k p0 s1_8 (andNot64 s31_10 s21_11) _ h3607) (ob (o_len zH v3606.1) (ob (block_ok (id := 6) (r' := (.nor, zTe p0 s1_8 s21_11 s21_19 v3105 s31_10 s31_18 v3606 v3608)) (zU (zDj k p0 s1_8 s21_11 s21_19 v3105 s31_10 s31_18 v3606) k _ _ h3609) rfl) (ob (o_look (ek := (fun k => D.agg (zy k))) (evl := (fun v => D.agg ((aB 61) v))) (q := zz) (fun _ _ => rfl) (⟨s1_8, s31_10⟩ : zq) s31_18 (fun _ => false)) (ob (z2g k p0 v3608.2 s1_8 _ h3611) (ob (z8k k ((mfind zz (⟨s1_8, s31_10⟩ : zq) s31_18).getD (fun _ => false)) v3610 _ h3613) (ob (set_em (ek := (fun k => D.agg (zy k))) (evl := (fun v => D.agg ((aB 61) v))) (q := zz) (fun _ _ => rfl) (⟨s1_8, s31_10⟩ : zq) v3612 s31_18) ob0)))))))))) (by kernel_rfl)
 ·exact zqo [(97, 1, 0, .q (xb false))] [] g1 (ob (o_b h3601) ob0) (by kernel_rfl)
noncomputable def zYo (p0 : zd) (s1_8 s21_11 : Int) : TM := [(0, (.d (.agg (zm p0)))), (zsp 1), (2, (.d .nilm)), (zsp 3), (18, (xi p0.ShelfBook.Days)), (19, (xi s1_8)), (20, (xb true)), (zsp 4), (26, (xi (shl64 1 (p0.ShelfBook.Deliveries.1.length : Int)))), (27, (xi s21_11))]
noncomputable def zfk (p0 : zd) (s1_8 s21_11 : Int) (s21_19 : zt2) : St := ⟨(zYo p0 s1_8 s21_11), ⟨[(zc 1 (zm p0)), (11, (.map (em (fun k => D.agg (zy k)) (fun v => D.agg ((aB 61) v)) s21_19))), (3, (.cells [(.map 0 11)])), (4, (.cells [(xi s1_8)]))], []⟩, []⟩
noncomputable def zCp (p0 : zd) (s1_8 : Int) (r : zt6) : TM := [(0, (.d (.agg (zm p0)))), (zsp 1), (2, (.d .nilm)), (zsp 3), (18, (xi p0.ShelfBook.Days)), (19, (xi s1_8)), (20, (xb true)), (zsp 4), (26, (xi (shl64 1 (p0.ShelfBook.Deliveries.1.length : Int)))), (27, (xi r.1)), (28, (xb false))]
noncomputable def z0e (p0 : zd) (s1_8 : Int) (r : zt6) : St := ⟨(zCp p0 s1_8 r), ⟨[(zc 1 (zm p0)), (11, (.map (em (fun k => D.agg (zy k)) (fun v => D.agg ((aB 61) v)) r.2))), (3, (.cells [(.map 0 11)])), (4, (.cells [(xi s1_8)]))], []⟩, []⟩
noncomputable def zuk (p0 : zd) (s1_8 : Int) : (Int × (List (zq × (Nat → Bool)))) → Ex × St := fun r => ((.exit 2), z0e p0 s1_8 r)
theorem zLj (k : Nat) (p0 : zd) (s1_8 s21_11 : Int) (s21_19 : zt2) (x : (Int × (List (zq × (Nat → Bool)))) ⊕ (Int × (List (zq × (Nat → Bool))))) (h : zcc k p0 s1_8 s21_11 s21_19 = some x) : LoopOK TE 81 (blk TE 81 2) (fun s : (Int × (List (zq × (Nat → Bool)))) => zfk p0 s1_8 s.1 s.2) (zuk p0 s1_8) (s21_11, s21_19) x := by
 unfold zcc at h
 refine cond_ok h (fun h3101 g1 => ?_) (fun h3101 g1 => ?_)
 ·refine bind_ok g1 (fun v3102 h3103 g2 => ?_)
  refine cond_ok g2 (fun h3104 g3 => ?_) (fun h3104 g3 => ?_)
  ·exact zqn ((w64 (s21_11 + 1)), s21_19) [] [(81, 6, 0, .q (xb true)), (81, 8, 5, .q (.d (.agg (aB 61 ((mfind zz (⟨(w64 (s1_8 - 1)), s21_11⟩ : zq) s21_19).getD (fun _ => false)))))), (81, 9, 1, .c (.agg (aB 61 v3102))), (81, 9, 2, .q (xb true))] [] g3 (ob (o_b h3101) (ob (o_look (ek := (fun k => D.agg (zy k))) (evl := (fun v => D.agg ((aB 61) v))) (q := zz) (fun _ _ => rfl) (⟨(w64 (s1_8 - 1)), s21_11⟩ : zq) s21_19 (fun _ => false)) (ob (zGf k _ h3103) (ob (o_b h3104) ob0)))) (by kernel_rfl)
  ·refine bind_ok g3 (fun v3105 h3106 g4 => ?_)
   refine cond_ok g4 (fun h3107 g5 => ?_) (fun h3107 g5 => ?_)
   ·cases g5
   ·refine bind_ok g5 (fun v3108 h3109 g6 => ?_)
    exact zqn ((w64 (s21_11 + 1)), v3108.2) [] [(81, 6, 0, .q (xb true)), (81, 8, 5, .q (.d (.agg (aB 61 ((mfind zz (⟨(w64 (s1_8 - 1)), s21_11⟩ : zq) s21_19).getD (fun _ => false)))))), (81, 9, 1, .c (.agg (aB 61 v3102))), (81, 9, 2, .q (xb false)), (81, 10, 3, .c (.fn 97 [] [(.pin [(di v3105.1), (dl zk v3105.2.1.1 v3105.2.1.2), (dl zl v3105.2.2.1.1 v3105.2.2.1.2), (dl zh v3105.2.2.2.1.1 v3105.2.2.2.1.2), (dl zi v3105.2.2.2.2.1.1 v3105.2.2.2.2.1.2), (di v3105.2.2.2.2.2.1), (di v3105.2.2.2.2.2.2.1)]), (.pin [(di v3105.2.2.2.2.2.2.2.1)]), (.pin [(di v3105.2.2.2.2.2.2.2.2)])])), (97, 0, 3, .q (xi (v3105.2.2.2.1.1.length : Int))), (97, 0, 4, .q (xi (shl64 1 (v3105.2.2.2.1.1.length : Int))))] [(97, 0, (.nor, zYe p0 s1_8 s21_11 s21_19 v3105 v3108))] g6 (ob (o_b h3101) (ob (o_look (ek := (fun k => D.agg (zy k))) (evl := (fun v => D.agg ((aB 61) v))) (q := zz) (fun _ _ => rfl) (⟨(w64 (s1_8 - 1)), s21_11⟩ : zq) s21_19 (fun _ => false)) (ob (zGf k _ h3103) (ob (o_b h3104) (ob (zbi k p0 s1_8 s21_11 _ h3106) (ob (o_len zh v3105.2.2.2.1.1) (ob (o_shl (x := 1) h3107) (ob (block_ok (id := 0) (r' := (.nor, zYe p0 s1_8 s21_11 s21_19 v3105 v3108)) (zU (z0j k p0 s1_8 s21_11 s21_19 v3105) k _ _ h3109) rfl) ob0)))))))) (by kernel_rfl)
 ·exact zqo [(81, 6, 0, .q (xb false))] [] g1 (ob (o_b h3101) ob0) (by kernel_rfl)
noncomputable def zjp (p0 : zd) (s1_8 : Int) : TM := [(0, (.d (.agg (zm p0)))), (zsp 1), (2, (.d .nilm)), (zsp 3), (18, (xi p0.ShelfBook.Days)), (19, (xi s1_8))]
noncomputable def zHk (p0 : zd) (s1_8 : Int) (s1_16 : zt2) : St := ⟨(zjp p0 s1_8), ⟨[(zc 1 (zm p0)), (11, (.map (em (fun k => D.agg (zy k)) (fun v => D.agg ((aB 61) v)) s1_16))), (3, (.cells [(.map 0 11)]))], []⟩, []⟩
noncomputable def zAo (p0 : zd) (r : zt6) : TM := [(0, (.d (.agg (zm p0)))), (zsp 1), (2, (.d .nilm)), (zsp 3), (18, (xi p0.ShelfBook.Days)), (19, (xi r.1)), (20, (xb false))]
noncomputable def z7e (p0 : zd) (r : zt6) : St := ⟨(zAo p0 r), ⟨[(zc 1 (zm p0)), (11, (.map (em (fun k => D.agg (zy k)) (fun v => D.agg ((aB 61) v)) r.2))), (3, (.cells [(.map 0 11)]))], []⟩, []⟩
noncomputable def zBk (p0 : zd) : (Int × (List (zq × (Nat → Bool)))) → Ex × St := fun r => ((.exit 0), z7e p0 r)
theorem zvk (k : Nat) (p0 : zd) (s1_8 : Int) (s1_16 : zt2) (x : (Int × (List (zq × (Nat → Bool)))) ⊕ (Int × (List (zq × (Nat → Bool))))) (h : ztd k p0 s1_8 s1_16 = some x) : LoopOK TE 81 (blk TE 81 0) (fun s : (Int × (List (zq × (Nat → Bool)))) => zHk p0 s.1 s.2) (zBk p0) (s1_8, s1_16) x := by
 unfold ztd at h
 refine cond_ok h (fun h2101 g1 => ?_) (fun h2101 g1 => ?_)
 ·refine cond_ok g1 (fun h2102 g2 => ?_) (fun h2102 g2 => ?_)
  ·cases g2
  ·refine bind_ok g2 (fun v2103 h2104 g3 => ?_)
   exact zqn ((w64 (s1_8 + 1)), v2103.2) [] [(81, 3, 0, .q (xb true)), (81, 5, 3, .q (xi (p0.ShelfBook.Deliveries.1.length : Int))), (81, 5, 4, .q (xi (shl64 1 (p0.ShelfBook.Deliveries.1.length : Int))))] [(81, 2, (.nor, z0e p0 s1_8 v2103))] g3 (ob (o_b h2101) (ob (o_len zh p0.ShelfBook.Deliveries.1) (ob (o_shl (x := 1) h2102) (ob (block_ok (id := 2) (r' := (.nor, z0e p0 s1_8 v2103)) (zU (zLj k p0 s1_8) k _ _ h2104) rfl) ob0)))) (by kernel_rfl)
 ·exact zqo [(81, 3, 0, .q (xb false))] [] g1 (ob (o_b h2101) ob0) (by kernel_rfl)
theorem zUf (k : Nat) (p0 : zd) (r : zt2) (h : zvd k p0 = some r) : callP TE (ev TE) 81 [(.agg (zm p0))] = some (zZh r) := by
 unfold zvd at h
 refine bind_ok h (fun v1 h2 g1 => ?_)
 refine bind_ok g1 (fun v3 h4 g2 => ?_)
 exact fin_ok (g := zZh) g2 (zqc [(81, 1, 3, .c (.agg (aB 61 v1)))] [(81, 0, (.nor, z7e p0 v3))] (ob (z9k k p0 _ h2) (ob (block_ok (id := 0) (r' := (.nor, z7e p0 v3)) (zU (zvk k p0) k _ _ h4) rfl) ob0)) (by kernel_rfl))
noncomputable def z0o (p0 : zd) (v1 : zt2) (s1_10 : Int) : TM := [(0, (.d (.agg (zm p0)))), (zsp 1), (2, (xb false)), (3, (.d (.mp (em (fun k => D.agg (zy k)) (fun v => D.agg ((aB 61) v)) v1)))), (11, (xi (shl64 1 (p0.ShelfBook.Deliveries.1.length : Int)))), (12, (xi s1_10))]
noncomputable def zbl (p0 : zd) (v1 : zt2) (s1_10 : Int) : St := ⟨(z0o p0 v1 s1_10), ⟨[(zc 1 (zm p0))], []⟩, []⟩
noncomputable def zso (p0 : zd) (v1 : zt2) (r : Int) : TM := [(0, (.d (.agg (zm p0)))), (zsp 1), (2, (xb true)), (3, (.d (.mp (em (fun k => D.agg (zy k)) (fun v => D.agg ((aB 61) v)) v1)))), (11, (xi (shl64 1 (p0.ShelfBook.Deliveries.1.length : Int)))), (12, (xi r)), (13, (xb true)), (4, (xi r)), (24, (xb true))]
noncomputable def zFf (p0 : zd) (v1 : zt2) (r : Int) : St := ⟨(zso p0 v1 r), ⟨[(zc 1 (zm p0))], []⟩, []⟩
noncomputable def zop (p0 : zd) (v1 : zt2) (r : Int) : TM := [(0, (.d (.agg (zm p0)))), (zsp 1), (2, (xb false)), (3, (.d (.mp (em (fun k => D.agg (zy k)) (fun v => D.agg ((aB 61) v)) v1)))), (11, (xi (shl64 1 (p0.ShelfBook.Deliveries.1.length : Int)))), (12, (xi r)), (13, (xb false))]
noncomputable def zCf (p0 : zd) (v1 : zt2) (r : Int) : St := ⟨(zop p0 v1 r), ⟨[(zc 1 (zm p0))], []⟩, []⟩
noncomputable def zcl (p0 : zd) (v1 : zt2) : (Int ⊕ Int) → Ex × St := Sum.elim (fun r => (.ret, zFf p0 v1 r)) (fun r => ((.exit 0), zCf p0 v1 r))
theorem znh (k : Nat) (p0 : zd) (v1 : zt2) (s1_10 : Int) (x : Int ⊕ (Int ⊕ Int)) (h : zce k p0 v1 s1_10 = some x) : LoopOK TE 67 (blk TE 67 0) (fun s : Int => zbl p0 v1 s) (zcl p0 v1) s1_10 x := by
 unfold zce at h
 refine cond_ok h (fun h201 g1 => ?_) (fun h201 g1 => ?_)
 ·refine bind_ok g1 (fun v202 h203 g2 => ?_)
  refine cond_ok g2 (fun h204 g3 => ?_) (fun h204 g3 => ?_)
  ·exact zqo [(67, 3, 0, .q (xb true)), (67, 5, 7, .q (.d (.agg (aB 61 ((mfind zz (⟨(w64 (p0.ShelfBook.Days - 1)), s1_10⟩ : zq) v1).getD (fun _ => false)))))), (67, 5, 8, .c (.agg (aB 61 v202))), (67, 5, 9, .q (xb true))] [] g3 (ob (o_b h201) (ob (o_look (ek := (fun k => D.agg (zy k))) (evl := (fun v => D.agg ((aB 61) v))) (q := zz) (fun _ _ => rfl) (⟨(w64 (p0.ShelfBook.Days - 1)), s1_10⟩ : zq) v1 (fun _ => false)) (ob (zGf k _ h203) (ob (o_b h204) ob0)))) (by kernel_rfl)
  ·exact zqn (w64 (s1_10 + 1)) [] [(67, 3, 0, .q (xb true)), (67, 5, 7, .q (.d (.agg (aB 61 ((mfind zz (⟨(w64 (p0.ShelfBook.Days - 1)), s1_10⟩ : zq) v1).getD (fun _ => false)))))), (67, 5, 8, .c (.agg (aB 61 v202))), (67, 5, 9, .q (xb false))] [] g3 (ob (o_b h201) (ob (o_look (ek := (fun k => D.agg (zy k))) (evl := (fun v => D.agg ((aB 61) v))) (q := zz) (fun _ _ => rfl) (⟨(w64 (p0.ShelfBook.Days - 1)), s1_10⟩ : zq) v1 (fun _ => false)) (ob (zGf k _ h203) (ob (o_b h204) ob0)))) (by kernel_rfl)
 ·exact zqo [(67, 3, 0, .q (xb false))] [] g1 (ob (o_b h201) ob0) (by kernel_rfl)
theorem zbe (k : Nat) (p0 : zd) (r : Bool) (h : zwd k p0 = some r) : callP TE (ev TE) 67 [(.agg (zm p0))] = some (zYg r) := by
 unfold zwd at h
 refine bind_ok h (fun v1 h2 g1 => ?_)
 refine cond_ok g1 (fun h3 g2 => ?_) (fun h3 g2 => ?_)
 ·cases g2
 ·refine bind_ok g2 (fun v4 h5 g3 => ?_)
  refine sum_ok g3 (fun v7 hh g4_0 => ?_) (fun v7 hh g4_0 => ?_)
  ·subst hh
   exact fin_ok (g := zYg) g4_0 (zqc [(67, 1, 1, .c (.mp (em (fun k => D.agg (zy k)) (fun v => D.agg ((aB 61) v)) v1))), (67, 2, 3, .q (xi (p0.ShelfBook.Deliveries.1.length : Int))), (67, 2, 4, .q (xi (shl64 1 (p0.ShelfBook.Deliveries.1.length : Int))))] [(67, 0, (.ret, zFf p0 v1 v7))] (ob (zUf k p0 _ h2) (ob (o_len zh p0.ShelfBook.Deliveries.1) (ob (o_shl (x := 1) h3) (ob (block_ok (id := 0) (r' := (.ret, zFf p0 v1 v7)) (z9b (znh k p0 v1) k _ _ h5) rfl) ob0)))) (by kernel_rfl))
  ·subst hh
   exact fin_ok (g := zYg) g4_0 (zqc [(67, 1, 1, .c (.mp (em (fun k => D.agg (zy k)) (fun v => D.agg ((aB 61) v)) v1))), (67, 2, 3, .q (xi (p0.ShelfBook.Deliveries.1.length : Int))), (67, 2, 4, .q (xi (shl64 1 (p0.ShelfBook.Deliveries.1.length : Int))))] [(67, 0, (.nor, zCf p0 v1 v7))] (ob (zUf k p0 _ h2) (ob (o_len zh p0.ShelfBook.Deliveries.1) (ob (o_shl (x := 1) h3) (ob (block_ok (id := 0) (r' := (.nor, zCf p0 v1 v7)) (z9b (znh k p0 v1) k _ _ h5) rfl) ob0)))) (by kernel_rfl))
noncomputable def zPo (p0 : zb) (p1 s1_8 : Int) : TM := [(0, (.d (.agg (za p0)))), (1, (xi p1)), (zsp 2), (4, (xb false)), (9, (xi (p0.Shelves.1.length : Int))), (10, (xi s1_8))]
noncomputable def zyl (p0 : zb) (p1 s1_8 : Int) : St := ⟨(zPo p0 p1 s1_8), ⟨[(zc 2 (za p0))], []⟩, []⟩
noncomputable def zMo (p0 : zb) (p1 r : Int) : TM := [(0, (.d (.agg (za p0)))), (1, (xi p1)), (zsp 2), (4, (xb false)), (9, (xi (p0.Shelves.1.length : Int))), (10, (xi r)), (11, (xb true)), (5, (xi r)), (6, (.d (.fn 67 [(.agg ((za p0) ++ [(di r), (di p1)]))] []))), (20, (xb true))]
noncomputable def zgg (p0 : zb) (p1 r : Int) : St := ⟨(zMo p0 p1 r), ⟨[(zc 2 (za p0))], []⟩, []⟩
noncomputable def zzp (p0 : zb) (p1 r : Int) : TM := [(0, (.d (.agg (za p0)))), (1, (xi p1)), (zsp 2), (4, (xb false)), (9, (xi (p0.Shelves.1.length : Int))), (10, (xi r)), (11, (xb false))]
noncomputable def zcg (p0 : zb) (p1 r : Int) : St := ⟨(zzp p0 p1 r), ⟨[(zc 2 (za p0))], []⟩, []⟩
noncomputable def zIl (p0 : zb) (p1 : Int) : (Int ⊕ Int) → Ex × St := Sum.elim (fun r => (.ret, zgg p0 p1 r)) (fun r => ((.exit 0), zcg p0 p1 r))
theorem zSh (k : Nat) (p0 : zb) (p1 s1_8 : Int) (x : Int ⊕ (Int ⊕ Int)) (h : z3e k p0 p1 s1_8 = some x) : LoopOK TE 76 (blk TE 76 0) (fun s : Int => zyl p0 p1 s) (zIl p0 p1) s1_8 x := by
 unfold z3e at h
 refine cond_ok h (fun h201 g1 => ?_) (fun h201 g1 => ?_)
 ·refine bind_ok g1 (fun v202 h203 g2 => ?_)
  refine cond_ok g2 (fun h204 g3 => ?_) (fun h204 g3 => ?_)
  ·exact zqo [(76, 2, 0, .q (xb true)), (76, 5, 1, .c (db v202)), (76, 5, 2, .q (xb true))] [] g3 (ob (o_b h201) (ob (zbe k (⟨p0, s1_8, p1⟩ : zd) _ h203) (ob (o_b h204) ob0))) (by kernel_rfl)
  ·exact zqn (w64 (s1_8 + 1)) [] [(76, 2, 0, .q (xb true)), (76, 5, 1, .c (db v202)), (76, 5, 2, .q (xb false))] [] g3 (ob (o_b h201) (ob (zbe k (⟨p0, s1_8, p1⟩ : zd) _ h203) (ob (o_b h204) ob0))) (by kernel_rfl)
 ·exact zqo [(76, 2, 0, .q (xb false))] [] g1 (ob (o_b h201) ob0) (by kernel_rfl)
theorem zob (k : Nat) (p0 : zb) (p1 : Int) (r : Bool) (h : zfb k p0 p1 = some r) : callP TE (ev TE) 76 [(.agg (za p0)), (di p1)] = some (zzh r) := by
 unfold zfb at h
 refine bind_ok h (fun v1 h2 g1 => ?_)
 refine sum_ok g1 (fun v4 hh g2_0 => ?_) (fun v4 hh g2_0 => ?_)
 ·subst hh
  exact fin_ok (g := zzh) g2_0 (zqc [(76, 1, 2, .q (xi (p0.Shelves.1.length : Int)))] [(76, 0, (.ret, zgg p0 p1 v4))] (ob (o_len zk p0.Shelves.1) (ob (block_ok (id := 0) (r' := (.ret, zgg p0 p1 v4)) (z9b (zSh k p0 p1) k _ _ h2) rfl) ob0)) (by kernel_rfl))
 ·subst hh
  exact fin_ok (g := zzh) g2_0 (zqc [(76, 1, 2, .q (xi (p0.Shelves.1.length : Int)))] [(76, 0, (.nor, zcg p0 p1 v4))] (ob (o_len zk p0.Shelves.1) (ob (block_ok (id := 0) (r' := (.nor, zcg p0 p1 v4)) (z9b (zSh k p0 p1) k _ _ h2) rfl) ob0)) (by kernel_rfl))
theorem zdb (k : Nat) (p0 : zb) (p1 : Bool) (r : Int) (h : z2c k p0 p1 = some r) : callP TE (ev TE) 51 [(.agg (za p0)), (db p1)] = some (zIf r) := by
 unfold z2c at h
 refine bind_ok h (fun v1 h2 g1 => ?_)
 refine cond_ok g1 (fun h3 g2 => ?_) (fun h3 g2 => ?_)
 ·exact fin_ok (g := zIf) g2 (zqc [(51, 1, 1, .c (di v1)), (51, 2, 1, .q (xb true))] [] (ob (zSc k p0 _ h2) (ob (o_b h3) ob0)) (by kernel_rfl))
 ·refine cond_ok g2 (fun h4 g3 => ?_) (fun h4 g3 => ?_)
  ·exact fin_ok (g := zIf) g3 (zqc [(51, 1, 1, .c (di v1)), (51, 2, 1, .q (xb false)), (51, 4, 1, .q (xb true))] [] (ob (zSc k p0 _ h2) (ob (o_b h3) (ob (o_b h4) ob0))) (by kernel_rfl))
  ·refine bind_ok g3 (fun v5 h6 g4 => ?_)
   refine cond_ok g4 (fun h7 g5 => ?_) (fun h7 g5 => ?_)
   ·exact fin_ok (g := zIf) g5 (zqc [(51, 1, 1, .c (di v1)), (51, 2, 1, .q (xb false)), (51, 4, 1, .q (xb false)), (51, 6, 1, .c (db v5)), (51, 6, 2, .q (xb true))] [] (ob (zSc k p0 _ h2) (ob (o_b h3) (ob (o_b h4) (ob (zob k p0 0 _ h6) (ob (o_b h7) ob0))))) (by kernel_rfl))
   ·exact fin_ok (g := zIf) g5 (zqc [(51, 1, 1, .c (di v1)), (51, 2, 1, .q (xb false)), (51, 4, 1, .q (xb false)), (51, 6, 1, .c (db v5)), (51, 6, 2, .q (xb false))] [] (ob (zSc k p0 _ h2) (ob (o_b h3) (ob (o_b h4) (ob (zob k p0 0 _ h6) (ob (o_b h7) ob0))))) (by kernel_rfl))
noncomputable def zno (p0 : zd) (s1_8 : Int) (v302 : zJ) (s3_12 : Int) : TM := [(0, (.d (.agg (zm p0)))), (zsp 1), (2, (.d .nilm)), (zsp 3), (19, (xi (shl64 1 (p0.ShelfBook.Deliveries.1.length : Int)))), (20, (xi s1_8)), (21, (xb true)), (4, (xi s1_8)), (zsp 5), (31, (xi (w64 (v302.Room + 1)))), (32, (xi s3_12))]
noncomputable def z6k (p0 : zd) (s1_8 : Int) (s1_16 : zt2) (v302 : zJ) (s3_12 : Int) (s3_21 : zt0) : St := ⟨(zno p0 s1_8 v302 s3_12), ⟨[(zc 1 (zm p0)), (14, (.map (em (fun k => D.agg (zy k)) (fun v => D.agg ((aB 61) v)) s1_16))), (3, (.cells [(.map 0 14)])), (zc 5 (aB 61 s3_21))], []⟩, []⟩
noncomputable def zoo (p0 : zd) (s1_8 : Int) (v302 : zJ) (r : zt12) : TM := [(0, (.d (.agg (zm p0)))), (zsp 1), (2, (.d .nilm)), (zsp 3), (19, (xi (shl64 1 (p0.ShelfBook.Deliveries.1.length : Int)))), (20, (xi s1_8)), (21, (xb true)), (4, (xi s1_8)), (zsp 5), (31, (xi (w64 (v302.Room + 1)))), (32, (xi r.1)), (33, (xb false))]
noncomputable def zsf (p0 : zd) (s1_8 : Int) (s1_16 : zt2) (v302 : zJ) (r : zt12) : St := ⟨(zoo p0 s1_8 v302 r), ⟨[(zc 1 (zm p0)), (14, (.map (em (fun k => D.agg (zy k)) (fun v => D.agg ((aB 61) v)) s1_16))), (3, (.cells [(.map 0 14)])), (zc 5 (aB 61 r.2))], []⟩, []⟩
noncomputable def z0k (p0 : zd) (s1_8 : Int) (s1_16 : zt2) (v302 : zJ) : (Int × (Nat → Bool)) → Ex × St := fun r => ((.exit 2), zsf p0 s1_8 s1_16 v302 r)
theorem zCk (k : Nat) (p0 : zd) (s1_8 : Int) (s1_16 : zt2) (v302 : zJ) (s3_12 : Int) (s3_21 : zt0) (x : (Int × (Nat → Bool)) ⊕ (Int × (Nat → Bool))) (h : zWc k p0 s1_8 s1_16 v302 s3_12 s3_21 = some x) : LoopOK TE 82 (blk TE 82 2) (fun s : (Int × (Nat → Bool)) => z6k p0 s1_8 s1_16 v302 s.1 s.2) (z0k p0 s1_8 s1_16 v302) (s3_12, s3_21) x := by
 unfold zWc at h
 refine cond_ok h (fun h401 g1 => ?_) (fun h401 g1 => ?_)
 ·refine guard_ok g1 (fun h402 g2 => ?_)
  exact zqn ((w64 (s3_12 + 1)), (upd s3_21 s3_12.toNat true)) [] [(82, 7, 0, .q (xb true)), (82, 9, 1, .q (.ptr 0 5 (s3_12.toNat))), (82, 9, 2, .st ((aB 61 (upd s3_21 s3_12.toNat true)).map .d))] [] g2 (ob (o_b h401) (ob (o_aptr (m := 61) 0 5 0 1 s3_12.toNat h402 (by omega)) (ob (o_stB 61 s3_21 s3_12.toNat true (by have := h402; simp only [Bool.and_eq_true, decide_eq_true_eq] at this; omega)) ob0))) (by kernel_rfl)
 ·exact zqo [(82, 7, 0, .q (xb false))] [] g1 (ob (o_b h401) ob0) (by kernel_rfl)
noncomputable def zHo (p0 : zd) (s1_8 : Int) : TM := [(0, (.d (.agg (zm p0)))), (zsp 1), (2, (.d .nilm)), (zsp 3), (19, (xi (shl64 1 (p0.ShelfBook.Deliveries.1.length : Int)))), (20, (xi s1_8))]
noncomputable def z1k (p0 : zd) (s1_8 : Int) (s1_16 : zt2) : St := ⟨(zHo p0 s1_8), ⟨[(zc 1 (zm p0)), (14, (.map (em (fun k => D.agg (zy k)) (fun v => D.agg ((aB 61) v)) s1_16))), (3, (.cells [(.map 0 14)]))], []⟩, []⟩
noncomputable def zwo (p0 : zd) (r : zt6) : TM := [(0, (.d (.agg (zm p0)))), (zsp 1), (2, (.d .nilm)), (zsp 3), (19, (xi (shl64 1 (p0.ShelfBook.Deliveries.1.length : Int)))), (20, (xi r.1)), (21, (xb false))]
noncomputable def zuf (p0 : zd) (r : zt6) : St := ⟨(zwo p0 r), ⟨[(zc 1 (zm p0)), (14, (.map (em (fun k => D.agg (zy k)) (fun v => D.agg ((aB 61) v)) r.2))), (3, (.cells [(.map 0 14)]))], []⟩, []⟩
noncomputable def z5k (p0 : zd) : (Int × (List (zq × (Nat → Bool)))) → Ex × St := fun r => ((.exit 0), zuf p0 r)
theorem zMk (k : Nat) (p0 : zd) (s1_8 : Int) (s1_16 : zt2) (x : (Int × (List (zq × (Nat → Bool)))) ⊕ (Int × (List (zq × (Nat → Bool))))) (h : zPd k p0 s1_8 s1_16 = some x) : LoopOK TE 82 (blk TE 82 0) (fun s : (Int × (List (zq × (Nat → Bool)))) => z1k p0 s.1 s.2) (z5k p0) (s1_8, s1_16) x := by
 unfold zPd at h
 refine cond_ok h (fun h301 g1 => ?_) (fun h301 g1 => ?_)
 ·refine bind_ok g1 (fun v302 h303 g2 => ?_)
  refine bind_ok g2 (fun v304 h305 g3 => ?_)
  exact zqn ((w64 (s1_8 + 1)), (mset zz (⟨(w64 (p0.ShelfBook.Days - 1)), s1_8⟩ : zq) v304.2 s1_16)) [] [(82, 3, 0, .q (xb true)), (82, 6, 5, .q (.d (.pin (zk v302)))), (82, 11, 8, .mp (em (fun k => D.agg (zy k)) (fun v => D.agg ((aB 61) v)) (mset zz (⟨(w64 (p0.ShelfBook.Days - 1)), s1_8⟩ : zq) v304.2 s1_16)))] [(82, 2, (.nor, zsf p0 s1_8 s1_16 v302 v304))] g3 (ob (o_b h301) (ob (o_ia (e := zk) 3 h303 rfl) (ob (block_ok (id := 2) (r' := (.nor, zsf p0 s1_8 s1_16 v302 v304)) (zU (zCk k p0 s1_8 s1_16 v302) k _ _ h305) rfl) (ob (set_em (ek := (fun k => D.agg (zy k))) (evl := (fun v => D.agg ((aB 61) v))) (q := zz) (fun _ _ => rfl) (⟨(w64 (p0.ShelfBook.Days - 1)), s1_8⟩ : zq) v304.2 s1_16) ob0)))) (by kernel_rfl)
 ·exact zqo [(82, 3, 0, .q (xb false))] [] g1 (ob (o_b h301) ob0) (by kernel_rfl)
noncomputable def z5o (v3402 : zt5) (s34_10 s39_15 : Int) (r : Bool) : TM := [(0, (.yld 0)), (1, (.d (.pin [(di v3402.1), (dl zk v3402.2.1.1 v3402.2.1.2), (dl zl v3402.2.2.1.1 v3402.2.2.1.2), (dl zh v3402.2.2.2.1.1 v3402.2.2.2.1.2), (dl zi v3402.2.2.2.2.1.1 v3402.2.2.2.2.1.2), (di v3402.2.2.2.2.2.1), (di v3402.2.2.2.2.2.2.1)]))), (2, (.d (.pin [(di v3402.2.2.2.2.2.2.2.1)]))), (3, (.d (.pin [(di v3402.2.2.2.2.2.2.2.2)]))), (14, (xi (shl64 1 (v3402.2.2.2.1.1.length : Int)))), (15, (xi s34_10)), (16, (xb true)), (5, (xi s34_10)), (20, (.d (dl zh v3402.2.2.2.1.1 v3402.2.2.2.1.2))), (21, (xi (v3402.2.2.2.1.1.length : Int))), (22, (xi s39_15)), (23, (xb true)), (7, (.ptr 1 7 0)), (6, (xi s39_15)), (8, (xb ((and64 (shr64 v3402.2.2.2.2.2.2.2.1 s39_15) 1) == 1))), (9, (xb ((and64 (shr64 s34_10 s39_15) 1) == 1))), (41, (xb false)), (76, (xb r))]
noncomputable def zmi (p0 : zd) (v2 : zt6) (s24_12 : Int) (v3402 : zt5) : TM := [(0, (.d (.agg (zm p0)))), (zsp 1), (2, (.d .nilm)), (zsp 3), (19, (xi (shl64 1 (p0.ShelfBook.Deliveries.1.length : Int)))), (20, (xi v2.1)), (21, (xb false)), (zsp 7), (52, (xb true)), (59, (xi (shl64 1 (p0.ShelfBook.Deliveries.1.length : Int)))), (60, (xi s24_12)), (61, (xb true)), (zsp 8), (66, (.d (.fn 97 [] [(.pin [(di v3402.1), (dl zk v3402.2.1.1 v3402.2.1.2), (dl zl v3402.2.2.1.1 v3402.2.2.1.2), (dl zh v3402.2.2.2.1.1 v3402.2.2.2.1.2), (dl zi v3402.2.2.2.2.1.1 v3402.2.2.2.2.1.2), (di v3402.2.2.2.2.2.1), (di v3402.2.2.2.2.2.2.1)]), (.pin [(di v3402.2.2.2.2.2.2.2.1)]), (.pin [(di v3402.2.2.2.2.2.2.2.2)])])))]
noncomputable def zM (p0 : zd) (v2 : zt6) (s4_18 s24_12 : Int) (v3402 : zt5) (s34_10 : Int) (s34_18 : zt2) (s39_15 : Int) (v4102 : zo) (r : Bool) : St := ⟨(z5o v3402 s34_10 s39_15 r), ⟨[(zc 7 (zh v4102))], [[(zc 1 (zm p0)), (14, (.map (em (fun k => D.agg (zy k)) (fun v => D.agg ((aB 61) v)) s34_18))), (3, (.cells [(.map 0 14)])), (7, (.cells [(xi s4_18)])), (8, (.cells [(xi s24_12)]))]]⟩, [⟨(zmi p0 v2 s24_12 v3402), 0, rfP (blk TE 82 8), rfA (blk TE 82 8), rfB (blk TE 82 8), 82, .rdy⟩]⟩
noncomputable def zro (v3402 : zt5) (s34_10 s39_15 : Int) : TM := [(0, (.yld 0)), (1, (.d (.pin [(di v3402.1), (dl zk v3402.2.1.1 v3402.2.1.2), (dl zl v3402.2.2.1.1 v3402.2.2.1.2), (dl zh v3402.2.2.2.1.1 v3402.2.2.2.1.2), (dl zi v3402.2.2.2.2.1.1 v3402.2.2.2.2.1.2), (di v3402.2.2.2.2.2.1), (di v3402.2.2.2.2.2.2.1)]))), (2, (.d (.pin [(di v3402.2.2.2.2.2.2.2.1)]))), (3, (.d (.pin [(di v3402.2.2.2.2.2.2.2.2)]))), (14, (xi (shl64 1 (v3402.2.2.2.1.1.length : Int)))), (15, (xi s34_10)), (16, (xb true)), (5, (xi s34_10)), (20, (.d (dl zh v3402.2.2.2.1.1 v3402.2.2.2.1.2))), (21, (xi (v3402.2.2.2.1.1.length : Int))), (22, (xi s39_15)), (23, (xb true)), (7, (.ptr 1 7 0)), (6, (xi s39_15)), (8, (xb ((and64 (shr64 v3402.2.2.2.2.2.2.2.1 s39_15) 1) == 1))), (9, (xb ((and64 (shr64 s34_10 s39_15) 1) == 1))), (41, (xb false))]
theorem zSg (k : Nat) (p0 : zd) (v2 : zt6) (s4_18 s24_12 : Int) (v3402 : zt5) (s34_10 : Int) (s34_18 : zt2) (s39_15 : Int) (v4102 : zo) (r : Bool) (h : zNe k p0 v2 s4_18 s24_12 v3402 s34_10 s34_18 s39_15 v4102 = some r) : ev TE 97 (rgn TE 97 9) ⟨(zro v3402 s34_10 s39_15), ⟨[(zc 7 (zh v4102))], [[(zc 1 (zm p0)), (14, (.map (em (fun k => D.agg (zy k)) (fun v => D.agg ((aB 61) v)) s34_18))), (3, (.cells [(.map 0 14)])), (7, (.cells [(xi s4_18)])), (8, (.cells [(xi s24_12)]))]]⟩, [⟨(zmi p0 v2 s24_12 v3402), 0, rfP (blk TE 82 8), rfA (blk TE 82 8), rfB (blk TE 82 8), 82, .rdy⟩]⟩ = some (.nor, zM p0 v2 s4_18 s24_12 v3402 s34_10 s34_18 s39_15 v4102 r) := by
 unfold zNe at h
 refine cond_ok h (fun h4201 g1 => ?_) (fun h4201 g1 => ?_)
 ·refine cond_ok g1 (fun h4202 g2 => ?_) (fun h4202 g2 => ?_)
  ·exact fin2_ok (g := fun r => (Ex.nor, zM p0 v2 s4_18 s24_12 v3402 s34_10 s34_18 s39_15 v4102 r)) g2 (zqe [(97, 9, 1, .q (xb true)), (97, 9, 5, .q (xb true))] [] (ob (o_b h4201) (ob (o_b h4202) ob0)) (by kernel_rfl))
  ·refine cond_ok g2 (fun h4203 g3 => ?_) (fun h4203 g3 => ?_)
   ·refine cond_ok g3 (fun h4204 g4 => ?_) (fun h4204 g4 => ?_)
    ·refine bind_ok g4 (fun v4205 h4206 g5 => ?_)
     refine cond_ok g5 (fun h4207 g6 => ?_) (fun h4207 g6 => ?_)
     ·exact fin2_ok (g := fun r => (Ex.nor, zM p0 v2 s4_18 s24_12 v3402 s34_10 s34_18 s39_15 v4102 r)) g6 (zqe [(97, 9, 1, .q (xb true)), (97, 9, 5, .q (xb false)), (97, 9, 7, .q (xb true)), (97, 9, 11, .q (xb true)), (97, 9, 19, .c (db v4205)), (97, 9, 23, .q (xb true))] [] (ob (o_b h4201) (ob (o_b h4202) (ob (o_b h4203) (ob (o_b h4204) (ob (zD k v3402.2.2.2.2.2.2.2.2 v4102.Days.Low v4102.Days.High _ h4206) (ob (o_b h4207) ob0)))))) (by kernel_rfl))
     ·exact fin2_ok (g := fun r => (Ex.nor, zM p0 v2 s4_18 s24_12 v3402 s34_10 s34_18 s39_15 v4102 r)) g6 (zqe [(97, 9, 1, .q (xb true)), (97, 9, 5, .q (xb false)), (97, 9, 7, .q (xb true)), (97, 9, 11, .q (xb true)), (97, 9, 19, .c (db v4205)), (97, 9, 23, .q (xb false)), (97, 9, 26, .q (xb false))] [] (ob (o_b h4201) (ob (o_b h4202) (ob (o_b h4203) (ob (o_b h4204) (ob (zD k v3402.2.2.2.2.2.2.2.2 v4102.Days.Low v4102.Days.High _ h4206) (ob (o_b h4207) (ob (o_b h4202) ob0))))))) (by kernel_rfl))
    ·exact fin2_ok (g := fun r => (Ex.nor, zM p0 v2 s4_18 s24_12 v3402 s34_10 s34_18 s39_15 v4102 r)) g4 (zqe [(97, 9, 1, .q (xb true)), (97, 9, 5, .q (xb false)), (97, 9, 7, .q (xb true)), (97, 9, 11, .q (xb false)), (97, 9, 26, .q (xb false))] [] (ob (o_b h4201) (ob (o_b h4202) (ob (o_b h4203) (ob (o_b h4204) (ob (o_b h4202) ob0))))) (by kernel_rfl))
   ·exact fin2_ok (g := fun r => (Ex.nor, zM p0 v2 s4_18 s24_12 v3402 s34_10 s34_18 s39_15 v4102 r)) g3 (zqe [(97, 9, 1, .q (xb true)), (97, 9, 5, .q (xb false)), (97, 9, 7, .q (xb false)), (97, 9, 26, .q (xb false))] [] (ob (o_b h4201) (ob (o_b h4202) (ob (o_b h4203) (ob (o_b h4202) ob0)))) (by kernel_rfl))
 ·refine cond_ok g1 (fun h4202 g2 => ?_) (fun h4202 g2 => ?_)
  ·refine cond_ok g2 (fun h4203 g3 => ?_) (fun h4203 g3 => ?_)
   ·refine bind_ok g3 (fun v4204 h4205 g4 => ?_)
    refine cond_ok g4 (fun h4206 g5 => ?_) (fun h4206 g5 => ?_)
    ·exact fin2_ok (g := fun r => (Ex.nor, zM p0 v2 s4_18 s24_12 v3402 s34_10 s34_18 s39_15 v4102 r)) g5 (zqe [(97, 9, 1, .q (xb false)), (97, 9, 7, .q (xb true)), (97, 9, 11, .q (xb true)), (97, 9, 19, .c (db v4204)), (97, 9, 23, .q (xb true))] [] (ob (o_b h4201) (ob (o_b h4202) (ob (o_b h4203) (ob (zD k v3402.2.2.2.2.2.2.2.2 v4102.Days.Low v4102.Days.High _ h4205) (ob (o_b h4206) ob0))))) (by kernel_rfl))
    ·refine cond_ok g5 (fun h4207 g6 => ?_) (fun h4207 g6 => ?_)
     ·exact fin2_ok (g := fun r => (Ex.nor, zM p0 v2 s4_18 s24_12 v3402 s34_10 s34_18 s39_15 v4102 r)) g6 (zqe [(97, 9, 1, .q (xb false)), (97, 9, 7, .q (xb true)), (97, 9, 11, .q (xb true)), (97, 9, 19, .c (db v4204)), (97, 9, 23, .q (xb false)), (97, 9, 26, .q (xb true))] [] (ob (o_b h4201) (ob (o_b h4202) (ob (o_b h4203) (ob (zD k v3402.2.2.2.2.2.2.2.2 v4102.Days.Low v4102.Days.High _ h4205) (ob (o_b h4206) (ob (o_b h4207) ob0)))))) (by kernel_rfl))
     ·exact fin2_ok (g := fun r => (Ex.nor, zM p0 v2 s4_18 s24_12 v3402 s34_10 s34_18 s39_15 v4102 r)) g6 (zqe [(97, 9, 1, .q (xb false)), (97, 9, 7, .q (xb true)), (97, 9, 11, .q (xb true)), (97, 9, 19, .c (db v4204)), (97, 9, 23, .q (xb false)), (97, 9, 26, .q (xb false))] [] (ob (o_b h4201) (ob (o_b h4202) (ob (o_b h4203) (ob (zD k v3402.2.2.2.2.2.2.2.2 v4102.Days.Low v4102.Days.High _ h4205) (ob (o_b h4206) (ob (o_b h4207) ob0)))))) (by kernel_rfl))
   ·refine cond_ok g3 (fun h4204 g4 => ?_) (fun h4204 g4 => ?_)
    ·exact fin2_ok (g := fun r => (Ex.nor, zM p0 v2 s4_18 s24_12 v3402 s34_10 s34_18 s39_15 v4102 r)) g4 (zqe [(97, 9, 1, .q (xb false)), (97, 9, 7, .q (xb true)), (97, 9, 11, .q (xb false)), (97, 9, 26, .q (xb true))] [] (ob (o_b h4201) (ob (o_b h4202) (ob (o_b h4203) (ob (o_b h4204) ob0)))) (by kernel_rfl))
    ·exact fin2_ok (g := fun r => (Ex.nor, zM p0 v2 s4_18 s24_12 v3402 s34_10 s34_18 s39_15 v4102 r)) g4 (zqe [(97, 9, 1, .q (xb false)), (97, 9, 7, .q (xb true)), (97, 9, 11, .q (xb false)), (97, 9, 26, .q (xb false))] [] (ob (o_b h4201) (ob (o_b h4202) (ob (o_b h4203) (ob (o_b h4204) ob0)))) (by kernel_rfl))
  ·refine cond_ok g2 (fun h4203 g3 => ?_) (fun h4203 g3 => ?_)
   ·exact fin2_ok (g := fun r => (Ex.nor, zM p0 v2 s4_18 s24_12 v3402 s34_10 s34_18 s39_15 v4102 r)) g3 (zqe [(97, 9, 1, .q (xb false)), (97, 9, 7, .q (xb false)), (97, 9, 26, .q (xb true))] [] (ob (o_b h4201) (ob (o_b h4202) (ob (o_b h4203) ob0))) (by kernel_rfl))
   ·exact fin2_ok (g := fun r => (Ex.nor, zM p0 v2 s4_18 s24_12 v3402 s34_10 s34_18 s39_15 v4102 r)) g3 (zqe [(97, 9, 1, .q (xb false)), (97, 9, 7, .q (xb false)), (97, 9, 26, .q (xb false))] [] (ob (o_b h4201) (ob (o_b h4202) (ob (o_b h4203) ob0))) (by kernel_rfl))
noncomputable def zto (v3402 : zt5) (s34_10 s39_15 : Int) : TM := [(0, (.yld 0)), (1, (.d (.pin [(di v3402.1), (dl zk v3402.2.1.1 v3402.2.1.2), (dl zl v3402.2.2.1.1 v3402.2.2.1.2), (dl zh v3402.2.2.2.1.1 v3402.2.2.2.1.2), (dl zi v3402.2.2.2.2.1.1 v3402.2.2.2.2.1.2), (di v3402.2.2.2.2.2.1), (di v3402.2.2.2.2.2.2.1)]))), (2, (.d (.pin [(di v3402.2.2.2.2.2.2.2.1)]))), (3, (.d (.pin [(di v3402.2.2.2.2.2.2.2.2)]))), (14, (xi (shl64 1 (v3402.2.2.2.1.1.length : Int)))), (15, (xi s34_10)), (16, (xb true)), (5, (xi s34_10)), (20, (.d (dl zh v3402.2.2.2.1.1 v3402.2.2.2.1.2))), (21, (xi (v3402.2.2.2.1.1.length : Int))), (22, (xi s39_15))]
noncomputable def zIk (p0 : zd) (v2 : zt6) (s4_18 s24_12 : Int) (v3402 : zt5) (s34_10 : Int) (s34_18 : zt2) (s39_15 : Int) : St := ⟨(zto v3402 s34_10 s39_15), ⟨[], [[(zc 1 (zm p0)), (14, (.map (em (fun k => D.agg (zy k)) (fun v => D.agg ((aB 61) v)) s34_18))), (3, (.cells [(.map 0 14)])), (7, (.cells [(xi s4_18)])), (8, (.cells [(xi s24_12)]))]]⟩, [⟨(zmi p0 v2 s24_12 v3402), 0, rfP (blk TE 82 8), rfA (blk TE 82 8), rfB (blk TE 82 8), 82, .rdy⟩]⟩
noncomputable def zUo (v3402 : zt5) (s34_10 : Int) (r : (Int × Bool × Bool × Int × Int × Int × Int × Int)) : TM := [(0, (.yld 0)), (1, (.d (.pin [(di v3402.1), (dl zk v3402.2.1.1 v3402.2.1.2), (dl zl v3402.2.2.1.1 v3402.2.2.1.2), (dl zh v3402.2.2.2.1.1 v3402.2.2.2.1.2), (dl zi v3402.2.2.2.2.1.1 v3402.2.2.2.2.1.2), (di v3402.2.2.2.2.2.1), (di v3402.2.2.2.2.2.2.1)]))), (2, (.d (.pin [(di v3402.2.2.2.2.2.2.2.1)]))), (3, (.d (.pin [(di v3402.2.2.2.2.2.2.2.2)]))), (14, (xi (shl64 1 (v3402.2.2.2.1.1.length : Int)))), (15, (xi s34_10)), (16, (xb true)), (5, (xi s34_10)), (20, (.d (dl zh v3402.2.2.2.1.1 v3402.2.2.2.1.2))), (21, (xi (v3402.2.2.2.1.1.length : Int))), (22, (xi r.1)), (23, (xb true)), (7, (.ptr 1 7 0)), (6, (xi r.1)), (8, (xb r.2.1)), (9, (xb r.2.2.1)), (41, (xb true)), (42, (xb true))]
noncomputable def zkf (p0 : zd) (v2 : zt6) (s4_18 s24_12 : Int) (v3402 : zt5) (s34_10 : Int) (s34_18 : zt2) (r : (Int × Bool × Bool × Int × Int × Int × Int × Int)) : St := ⟨(zUo v3402 s34_10 r), ⟨[(7, (.cells [(xi r.2.2.2.1), (xi r.2.2.2.2.1), (xi r.2.2.2.2.2.1), (xi r.2.2.2.2.2.2.1), (xi r.2.2.2.2.2.2.2)]))], [[(zc 1 (zm p0)), (14, (.map (em (fun k => D.agg (zy k)) (fun v => D.agg ((aB 61) v)) s34_18))), (3, (.cells [(.map 0 14)])), (7, (.cells [(xi s4_18)])), (8, (.cells [(xi s24_12)]))]]⟩, [⟨(zmi p0 v2 s24_12 v3402), 0, rfP (blk TE 82 8), rfA (blk TE 82 8), rfB (blk TE 82 8), 82, .rdy⟩]⟩
noncomputable def zyo (v3402 : zt5) (s34_10 : Int) (r : (Int × Bool × Bool × Int × Int × Int × Int × Int)) : TM := [(0, (.yld 0)), (1, (.d (.pin [(di v3402.1), (dl zk v3402.2.1.1 v3402.2.1.2), (dl zl v3402.2.2.1.1 v3402.2.2.1.2), (dl zh v3402.2.2.2.1.1 v3402.2.2.2.1.2), (dl zi v3402.2.2.2.2.1.1 v3402.2.2.2.2.1.2), (di v3402.2.2.2.2.2.1), (di v3402.2.2.2.2.2.2.1)]))), (2, (.d (.pin [(di v3402.2.2.2.2.2.2.2.1)]))), (3, (.d (.pin [(di v3402.2.2.2.2.2.2.2.2)]))), (14, (xi (shl64 1 (v3402.2.2.2.1.1.length : Int)))), (15, (xi s34_10)), (16, (xb true)), (5, (xi s34_10)), (20, (.d (dl zh v3402.2.2.2.1.1 v3402.2.2.2.1.2))), (21, (xi (v3402.2.2.2.1.1.length : Int))), (22, (xi r.1)), (23, (xb true)), (7, (.ptr 1 7 0)), (6, (xi r.1)), (8, (xb r.2.1)), (9, (xb r.2.2.1)), (41, (xb false)), (76, (xb true))]
noncomputable def zhf (p0 : zd) (v2 : zt6) (s4_18 s24_12 : Int) (v3402 : zt5) (s34_10 : Int) (s34_18 : zt2) (r : (Int × Bool × Bool × Int × Int × Int × Int × Int)) : St := ⟨(zyo v3402 s34_10 r), ⟨[(7, (.cells [(xi r.2.2.2.1), (xi r.2.2.2.2.1), (xi r.2.2.2.2.2.1), (xi r.2.2.2.2.2.2.1), (xi r.2.2.2.2.2.2.2)]))], [[(zc 1 (zm p0)), (14, (.map (em (fun k => D.agg (zy k)) (fun v => D.agg ((aB 61) v)) s34_18))), (3, (.cells [(.map 0 14)])), (7, (.cells [(xi s4_18)])), (8, (.cells [(xi s24_12)]))]]⟩, [⟨(zmi p0 v2 s24_12 v3402), 0, rfP (blk TE 82 8), rfA (blk TE 82 8), rfB (blk TE 82 8), 82, .rdy⟩]⟩
noncomputable def z3o (v3402 : zt5) (s34_10 r : Int) : TM := [(0, (.yld 0)), (1, (.d (.pin [(di v3402.1), (dl zk v3402.2.1.1 v3402.2.1.2), (dl zl v3402.2.2.1.1 v3402.2.2.1.2), (dl zh v3402.2.2.2.1.1 v3402.2.2.2.1.2), (dl zi v3402.2.2.2.2.1.1 v3402.2.2.2.2.1.2), (di v3402.2.2.2.2.2.1), (di v3402.2.2.2.2.2.2.1)]))), (2, (.d (.pin [(di v3402.2.2.2.2.2.2.2.1)]))), (3, (.d (.pin [(di v3402.2.2.2.2.2.2.2.2)]))), (14, (xi (shl64 1 (v3402.2.2.2.1.1.length : Int)))), (15, (xi s34_10)), (16, (xb true)), (5, (xi s34_10)), (20, (.d (dl zh v3402.2.2.2.1.1 v3402.2.2.2.1.2))), (21, (xi (v3402.2.2.2.1.1.length : Int))), (22, (xi r)), (23, (xb false))]
noncomputable def zjf (p0 : zd) (v2 : zt6) (s4_18 s24_12 : Int) (v3402 : zt5) (s34_10 : Int) (s34_18 : zt2) (r : Int) : St := ⟨(z3o v3402 s34_10 r), ⟨[], [[(zc 1 (zm p0)), (14, (.map (em (fun k => D.agg (zy k)) (fun v => D.agg ((aB 61) v)) s34_18))), (3, (.cells [(.map 0 14)])), (7, (.cells [(xi s4_18)])), (8, (.cells [(xi s24_12)]))]]⟩, [⟨(zmi p0 v2 s24_12 v3402), 0, rfP (blk TE 82 8), rfA (blk TE 82 8), rfB (blk TE 82 8), 82, .rdy⟩]⟩
noncomputable def zLk (p0 : zd) (v2 : zt6) (s4_18 s24_12 : Int) (v3402 : zt5) (s34_10 : Int) (s34_18 : zt2) : ((Int × Bool × Bool × Int × Int × Int × Int × Int) ⊕ ((Int × Bool × Bool × Int × Int × Int × Int × Int) ⊕ Int)) → Ex × St := Sum.elim (fun r => ((.exit 1), zkf p0 v2 s4_18 s24_12 v3402 s34_10 s34_18 r)) (Sum.elim (fun r => ((.exit 1), zhf p0 v2 s4_18 s24_12 v3402 s34_10 s34_18 r)) (fun r => ((.exit 2), zjf p0 v2 s4_18 s24_12 v3402 s34_10 s34_18 r)))
theorem zlf (k : Nat) (p0 : zd) (v2 : zt6) (s4_18 s24_12 : Int) (v3402 : zt5) (s34_10 : Int) (s34_18 : zt2) (s39_15 : Int) (x : Int ⊕ ((Int × Bool × Bool × Int × Int × Int × Int × Int) ⊕ ((Int × Bool × Bool × Int × Int × Int × Int × Int) ⊕ Int))) (h : zuc k p0 v2 s4_18 s24_12 v3402 s34_10 s34_18 s39_15 = some x) : LoopOK TE 97 (blk TE 97 2) (fun s : Int => zIk p0 v2 s4_18 s24_12 v3402 s34_10 s34_18 s) (zLk p0 v2 s4_18 s24_12 v3402 s34_10 s34_18) s39_15 x := by
 unfold zuc at h
 refine cond_ok h (fun h4101 g1 => ?_) (fun h4101 g1 => ?_)
 ·refine bind_ok g1 (fun v4102 h4103 g2 => ?_)
  refine cond_ok g2 (fun h4104 g3 => ?_) (fun h4104 g3 => ?_)
  ·cases g3
  ·refine cond_ok g3 (fun h4105 g4 => ?_) (fun h4105 g4 => ?_)
   ·refine cond_ok g4 (fun h4106 g5 => ?_) (fun h4106 g5 => ?_)
    ·exact zqo [(97, 4, 0, .q (xb true)), (97, 5, 1, .q (.d (.pin (zh v4102)))), (97, 6, 2, .q (xi (shr64 v3402.2.2.2.2.2.2.2.1 s39_15))), (97, 6, 7, .q (xi (shr64 s34_10 s39_15))), (97, 7, 4, .q (xb true)), (97, 8, 0, .q (xb true))] [] g5 (ob (o_b h4101) (ob (o_ia (e := zh) 5 h4103 rfl) (ob (o_shr (x := v3402.2.2.2.2.2.2.2.1) h4104) (ob (o_shr (x := s34_10) h4104) (ob (o_b h4105) (ob (o_b h4106) ob0)))))) (by kernel_rfl)
    ·exact zqn (w64 (s39_15 + 1)) [] [(97, 4, 0, .q (xb true)), (97, 5, 1, .q (.d (.pin (zh v4102)))), (97, 6, 2, .q (xi (shr64 v3402.2.2.2.2.2.2.2.1 s39_15))), (97, 6, 7, .q (xi (shr64 s34_10 s39_15))), (97, 7, 4, .q (xb true)), (97, 8, 0, .q (xb false))] [] g5 (ob (o_b h4101) (ob (o_ia (e := zh) 5 h4103 rfl) (ob (o_shr (x := v3402.2.2.2.2.2.2.2.1) h4104) (ob (o_shr (x := s34_10) h4104) (ob (o_b h4105) (ob (o_b h4106) ob0)))))) (by kernel_rfl)
   ·refine bind_ok g4 (fun v4106 h4107 g5 => ?_)
    refine cond_ok g5 (fun h4108 g6 => ?_) (fun h4108 g6 => ?_)
    ·subst h4108
     exact zqo [(97, 4, 0, .q (xb true)), (97, 5, 1, .q (.d (.pin (zh v4102)))), (97, 6, 2, .q (xi (shr64 v3402.2.2.2.2.2.2.2.1 s39_15))), (97, 6, 7, .q (xi (shr64 s34_10 s39_15))), (97, 7, 4, .q (xb false))] [(97, 1000009, (.nor, zM p0 v2 s4_18 s24_12 v3402 s34_10 s34_18 s39_15 v4102 true))] g6 (ob (o_b h4101) (ob (o_ia (e := zh) 5 h4103 rfl) (ob (o_shr (x := v3402.2.2.2.2.2.2.2.1) h4104) (ob (o_shr (x := s34_10) h4104) (ob (o_b h4105) (ob (zSg k p0 v2 s4_18 s24_12 v3402 s34_10 s34_18 s39_15 v4102 _ h4107) ob0)))))) (by kernel_rfl)
    ·subst h4108
     exact zqn (w64 (s39_15 + 1)) [] [(97, 4, 0, .q (xb true)), (97, 5, 1, .q (.d (.pin (zh v4102)))), (97, 6, 2, .q (xi (shr64 v3402.2.2.2.2.2.2.2.1 s39_15))), (97, 6, 7, .q (xi (shr64 s34_10 s39_15))), (97, 7, 4, .q (xb false))] [(97, 1000009, (.nor, zM p0 v2 s4_18 s24_12 v3402 s34_10 s34_18 s39_15 v4102 false))] g6 (ob (o_b h4101) (ob (o_ia (e := zh) 5 h4103 rfl) (ob (o_shr (x := v3402.2.2.2.2.2.2.2.1) h4104) (ob (o_shr (x := s34_10) h4104) (ob (o_b h4105) (ob (zSg k p0 v2 s4_18 s24_12 v3402 s34_10 s34_18 s39_15 v4102 _ h4107) ob0)))))) (by kernel_rfl)
 ·exact zqo [(97, 4, 0, .q (xb false))] [] g1 (ob (o_b h4101) ob0) (by kernel_rfl)
noncomputable def zqp (p0 : zd) (v2 : zt6) (s24_12 : Int) (v3402 : zt5) (s34_10 : Int) (v3908 : (SL zA)) (s42_27 : Int) : TM := zmi p0 v2 s24_12 v3402 ++ [(67, (xi s34_10)), (9, (xi s34_10)), (10, (.ptr 2 10 0)), (11, (.d (dl zH v3908.1 v3908.2))), (83, (xi (v3908.1.length : Int))), (84, (xi s42_27))]
noncomputable def zJk (p0 : zd) (v2 : zt6) (s4_18 s24_12 : Int) (v3402 : zt5) (s34_10 : Int) (s34_18 : zt2) (v3908 : (SL zA)) (s42_27 : Int) (s42_28 : zt0) : St := ⟨(zqp p0 v2 s24_12 v3402 s34_10 v3908 s42_27), ⟨[(zc 10 (aB 61 s42_28))], [[(zc 1 (zm p0)), (14, (.map (em (fun k => D.agg (zy k)) (fun v => D.agg ((aB 61) v)) s34_18))), (3, (.cells [(.map 0 14)])), (7, (.cells [(xi s4_18)])), (8, (.cells [(xi s24_12)]))], []]⟩, [⟨(zmi p0 v2 s24_12 v3402), 0, rfP (blk TE 82 8), rfA (blk TE 82 8), rfB (blk TE 82 8), 82, .busy⟩]⟩
noncomputable def zvp (p0 : zd) (v2 : zt6) (s24_12 : Int) (v3402 : zt5) (s34_10 : Int) (v3908 : (SL zA)) (r : zt12) : TM := zmi p0 v2 s24_12 v3402 ++ [(67, (xi s34_10)), (9, (xi s34_10)), (10, (.ptr 2 10 0)), (11, (.d (dl zH v3908.1 v3908.2))), (83, (xi (v3908.1.length : Int))), (84, (xi r.1)), (85, (xb false))]
noncomputable def zif (p0 : zd) (v2 : zt6) (s4_18 s24_12 : Int) (v3402 : zt5) (s34_10 : Int) (s34_18 : zt2) (v3908 : (SL zA)) (r : zt12) : St := ⟨(zvp p0 v2 s24_12 v3402 s34_10 v3908 r), ⟨[(zc 10 (aB 61 r.2))], [[(zc 1 (zm p0)), (14, (.map (em (fun k => D.agg (zy k)) (fun v => D.agg ((aB 61) v)) s34_18))), (3, (.cells [(.map 0 14)])), (7, (.cells [(xi s4_18)])), (8, (.cells [(xi s24_12)]))], []]⟩, [⟨(zmi p0 v2 s24_12 v3402), 0, rfP (blk TE 82 8), rfA (blk TE 82 8), rfB (blk TE 82 8), 82, .busy⟩]⟩
noncomputable def zQk (p0 : zd) (v2 : zt6) (s4_18 s24_12 : Int) (v3402 : zt5) (s34_10 : Int) (s34_18 : zt2) (v3908 : (SL zA)) : (Int × (Nat → Bool)) → Ex × St := fun r => ((.exit 10), zif p0 v2 s4_18 s24_12 v3402 s34_10 s34_18 v3908 r)
theorem zkk (k : Nat) (p0 : zd) (v2 : zt6) (s4_18 s24_12 : Int) (v3402 : zt5) (s34_10 : Int) (s34_18 : zt2) (v3908 : (SL zA)) (s42_27 : Int) (s42_28 : zt0) (x : (Int × (Nat → Bool)) ⊕ (Int × (Nat → Bool))) (h : zrc k p0 v2 s4_18 s24_12 v3402 s34_10 s34_18 v3908 s42_27 s42_28 = some x) : LoopOK TE 82 (blk TE 82 10) (fun s : (Int × (Nat → Bool)) => zJk p0 v2 s4_18 s24_12 v3402 s34_10 s34_18 v3908 s.1 s.2) (zQk p0 v2 s4_18 s24_12 v3402 s34_10 s34_18 v3908) (s42_27, s42_28) x := by
 unfold zrc at h
 refine cond_ok h (fun h4301 g1 => ?_) (fun h4301 g1 => ?_)
 ·refine bind_ok g1 (fun v4302 h4303 g2 => ?_)
  refine bind_ok g2 (fun v4304 h4305 g3 => ?_)
  exact zqn ((w64 (s42_27 + 1)), v4304) [] [(82, 24, 0, .q (xb true)), (82, 26, 2, .q (xi (v3908.1.length : Int))), (82, 26, 6, .q (.d (.pin (zH v4302)))), (82, 27, 7, .c (.agg (aB 61 v4304)))] [] g3 (ob (o_b h4301) (ob (o_len zH v3908.1) (ob (o_ia (e := zH) 3 h4303 rfl) (ob (zth k p0 s42_28 (w64 (1 - v4302.way)) v4302.by_ _ h4305) ob0)))) (by kernel_rfl)
 ·exact zqo [(82, 24, 0, .q (xb false))] [] g1 (ob (o_b h4301) ob0) (by kernel_rfl)
noncomputable def zpp (v3402 : zt5) (s34_10 : Int) : TM := [(0, (.yld 0)), (1, (.d (.pin [(di v3402.1), (dl zk v3402.2.1.1 v3402.2.1.2), (dl zl v3402.2.2.1.1 v3402.2.2.1.2), (dl zh v3402.2.2.2.1.1 v3402.2.2.2.1.2), (dl zi v3402.2.2.2.2.1.1 v3402.2.2.2.2.1.2), (di v3402.2.2.2.2.2.1), (di v3402.2.2.2.2.2.2.1)]))), (2, (.d (.pin [(di v3402.2.2.2.2.2.2.2.1)]))), (3, (.d (.pin [(di v3402.2.2.2.2.2.2.2.2)]))), (14, (xi (shl64 1 (v3402.2.2.2.1.1.length : Int)))), (15, (xi s34_10))]
noncomputable def zSk (p0 : zd) (v2 : zt6) (s4_18 s24_12 : Int) (v3402 : zt5) (s34_10 : Int) (s34_18 : zt2) : St := ⟨(zpp v3402 s34_10), ⟨[], [[(zc 1 (zm p0)), (14, (.map (em (fun k => D.agg (zy k)) (fun v => D.agg ((aB 61) v)) s34_18))), (3, (.cells [(.map 0 14)])), (7, (.cells [(xi s4_18)])), (8, (.cells [(xi s24_12)]))]]⟩, [⟨(zmi p0 v2 s24_12 v3402), 0, rfP (blk TE 82 8), rfA (blk TE 82 8), rfB (blk TE 82 8), 82, .rdy⟩]⟩
noncomputable def zQo (v3402 : zt5) (r : zt6) : TM := [(0, (.yld 0)), (1, (.d (.pin [(di v3402.1), (dl zk v3402.2.1.1 v3402.2.1.2), (dl zl v3402.2.2.1.1 v3402.2.2.1.2), (dl zh v3402.2.2.2.1.1 v3402.2.2.2.1.2), (dl zi v3402.2.2.2.2.1.1 v3402.2.2.2.2.1.2), (di v3402.2.2.2.2.2.1), (di v3402.2.2.2.2.2.2.1)]))), (2, (.d (.pin [(di v3402.2.2.2.2.2.2.2.1)]))), (3, (.d (.pin [(di v3402.2.2.2.2.2.2.2.2)]))), (14, (xi (shl64 1 (v3402.2.2.2.1.1.length : Int)))), (15, (xi r.1)), (16, (xb false))]
noncomputable def zef (p0 : zd) (v2 : zt6) (s4_18 s24_12 : Int) (v3402 : zt5) (r : zt6) : St := ⟨(zQo v3402 r), ⟨[], [[(zc 1 (zm p0)), (14, (.map (em (fun k => D.agg (zy k)) (fun v => D.agg ((aB 61) v)) r.2))), (3, (.cells [(.map 0 14)])), (7, (.cells [(xi s4_18)])), (8, (.cells [(xi s24_12)]))]]⟩, [⟨(zmi p0 v2 s24_12 v3402), 0, rfP (blk TE 82 8), rfA (blk TE 82 8), rfB (blk TE 82 8), 82, .rdy⟩]⟩
noncomputable def zVk (p0 : zd) (v2 : zt6) (s4_18 s24_12 : Int) (v3402 : zt5) : (Int × (List (zq × (Nat → Bool)))) → Ex × St := fun r => ((.exit 0), zef p0 v2 s4_18 s24_12 v3402 r)
theorem zzk (k : Nat) (p0 : zd) (v2 : zt6) (s4_18 s24_12 : Int) (v3402 : zt5) (s34_10 : Int) (s34_18 : zt2) (x : (Int × (List (zq × (Nat → Bool)))) ⊕ (Int × (List (zq × (Nat → Bool))))) (h : zsc k p0 v2 s4_18 s24_12 v3402 s34_10 s34_18 = some x) : LoopOK TE 97 (blk TE 97 0) (fun s : (Int × (List (zq × (Nat → Bool)))) => zSk p0 v2 s4_18 s24_12 v3402 s.1 s.2) (zVk p0 v2 s4_18 s24_12 v3402) (s34_10, s34_18) x := by
 unfold zsc at h
 refine cond_ok h (fun h3901 g1 => ?_) (fun h3901 g1 => ?_)
 ·refine bind_ok g1 (fun v3902 h3903 g2 => ?_)
  refine sum_ok g2 (fun v3905 hh g3_0 => ?_) (fun w2_0 hh g3_0 => ?_)
  ·subst hh
   exact zqn ((w64 (s34_10 + 1)), s34_18) [] [(97, 1, 0, .q (xb true)), (97, 3, 3, .q (xi (v3402.2.2.2.1.1.length : Int)))] [(97, 2, ((.exit 1), zkf p0 v2 s4_18 s24_12 v3402 s34_10 s34_18 v3905))] g3_0 (ob (o_b h3901) (ob (o_len zh v3402.2.2.2.1.1) (ob (block_ok (id := 2) (r' := ((.exit 1), zkf p0 v2 s4_18 s24_12 v3402 s34_10 s34_18 v3905)) (z9b (zlf k p0 v2 s4_18 s24_12 v3402 s34_10 s34_18) k _ _ h3903) rfl) ob0))) (by kernel_rfl)
  ·subst hh
   refine sum_ok g3_0 (fun v3905 hh g3_1 => ?_) (fun v3905 hh g3_1 => ?_)
   ·subst hh
    exact zqn ((w64 (s34_10 + 1)), s34_18) [] [(97, 1, 0, .q (xb true)), (97, 3, 3, .q (xi (v3402.2.2.2.1.1.length : Int)))] [(97, 2, ((.exit 1), zhf p0 v2 s4_18 s24_12 v3402 s34_10 s34_18 v3905))] g3_1 (ob (o_b h3901) (ob (o_len zh v3402.2.2.2.1.1) (ob (block_ok (id := 2) (r' := ((.exit 1), zhf p0 v2 s4_18 s24_12 v3402 s34_10 s34_18 v3905)) (z9b (zlf k p0 v2 s4_18 s24_12 v3402 s34_10 s34_18) k _ _ h3903) rfl) ob0))) (by kernel_rfl)
   ·subst hh
    refine bind_ok g3_1 (fun v3906 h3907 g4 => ?_)
    refine bind_ok g4 (fun v3908 h3909 g5 => ?_)
    refine bind_ok g5 (fun v3910 h3911 g6 => ?_)
    refine bind_ok g6 (fun v3912 h3913 g7 => ?_)
    exact zqn ((w64 (s34_10 + 1)), (mset zz (⟨(w64 (s4_18 - 1)), s24_12⟩ : zq) v3912 s34_18)) [] [(97, 1, 0, .q (xb true)), (97, 3, 3, .q (xi (v3402.2.2.2.1.1.length : Int))), (82, 21, 5, .q (.d (.agg (aB 61 ((mfind zz (⟨s4_18, s34_10⟩ : zq) s34_18).getD (fun _ => false)))))), (82, 21, 7, .c (.agg (aB 61 v3906))), (82, 22, 5, .c (dl zH v3908.1 v3908.2)), (82, 23, 1, .q (xi (v3908.1.length : Int))), (82, 29, 10, .q (.d (.agg (aB 61 ((mfind zz (⟨(w64 (s4_18 - 1)), s24_12⟩ : zq) s34_18).getD (fun _ => false)))))), (82, 29, 12, .c (.agg (aB 61 v3912))), (82, 29, 13, .mp (em (fun k => D.agg (zy k)) (fun v => D.agg ((aB 61) v)) (mset zz (⟨(w64 (s4_18 - 1)), s24_12⟩ : zq) v3912 s34_18)))] [(97, 2, (.nor, zjf p0 v2 s4_18 s24_12 v3402 s34_10 s34_18 v3905)), (82, 10, (.nor, zif p0 v2 s4_18 s24_12 v3402 s34_10 s34_18 v3908 v3910))] g7 (ob (o_b h3901) (ob (o_len zh v3402.2.2.2.1.1) (ob (block_ok (id := 2) (r' := (.nor, zjf p0 v2 s4_18 s24_12 v3402 s34_10 s34_18 v3905)) (z9b (zlf k p0 v2 s4_18 s24_12 v3402 s34_10 s34_18) k _ _ h3903) rfl) (ob (o_look (ek := (fun k => D.agg (zy k))) (evl := (fun v => D.agg ((aB 61) v))) (q := zz) (fun _ _ => rfl) (⟨s4_18, s34_10⟩ : zq) s34_18 (fun _ => false)) (ob (z2g k p0 ((mfind zz (⟨s4_18, s34_10⟩ : zq) s34_18).getD (fun _ => false)) s4_18 _ h3907) (ob (zuh k p0 s4_18 (andNot64 s34_10 s24_12) _ h3909) (ob (o_len zH v3908.1) (ob (block_ok (id := 10) (r' := (.nor, zif p0 v2 s4_18 s24_12 v3402 s34_10 s34_18 v3908 v3910)) (zU (zkk k p0 v2 s4_18 s24_12 v3402 s34_10 s34_18 v3908) k _ _ h3911) rfl) (ob (o_look (ek := (fun k => D.agg (zy k))) (evl := (fun v => D.agg ((aB 61) v))) (q := zz) (fun _ _ => rfl) (⟨(w64 (s4_18 - 1)), s24_12⟩ : zq) s34_18 (fun _ => false)) (ob (z8k k ((mfind zz (⟨(w64 (s4_18 - 1)), s24_12⟩ : zq) s34_18).getD (fun _ => false)) v3910.2 _ h3913) (ob (set_em (ek := (fun k => D.agg (zy k))) (evl := (fun v => D.agg ((aB 61) v))) (q := zz) (fun _ _ => rfl) (⟨(w64 (s4_18 - 1)), s24_12⟩ : zq) v3912 s34_18) ob0))))))))))) (by kernel_rfl)
 ·exact zqo [(97, 1, 0, .q (xb false))] [] g1 (ob (o_b h3901) ob0) (by kernel_rfl)
noncomputable def zgp (p0 : zd) (v2 : zt6) (s24_12 : Int) : TM := [(0, (.d (.agg (zm p0)))), (zsp 1), (2, (.d .nilm)), (zsp 3), (19, (xi (shl64 1 (p0.ShelfBook.Deliveries.1.length : Int)))), (20, (xi v2.1)), (21, (xb false)), (zsp 7), (52, (xb true)), (59, (xi (shl64 1 (p0.ShelfBook.Deliveries.1.length : Int)))), (60, (xi s24_12))]
noncomputable def zWk (p0 : zd) (v2 : zt6) (s4_18 s24_12 : Int) (s24_20 : zt2) : St := ⟨(zgp p0 v2 s24_12), ⟨[(zc 1 (zm p0)), (14, (.map (em (fun k => D.agg (zy k)) (fun v => D.agg ((aB 61) v)) s24_20))), (3, (.cells [(.map 0 14)])), (7, (.cells [(xi s4_18)]))], []⟩, []⟩
noncomputable def zap (p0 : zd) (v2 r : zt6) : TM := [(0, (.d (.agg (zm p0)))), (zsp 1), (2, (.d .nilm)), (zsp 3), (19, (xi (shl64 1 (p0.ShelfBook.Deliveries.1.length : Int)))), (20, (xi v2.1)), (21, (xb false)), (zsp 7), (52, (xb true)), (59, (xi (shl64 1 (p0.ShelfBook.Deliveries.1.length : Int)))), (60, (xi r.1)), (61, (xb false))]
noncomputable def zbf (p0 : zd) (v2 : zt6) (s4_18 : Int) (r : zt6) : St := ⟨(zap p0 v2 r), ⟨[(zc 1 (zm p0)), (14, (.map (em (fun k => D.agg (zy k)) (fun v => D.agg ((aB 61) v)) r.2))), (3, (.cells [(.map 0 14)])), (7, (.cells [(xi s4_18)]))], []⟩, []⟩
noncomputable def zYk (p0 : zd) (v2 : zt6) (s4_18 : Int) : (Int × (List (zq × (Nat → Bool)))) → Ex × St := fun r => ((.exit 6), zbf p0 v2 s4_18 r)
theorem ztk (k : Nat) (p0 : zd) (v2 : zt6) (s4_18 s24_12 : Int) (s24_20 : zt2) (x : (Int × (List (zq × (Nat → Bool)))) ⊕ (Int × (List (zq × (Nat → Bool))))) (h : ztc k p0 v2 s4_18 s24_12 s24_20 = some x) : LoopOK TE 82 (blk TE 82 6) (fun s : (Int × (List (zq × (Nat → Bool)))) => zWk p0 v2 s4_18 s.1 s.2) (zYk p0 v2 s4_18) (s24_12, s24_20) x := by
 unfold ztc at h
 refine cond_ok h (fun h3401 g1 => ?_) (fun h3401 g1 => ?_)
 ·refine bind_ok g1 (fun v3402 h3403 g2 => ?_)
  refine cond_ok g2 (fun h3404 g3 => ?_) (fun h3404 g3 => ?_)
  ·cases g3
  ·refine bind_ok g3 (fun v3405 h3406 g4 => ?_)
   exact zqn ((w64 (s24_12 + 1)), v3405.2) [] [(82, 17, 0, .q (xb true)), (82, 19, 3, .c (.fn 97 [] [(.pin [(di v3402.1), (dl zk v3402.2.1.1 v3402.2.1.2), (dl zl v3402.2.2.1.1 v3402.2.2.1.2), (dl zh v3402.2.2.2.1.1 v3402.2.2.2.1.2), (dl zi v3402.2.2.2.2.1.1 v3402.2.2.2.2.1.2), (di v3402.2.2.2.2.2.1), (di v3402.2.2.2.2.2.2.1)]), (.pin [(di v3402.2.2.2.2.2.2.2.1)]), (.pin [(di v3402.2.2.2.2.2.2.2.2)])])), (97, 0, 3, .q (xi (v3402.2.2.2.1.1.length : Int))), (97, 0, 4, .q (xi (shl64 1 (v3402.2.2.2.1.1.length : Int))))] [(97, 0, (.nor, zef p0 v2 s4_18 s24_12 v3402 v3405))] g4 (ob (o_b h3401) (ob (zbi k p0 s4_18 s24_12 _ h3403) (ob (o_len zh v3402.2.2.2.1.1) (ob (o_shl (x := 1) h3404) (ob (block_ok (id := 0) (r' := (.nor, zef p0 v2 s4_18 s24_12 v3402 v3405)) (zU (zzk k p0 v2 s4_18 s24_12 v3402) k _ _ h3406) rfl) ob0))))) (by kernel_rfl)
 ·exact zqo [(82, 17, 0, .q (xb false))] [] g1 (ob (o_b h3401) ob0) (by kernel_rfl)
noncomputable def zDm (p0 : zd) (v2 : zt6) : TM := [(0, (.d (.agg (zm p0)))), (zsp 1), (2, (.d .nilm)), (zsp 3), (19, (xi (shl64 1 (p0.ShelfBook.Deliveries.1.length : Int)))), (20, (xi v2.1)), (21, (xb false)), (zsp 7)]
noncomputable def z4k (p0 : zd) (v2 : zt6) (s4_17 : zt2) (s4_18 : Int) : St := ⟨(zDm p0 v2), ⟨[(zc 1 (zm p0)), (14, (.map (em (fun k => D.agg (zy k)) (fun v => D.agg ((aB 61) v)) s4_17))), (3, (.cells [(.map 0 14)])), (7, (.cells [(xi s4_18)]))], []⟩, []⟩
noncomputable def zvf (p0 : zd) (v2 : zt6) (r : ((List (zq × (Nat → Bool))) × Int)) : St := ⟨(zDm p0 v2 ++ [(52, (xb false))]), ⟨[(zc 1 (zm p0)), (14, (.map (em (fun k => D.agg (zy k)) (fun v => D.agg ((aB 61) v)) r.1))), (3, (.cells [(.map 0 14)])), (7, (.cells [(xi r.2)]))], []⟩, []⟩
noncomputable def z7k (p0 : zd) (v2 : zt6) : ((List (zq × (Nat → Bool))) × Int) → Ex × St := fun r => ((.exit 4), zvf p0 v2 r)
theorem zUk (k : Nat) (p0 : zd) (v2 : zt6) (s4_17 : zt2) (s4_18 : Int) (x : ((List (zq × (Nat → Bool))) × Int) ⊕ ((List (zq × (Nat → Bool))) × Int)) (h : zDd k p0 v2 s4_17 s4_18 = some x) : LoopOK TE 82 (blk TE 82 4) (fun s : ((List (zq × (Nat → Bool))) × Int) => z4k p0 v2 s.1 s.2) (z7k p0 v2) (s4_17, s4_18) x := by
 unfold zDd at h
 refine cond_ok h (fun h2401 g1 => ?_) (fun h2401 g1 => ?_)
 ·refine cond_ok g1 (fun h2402 g2 => ?_) (fun h2402 g2 => ?_)
  ·cases g2
  ·refine bind_ok g2 (fun v2403 h2404 g3 => ?_)
   exact zqn (v2403.2, (w64 (s4_18 - 1))) [] [(82, 14, 1, .q (xb true)), (82, 16, 3, .q (xi (p0.ShelfBook.Deliveries.1.length : Int))), (82, 16, 4, .q (xi (shl64 1 (p0.ShelfBook.Deliveries.1.length : Int))))] [(82, 6, (.nor, zbf p0 v2 s4_18 v2403))] g3 (ob (o_b h2401) (ob (o_len zh p0.ShelfBook.Deliveries.1) (ob (o_shl (x := 1) h2402) (ob (block_ok (id := 6) (r' := (.nor, zbf p0 v2 s4_18 v2403)) (zU (ztk k p0 v2 s4_18) k _ _ h2404) rfl) ob0)))) (by kernel_rfl)
 ·exact zqo [(82, 14, 1, .q (xb false))] [] g1 (ob (o_b h2401) ob0) (by kernel_rfl)
theorem zml (k : Nat) (p0 : zd) (r : zt2) (h : z2e k p0 = some r) : callP TE (ev TE) 82 [(.agg (zm p0))] = some (zwi r) := by
 unfold z2e at h
 refine cond_ok h (fun h1 g1 => ?_) (fun h1 g1 => ?_)
 ·cases g1
 ·refine bind_ok g1 (fun v2 h3 g2 => ?_)
  refine bind_ok g2 (fun v4 h5 g3 => ?_)
  exact fin_ok (g := zwi) g3 (zqc [(82, 2, 3, .q (xi (p0.ShelfBook.Deliveries.1.length : Int))), (82, 2, 4, .q (xi (shl64 1 (p0.ShelfBook.Deliveries.1.length : Int))))] [(82, 0, (.nor, zuf p0 v2)), (82, 4, (.nor, zvf p0 v2 v4))] (ob (o_len zh p0.ShelfBook.Deliveries.1) (ob (o_shl (x := 1) h1) (ob (block_ok (id := 0) (r' := (.nor, zuf p0 v2)) (zU (zMk k p0) k _ _ h3) rfl) (ob (block_ok (id := 4) (r' := (.nor, zvf p0 v2 v4)) (zU (zUk k p0 v2) k _ _ h5) rfl) ob0)))) (by kernel_rfl))
noncomputable def zDo (p0 : zd) (v1 v3 : zt2) (s1_10 s13_13 : Int) (v1902 : zt0) (s19_2 : Int) : TM := [(0, (.d (.agg (zm p0)))), (zsp 1), (zsp 2), (zsp 3), (4, (.d (.mp (em (fun k => D.agg (zy k)) (fun v => D.agg ((aB 61) v)) v1)))), (5, (.d (.mp (em (fun k => D.agg (zy k)) (fun v => D.agg ((aB 61) v)) v3)))), (17, (xi p0.ShelfBook.Days)), (18, (xi s1_10)), (19, (xb true)), (zsp 6), (25, (xi (shl64 1 (p0.ShelfBook.Deliveries.1.length : Int)))), (26, (xi s13_13)), (27, (xb true)), (7, (xi s13_13)), (zsp 8), (zsp 9), (38, (.d (.fn 96 [] [(.pin (aB 61 v1902))]))), (39, (xi s19_2)), (10, (xi s19_2))]
noncomputable def zvm (p0 : zd) (v1 v3 : zt2) (s1_10 s13_13 : Int) (v1902 : zt0) : TM := [(0, (.d (.agg (zm p0)))), (zsp 1), (zsp 2), (zsp 3), (4, (.d (.mp (em (fun k => D.agg (zy k)) (fun v => D.agg ((aB 61) v)) v1)))), (5, (.d (.mp (em (fun k => D.agg (zy k)) (fun v => D.agg ((aB 61) v)) v3)))), (17, (xi p0.ShelfBook.Days)), (18, (xi s1_10)), (19, (xb true)), (zsp 6), (25, (xi (shl64 1 (p0.ShelfBook.Deliveries.1.length : Int)))), (26, (xi s13_13)), (27, (xb true)), (7, (xi s13_13)), (zsp 8), (zsp 9), (38, (.d (.fn 96 [] [(.pin (aB 61 v1902))])))]
noncomputable def zkd (p0 : zd) (v1 v3 : zt2) (s1_10 s13_13 : Int) (v1902 : zt0) (s19_2 : Int) (s19_11 r : zt0) : St := ⟨(zDo p0 v1 v3 s1_10 s13_13 v1902 s19_2), ⟨[], [[(zc 1 (zm p0)), (zc 2 (aB 732 (fun _ => false))), (zc 3 (aB 732 r)), (6, (.cells [(xi s1_10)])), (8, (.cells [(xi s1_10), (xi s13_13)])), (zc 9 (aB 61 ((mfind zz (⟨s1_10, s13_13⟩ : zq) v3).getD (fun _ => false))))], []]⟩, [⟨(zvm p0 v1 v3 s1_10 s13_13 v1902), 0, rfP (blk TE 53 4), rfA (blk TE 53 4), rfB (blk TE 53 4), 53, .busy⟩]⟩
noncomputable def ztp (p0 : zd) (k : Nat) (v1 v3 : zt2) (s1_10 s13_13 : Int) (v1902 : zt0) (s19_2 : Int) : TM := [(0, (.d (.agg (zm p0)))), (zsp 1), (zsp 2), (zsp 3), (4, (.d (.mp (em (fun k => D.agg (zy k)) (fun v => D.agg ((aB 61) v)) v1)))), (5, (.d (.mp (em (fun k => D.agg (zy k)) (fun v => D.agg ((aB 61) v)) v3)))), (17, (xi p0.ShelfBook.Days)), (18, (xi s1_10)), (19, (xb true)), (zsp 6), (25, (xi (shl64 1 (p0.ShelfBook.Deliveries.1.length : Int)))), (26, (xi s13_13)), (27, (xb true)), (7, (xi s13_13)), (zsp 8), (zsp 9), (38, (.d (.fn 96 [] [(.pin (aB 61 v1902))]))), (39, (xi s19_2)), (10, (xi s19_2))]
noncomputable def zEm (p0 : zd) (k : Nat) (v1 v3 : zt2) (s1_10 s13_13 : Int) (v1902 : zt0) : TM := [(0, (.d (.agg (zm p0)))), (zsp 1), (zsp 2), (zsp 3), (4, (.d (.mp (em (fun k => D.agg (zy k)) (fun v => D.agg ((aB 61) v)) v1)))), (5, (.d (.mp (em (fun k => D.agg (zy k)) (fun v => D.agg ((aB 61) v)) v3)))), (17, (xi p0.ShelfBook.Days)), (18, (xi s1_10)), (19, (xb true)), (zsp 6), (25, (xi (shl64 1 (p0.ShelfBook.Deliveries.1.length : Int)))), (26, (xi s13_13)), (27, (xb true)), (7, (xi s13_13)), (zsp 8), (zsp 9), (38, (.d (.fn 96 [] [(.pin (aB 61 v1902))])))]
theorem zpj (k : Nat) (p0 : zd) (v1 v3 : zt2) (s1_10 s13_13 : Int) (v1902 : zt0) (s19_2 : Int) (s19_11 r : zt0) (h : zRd k p0 v1 v3 s1_10 s13_13 v1902 s19_2 s19_11 = some r) : ev TE 53 (rgn TE 53 13) ⟨(ztp p0 k v1 v3 s1_10 s13_13 v1902 s19_2), ⟨[], [[(zc 1 (zm p0)), (zc 2 (aB 732 (fun _ => false))), (zc 3 (aB 732 s19_11)), (6, (.cells [(xi s1_10)])), (8, (.cells [(xi s1_10), (xi s13_13)])), (zc 9 (aB 61 ((mfind zz (⟨s1_10, s13_13⟩ : zq) v3).getD (fun _ => false))))], []]⟩, [⟨(zEm p0 k v1 v3 s1_10 s13_13 v1902), 0, rfP (blk TE 53 4), rfA (blk TE 53 4), rfB (blk TE 53 4), 53, .busy⟩]⟩ = some (.nor, zkd p0 v1 v3 s1_10 s13_13 v1902 s19_2 s19_11 r) := by
 unfold zRd at h
 refine guard_ok h (fun h2401 g1 => ?_)
 refine guard_ok g1 (fun h2402 g2 => ?_)
 refine cond_ok g2 (fun h2403 g3 => ?_) (fun h2403 g3 => ?_)
 ·exact fin2_ok (g := fun r => (Ex.nor, zkd p0 v1 v3 s1_10 s13_13 v1902 s19_2 s19_11 r)) g3 (zqe [(53, 13, 4, .q (.ptr 0 3 ((s1_10.toNat * 61)))), (53, 13, 5, .q (.ptr 0 3 (((s1_10.toNat * 61) + s19_2.toNat)))), (53, 13, 6, .q (xb (s19_11 ((s1_10.toNat * 61) + s19_2.toNat)))), (53, 13, 7, .q (xb true)), (53, 13, 12, .q (.ptr 0 3 ((s1_10.toNat * 61)))), (53, 13, 13, .q (.ptr 0 3 (((s1_10.toNat * 61) + s19_2.toNat)))), (53, 13, 14, .st ((aB 732 (upd s19_11 ((s1_10.toNat * 61) + s19_2.toNat) true)).map .d))] [] (ob (o_aptr (m := 12) 0 3 0 61 (s1_10.toNat * 61) h2401 (by omega)) (ob (o_aptr (m := 61) 0 3 (s1_10.toNat * 61) 1 ((s1_10.toNat * 61) + s19_2.toNat) h2402 (by omega)) (ob (o_ldB 732 s19_11 ((s1_10.toNat * 61) + s19_2.toNat) (by have h1 := h2402; have h2 := h2401; simp only [Bool.and_eq_true, decide_eq_true_eq] at h1 h2; omega)) (ob (o_b h2403) (ob (o_aptr (m := 12) 0 3 0 61 (s1_10.toNat * 61) h2401 (by omega)) (ob (o_aptr (m := 61) 0 3 (s1_10.toNat * 61) 1 ((s1_10.toNat * 61) + s19_2.toNat) h2402 (by omega)) (ob (o_stB 732 s19_11 ((s1_10.toNat * 61) + s19_2.toNat) true (by have h1 := h2402; have h2 := h2401; simp only [Bool.and_eq_true, decide_eq_true_eq] at h1 h2; omega)) ob0))))))) (by kernel_rfl))
 ·exact fin2_ok (g := fun r => (Ex.nor, zkd p0 v1 v3 s1_10 s13_13 v1902 s19_2 s19_11 r)) g3 (zqe [(53, 13, 4, .q (.ptr 0 3 ((s1_10.toNat * 61)))), (53, 13, 5, .q (.ptr 0 3 (((s1_10.toNat * 61) + s19_2.toNat)))), (53, 13, 6, .q (xb (s19_11 ((s1_10.toNat * 61) + s19_2.toNat)))), (53, 13, 7, .q (xb false)), (53, 13, 9, .q (.ptr 0 9 (s19_2.toNat))), (53, 13, 10, .q (xb (((mfind zz (⟨s1_10, s13_13⟩ : zq) v3).getD (fun _ => false)) s19_2.toNat))), (53, 13, 12, .q (.ptr 0 3 ((s1_10.toNat * 61)))), (53, 13, 13, .q (.ptr 0 3 (((s1_10.toNat * 61) + s19_2.toNat)))), (53, 13, 14, .st ((aB 732 (upd s19_11 ((s1_10.toNat * 61) + s19_2.toNat) (((mfind zz (⟨s1_10, s13_13⟩ : zq) v3).getD (fun _ => false)) s19_2.toNat))).map .d))] [] (ob (o_aptr (m := 12) 0 3 0 61 (s1_10.toNat * 61) h2401 (by omega)) (ob (o_aptr (m := 61) 0 3 (s1_10.toNat * 61) 1 ((s1_10.toNat * 61) + s19_2.toNat) h2402 (by omega)) (ob (o_ldB 732 s19_11 ((s1_10.toNat * 61) + s19_2.toNat) (by have h1 := h2402; have h2 := h2401; simp only [Bool.and_eq_true, decide_eq_true_eq] at h1 h2; omega)) (ob (o_b h2403) (ob (o_aptr (m := 61) 0 9 0 1 s19_2.toNat h2402 (by omega)) (ob (o_ldB 61 ((mfind zz (⟨s1_10, s13_13⟩ : zq) v3).getD (fun _ => false)) s19_2.toNat (by have := h2402; simp only [Bool.and_eq_true, decide_eq_true_eq] at this; omega)) (ob (o_aptr (m := 12) 0 3 0 61 (s1_10.toNat * 61) h2401 (by omega)) (ob (o_aptr (m := 61) 0 3 (s1_10.toNat * 61) 1 ((s1_10.toNat * 61) + s19_2.toNat) h2402 (by omega)) (ob (o_stB 732 s19_11 ((s1_10.toNat * 61) + s19_2.toNat) (((mfind zz (⟨s1_10, s13_13⟩ : zq) v3).getD (fun _ => false)) s19_2.toNat) (by have h1 := h2402; have h2 := h2401; simp only [Bool.and_eq_true, decide_eq_true_eq] at h1 h2; omega)) ob0))))))))) (by kernel_rfl))
noncomputable def z2o (v1902 : zt0) (s19_2 : Int) : TM := [(0, (.yld 0)), (1, (.d (.pin (aB 61 v1902)))), (5, (.d (.agg (aB 61 v1902)))), (6, (xi s19_2)), (7, (xb true)), (3, (xi s19_2)), (4, (xb (v1902 s19_2.toNat))), (16, (xb false))]
noncomputable def zld (p0 : zd) (v1 v3 : zt2) (s1_10 s13_13 : Int) (v1902 : zt0) (s19_2 : Int) (s19_11 r : zt0) : St := ⟨(z2o v1902 s19_2), ⟨[], [[(zc 1 (zm p0)), (zc 2 (aB 732 (fun _ => false))), (zc 3 (aB 732 r)), (6, (.cells [(xi s1_10)])), (8, (.cells [(xi s1_10), (xi s13_13)])), (zc 9 (aB 61 ((mfind zz (⟨s1_10, s13_13⟩ : zq) v3).getD (fun _ => false))))]]⟩, [⟨(zvm p0 v1 v3 s1_10 s13_13 v1902), 0, rfP (blk TE 53 4), rfA (blk TE 53 4), rfB (blk TE 53 4), 53, .rdy⟩]⟩
noncomputable def zkp (v1902 : zt0) (s19_2 : Int) : TM := [(0, (.yld 0)), (1, (.d (.pin (aB 61 v1902)))), (5, (.d (.agg (aB 61 v1902)))), (6, (xi s19_2)), (7, (xb true)), (3, (xi s19_2)), (4, (xb (v1902 s19_2.toNat)))]
theorem zyj (k : Nat) (p0 : zd) (v1 v3 : zt2) (s1_10 s13_13 : Int) (v1902 : zt0) (s19_2 : Int) (s19_11 r : zt0) (h : zQd k p0 v1 v3 s1_10 s13_13 v1902 s19_2 s19_11 = some r) : ev TE 96 (rgn TE 96 3) ⟨(zkp v1902 s19_2), ⟨[], [[(zc 1 (zm p0)), (zc 2 (aB 732 (fun _ => false))), (zc 3 (aB 732 s19_11)), (6, (.cells [(xi s1_10)])), (8, (.cells [(xi s1_10), (xi s13_13)])), (zc 9 (aB 61 ((mfind zz (⟨s1_10, s13_13⟩ : zq) v3).getD (fun _ => false))))]]⟩, [⟨(zEm p0 k v1 v3 s1_10 s13_13 v1902), 0, rfP (blk TE 53 4), rfA (blk TE 53 4), rfB (blk TE 53 4), 53, .rdy⟩]⟩ = some (.nor, zld p0 v1 v3 s1_10 s13_13 v1902 s19_2 s19_11 r) := by
 unfold zQd at h
 refine cond_ok h (fun h2301 g1 => ?_) (fun h2301 g1 => ?_)
 ·refine bind_ok g1 (fun v2302 h2303 g2 => ?_)
  exact fin2_ok (g := fun r => (Ex.nor, zld p0 v1 v3 s1_10 s13_13 v1902 s19_2 s19_11 r)) g2 (zqe [(96, 3, 1, .q (xb true))] [(53, 1000013, (.nor, zkd p0 v1 v3 s1_10 s13_13 v1902 s19_2 s19_11 v2302))] (ob (o_b h2301) (ob (zpj k p0 v1 v3 s1_10 s13_13 v1902 s19_2 s19_11 _ h2303) ob0)) (by kernel_rfl))
 ·exact fin2_ok (g := fun r => (Ex.nor, zld p0 v1 v3 s1_10 s13_13 v1902 s19_2 s19_11 r)) g1 (zqe [(96, 3, 1, .q (xb false))] [] (ob (o_b h2301) ob0) (by kernel_rfl))
noncomputable def zLo (v1902 : zt0) (s19_2 : Int) : TM := [(0, (.yld 0)), (1, (.d (.pin (aB 61 v1902)))), (5, (.d (.agg (aB 61 v1902)))), (6, (xi s19_2))]
noncomputable def zCj (p0 : zd) (v1 v3 : zt2) (s1_10 s13_13 : Int) (v1902 : zt0) (s19_2 : Int) (s19_11 : zt0) : St := ⟨(zLo v1902 s19_2), ⟨[], [[(zc 1 (zm p0)), (zc 2 (aB 732 (fun _ => false))), (zc 3 (aB 732 s19_11)), (6, (.cells [(xi s1_10)])), (8, (.cells [(xi s1_10), (xi s13_13)])), (zc 9 (aB 61 ((mfind zz (⟨s1_10, s13_13⟩ : zq) v3).getD (fun _ => false))))]]⟩, [⟨(zvm p0 v1 v3 s1_10 s13_13 v1902), 0, rfP (blk TE 53 4), rfA (blk TE 53 4), rfB (blk TE 53 4), 53, .rdy⟩]⟩
noncomputable def zVo (v1902 : zt0) (r : zt12) : TM := [(0, (.yld 0)), (1, (.d (.pin (aB 61 v1902)))), (5, (.d (.agg (aB 61 v1902)))), (6, (xi r.1)), (7, (xb false))]
noncomputable def zre (p0 : zd) (v1 v3 : zt2) (s1_10 s13_13 : Int) (v1902 : zt0) (r : zt12) : St := ⟨(zVo v1902 r), ⟨[], [[(zc 1 (zm p0)), (zc 2 (aB 732 (fun _ => false))), (zc 3 (aB 732 r.2)), (6, (.cells [(xi s1_10)])), (8, (.cells [(xi s1_10), (xi s13_13)])), (zc 9 (aB 61 ((mfind zz (⟨s1_10, s13_13⟩ : zq) v3).getD (fun _ => false))))]]⟩, [⟨(zvm p0 v1 v3 s1_10 s13_13 v1902), 0, rfP (blk TE 53 4), rfA (blk TE 53 4), rfB (blk TE 53 4), 53, .rdy⟩]⟩
noncomputable def zVj (p0 : zd) (v1 v3 : zt2) (s1_10 s13_13 : Int) (v1902 : zt0) : (Int × (Nat → Bool)) → Ex × St := fun r => ((.exit 0), zre p0 v1 v3 s1_10 s13_13 v1902 r)
theorem zbj (k : Nat) (p0 : zd) (v1 v3 : zt2) (s1_10 s13_13 : Int) (v1902 : zt0) (s19_2 : Int) (s19_11 : zt0) (x : (Int × (Nat → Bool)) ⊕ (Int × (Nat → Bool))) (h : zZb k p0 v1 v3 s1_10 s13_13 v1902 s19_2 s19_11 = some x) : LoopOK TE 96 (blk TE 96 0) (fun s : (Int × (Nat → Bool)) => zCj p0 v1 v3 s1_10 s13_13 v1902 s.1 s.2) (zVj p0 v1 v3 s1_10 s13_13 v1902) (s19_2, s19_11) x := by
 unfold zZb at h
 refine cond_ok h (fun h2201 g1 => ?_) (fun h2201 g1 => ?_)
 ·refine guard_ok g1 (fun h2202 g2 => ?_)
  refine bind_ok g2 (fun v2203 h2204 g3 => ?_)
  exact zqn ((w64 (s19_2 + 1)), v2203) [] [(96, 1, 0, .q (xb true)), (96, 2, 1, .q (xb (v1902 s19_2.toNat)))] [(96, 1000003, (.nor, zld p0 v1 v3 s1_10 s13_13 v1902 s19_2 s19_11 v2203))] g3 (ob (o_b h2201) (ob (o_ixB 61 v1902 s19_2 h2202) (ob (zyj k p0 v1 v3 s1_10 s13_13 v1902 s19_2 s19_11 _ h2204) ob0))) (by kernel_rfl)
 ·exact zqo [(96, 1, 0, .q (xb false))] [] g1 (ob (o_b h2201) ob0) (by kernel_rfl)
noncomputable def z7o (p0 : zd) (v1 v3 : zt2) (s1_10 s13_13 : Int) : TM := [(0, (.d (.agg (zm p0)))), (zsp 1), (zsp 2), (zsp 3), (4, (.d (.mp (em (fun k => D.agg (zy k)) (fun v => D.agg ((aB 61) v)) v1)))), (5, (.d (.mp (em (fun k => D.agg (zy k)) (fun v => D.agg ((aB 61) v)) v3)))), (17, (xi p0.ShelfBook.Days)), (18, (xi s1_10)), (19, (xb true)), (zsp 6), (25, (xi (shl64 1 (p0.ShelfBook.Deliveries.1.length : Int)))), (26, (xi s13_13))]
noncomputable def zKj (p0 : zd) (v1 v3 : zt2) (s1_10 s13_13 : Int) (s13_22 : zt0) : St := ⟨(z7o p0 v1 v3 s1_10 s13_13), ⟨[(zc 1 (zm p0)), (zc 2 (aB 732 (fun _ => false))), (zc 3 (aB 732 s13_22)), (6, (.cells [(xi s1_10)]))], []⟩, []⟩
noncomputable def zZo (p0 : zd) (v1 v3 : zt2) (s1_10 : Int) (r : zt12) : TM := [(0, (.d (.agg (zm p0)))), (zsp 1), (zsp 2), (zsp 3), (4, (.d (.mp (em (fun k => D.agg (zy k)) (fun v => D.agg ((aB 61) v)) v1)))), (5, (.d (.mp (em (fun k => D.agg (zy k)) (fun v => D.agg ((aB 61) v)) v3)))), (17, (xi p0.ShelfBook.Days)), (18, (xi s1_10)), (19, (xb true)), (zsp 6), (25, (xi (shl64 1 (p0.ShelfBook.Deliveries.1.length : Int)))), (26, (xi r.1)), (27, (xb false))]
noncomputable def zAe (p0 : zd) (v1 v3 : zt2) (s1_10 : Int) (r : zt12) : St := ⟨(zZo p0 v1 v3 s1_10 r), ⟨[(zc 1 (zm p0)), (zc 2 (aB 732 (fun _ => false))), (zc 3 (aB 732 r.2)), (6, (.cells [(xi s1_10)]))], []⟩, []⟩
noncomputable def zMj (p0 : zd) (v1 v3 : zt2) (s1_10 : Int) : (Int × (Nat → Bool)) → Ex × St := fun r => ((.exit 2), zAe p0 v1 v3 s1_10 r)
theorem ztj (k : Nat) (p0 : zd) (v1 v3 : zt2) (s1_10 s13_13 : Int) (s13_22 : zt0) (x : (Int × (Nat → Bool)) ⊕ (Int × (Nat → Bool))) (h : z0b k p0 v1 v3 s1_10 s13_13 s13_22 = some x) : LoopOK TE 53 (blk TE 53 2) (fun s : (Int × (Nat → Bool)) => zKj p0 v1 v3 s1_10 s.1 s.2) (zMj p0 v1 v3 s1_10) (s13_13, s13_22) x := by
 unfold z0b at h
 refine cond_ok h (fun h1901 g1 => ?_) (fun h1901 g1 => ?_)
 ·refine bind_ok g1 (fun v1902 h1903 g2 => ?_)
  refine bind_ok g2 (fun v1904 h1905 g3 => ?_)
  exact zqn ((w64 (s13_13 + 1)), v1904.2) [] [(53, 7, 0, .q (xb true)), (53, 10, 2, .q (.d (.agg (aB 61 ((mfind zz (⟨s1_10, s13_13⟩ : zq) v3).getD (fun _ => false)))))), (53, 11, 2, .q (.d (.agg (aB 61 ((mfind zz (⟨s1_10, s13_13⟩ : zq) v1).getD (fun _ => false)))))), (53, 11, 3, .c (.fn 96 [] [(.pin (aB 61 v1902))]))] [(96, 0, (.nor, zre p0 v1 v3 s1_10 s13_13 v1902 v1904))] g3 (ob (o_b h1901) (ob (o_look (ek := (fun k => D.agg (zy k))) (evl := (fun v => D.agg ((aB 61) v))) (q := zz) (fun _ _ => rfl) (⟨s1_10, s13_13⟩ : zq) v3 (fun _ => false)) (ob (o_look (ek := (fun k => D.agg (zy k))) (evl := (fun v => D.agg ((aB 61) v))) (q := zz) (fun _ _ => rfl) (⟨s1_10, s13_13⟩ : zq) v1 (fun _ => false)) (ob (zjd k ((mfind zz (⟨s1_10, s13_13⟩ : zq) v1).getD (fun _ => false)) _ h1903) (ob (block_ok (id := 0) (r' := (.nor, zre p0 v1 v3 s1_10 s13_13 v1902 v1904)) (zU (zbj k p0 v1 v3 s1_10 s13_13 v1902) k _ _ h1905) rfl) ob0))))) (by kernel_rfl)
 ·exact zqo [(53, 7, 0, .q (xb false))] [] g1 (ob (o_b h1901) ob0) (by kernel_rfl)
noncomputable def zSo (p0 : zd) (v1 v3 : zt2) (s1_10 : Int) : TM := [(0, (.d (.agg (zm p0)))), (zsp 1), (zsp 2), (zsp 3), (4, (.d (.mp (em (fun k => D.agg (zy k)) (fun v => D.agg ((aB 61) v)) v1)))), (5, (.d (.mp (em (fun k => D.agg (zy k)) (fun v => D.agg ((aB 61) v)) v3)))), (17, (xi p0.ShelfBook.Days)), (18, (xi s1_10))]
noncomputable def zek (p0 : zd) (v1 v3 : zt2) (s1_10 : Int) (s1_19 : zt0) : St := ⟨(zSo p0 v1 v3 s1_10), ⟨[(zc 1 (zm p0)), (zc 2 (aB 732 (fun _ => false))), (zc 3 (aB 732 s1_19))], []⟩, []⟩
noncomputable def zyp (p0 : zd) (v1 v3 : zt2) (r : zt12) : TM := [(0, (.d (.agg (zm p0)))), (zsp 1), (zsp 2), (zsp 3), (4, (.d (.mp (em (fun k => D.agg (zy k)) (fun v => D.agg ((aB 61) v)) v1)))), (5, (.d (.mp (em (fun k => D.agg (zy k)) (fun v => D.agg ((aB 61) v)) v3)))), (17, (xi p0.ShelfBook.Days)), (18, (xi r.1)), (19, (xb false))]
noncomputable def zWe (p0 : zd) (v1 v3 : zt2) (r : zt12) : St := ⟨(zyp p0 v1 v3 r), ⟨[(zc 1 (zm p0)), (zc 2 (aB 732 (fun _ => false))), (zc 3 (aB 732 r.2))], []⟩, []⟩
noncomputable def zbk (p0 : zd) (v1 v3 : zt2) : (Int × (Nat → Bool)) → Ex × St := fun r => ((.exit 0), zWe p0 v1 v3 r)
theorem zNj (k : Nat) (p0 : zd) (v1 v3 : zt2) (s1_10 : Int) (s1_19 : zt0) (x : (Int × (Nat → Bool)) ⊕ (Int × (Nat → Bool))) (h : zfd k p0 v1 v3 s1_10 s1_19 = some x) : LoopOK TE 53 (blk TE 53 0) (fun s : (Int × (Nat → Bool)) => zek p0 v1 v3 s.1 s.2) (zbk p0 v1 v3) (s1_10, s1_19) x := by
 unfold zfd at h
 refine cond_ok h (fun h1301 g1 => ?_) (fun h1301 g1 => ?_)
 ·refine cond_ok g1 (fun h1302 g2 => ?_) (fun h1302 g2 => ?_)
  ·cases g2
  ·refine bind_ok g2 (fun v1303 h1304 g3 => ?_)
   exact zqn ((w64 (s1_10 + 1)), v1303.2) [] [(53, 4, 0, .q (xb true)), (53, 6, 3, .q (xi (p0.ShelfBook.Deliveries.1.length : Int))), (53, 6, 4, .q (xi (shl64 1 (p0.ShelfBook.Deliveries.1.length : Int))))] [(53, 2, (.nor, zAe p0 v1 v3 s1_10 v1303))] g3 (ob (o_b h1301) (ob (o_len zh p0.ShelfBook.Deliveries.1) (ob (o_shl (x := 1) h1302) (ob (block_ok (id := 2) (r' := (.nor, zAe p0 v1 v3 s1_10 v1303)) (zU (ztj k p0 v1 v3 s1_10) k _ _ h1304) rfl) ob0)))) (by kernel_rfl)
 ·exact zqo [(53, 4, 0, .q (xb false))] [] g1 (ob (o_b h1301) ob0) (by kernel_rfl)
theorem z8 (k : Nat) (p0 : zd) (r : zt0) (h : z7 k p0 = some r) : callP TE (ev TE) 53 [(.agg (zm p0))] = some (zvh r) := by
 unfold z7 at h
 refine bind_ok h (fun v1 h2 g1 => ?_)
 refine bind_ok g1 (fun v3 h4 g2 => ?_)
 refine bind_ok g2 (fun v5 h6 g3 => ?_)
 exact fin_ok (g := zvh) g3 (zqc [(53, 2, 1, .c (.mp (em (fun k => D.agg (zy k)) (fun v => D.agg ((aB 61) v)) v1))), (53, 2, 3, .c (.mp (em (fun k => D.agg (zy k)) (fun v => D.agg ((aB 61) v)) v3)))] [(53, 0, (.nor, zWe p0 v1 v3 v5))] (ob (zUf k p0 _ h2) (ob (zml k p0 _ h4) (ob (block_ok (id := 0) (r' := (.nor, zWe p0 v1 v3 v5)) (zU (zNj k p0 v1 v3) k _ _ h6) rfl) ob0))) (by kernel_rfl))
theorem z7j (k : Nat) (p0 : zj) (r : Int) (h : zMe k p0 = some r) : callP TE (ev TE) 84 [(.agg [(di p0.Low), (di p0.High)])] = some (z7g r) := by
 unfold zMe at h
 exact fin_ok (g := z7g) h (zqc [] [] ob0 (by kernel_rfl))
noncomputable def z6o (s1_0 : Int) (p1 : (SL Int)) (s1_5 : Int) : TM := [(0, (xi s1_0)), (1, (.d (dl eI p1.1 p1.2))), (4, (xi 0)), (7, (.d (dl eI p1.1 p1.2))), (8, (xi (p1.1.length : Int))), (9, (xi s1_5))]
noncomputable def zWj (p1 : (SL Int)) (s1_0 s1_5 : Int) : St := ⟨(z6o s1_0 p1 s1_5), ⟨[], []⟩, []⟩
noncomputable def zDp (r : (Int × Int)) (p1 : (SL Int)) : TM := [(0, (xi r.1)), (1, (.d (dl eI p1.1 p1.2))), (4, (xi 0)), (7, (.d (dl eI p1.1 p1.2))), (8, (xi (p1.1.length : Int))), (9, (xi r.2)), (10, (xb false))]
noncomputable def zse (p1 : (SL Int)) (r : (Int × Int)) : St := ⟨(zDp r p1), ⟨[], []⟩, []⟩
noncomputable def z1j (p1 : (SL Int)) : (Int × Int) → Ex × St := fun r => ((.exit 0), zse p1 r)
theorem zsj (k : Nat) (p1 : (SL Int)) (s1_0 s1_5 : Int) (x : (Int × Int) ⊕ (Int × Int)) (h : zub k p1 s1_0 s1_5 = some x) : LoopOK TE 65 (blk TE 65 0) (fun s : (Int × Int) => zWj p1 s.1 s.2) (z1j p1) (s1_0, s1_5) x := by
 unfold zub at h
 refine cond_ok h (fun h201 g1 => ?_) (fun h201 g1 => ?_)
 ·refine bind_ok g1 (fun v202 h203 g2 => ?_)
  exact zqn ((if v202 > s1_0 then v202 else s1_0), (w64 (s1_5 + 1))) [] [(65, 2, 0, .q (xb true)), (65, 3, 0, .q (.d (.pin [(di v202)])))] [] g2 (ob (o_b h201) (ob (o_ia (e := eI) 1 h203 rfl) ob0)) (by kernel_rfl)
 ·exact zqo [(65, 2, 0, .q (xb false))] [] g1 (ob (o_b h201) ob0) (by kernel_rfl)
theorem zrf (k : Nat) (p0 : Int) (p1 : (SL Int)) (r : Int) (h : z5b k p0 p1 = some r) : callP TE (ev TE) 65 [(di p0), (dl eI p1.1 p1.2)] = some (zrh r) := by
 unfold z5b at h
 refine bind_ok h (fun v1 h2 g1 => ?_)
 exact fin_ok (g := zrh) g1 (zqc [(65, 1, 1, .q (xi (p1.1.length : Int)))] [(65, 0, (.nor, zse p1 v1))] (ob (o_len eI p1.1) (ob (block_ok (id := 0) (r' := (.nor, zse p1 v1)) (zU (zsj k p1) k _ _ h2) rfl) ob0)) (by kernel_rfl))
theorem zrk (k : Nat) (p0 : zj) (r : Int) (h : zOe k p0 = some r) : callP TE (ev TE) 85 [(.agg [(di p0.Low), (di p0.High)])] = some (z5g r) := by
 unfold zOe at h
 exact fin_ok (g := z5g) h (zqc [] [] ob0 (by kernel_rfl))
noncomputable def zcp (v1 : zt0) (s1_2 : Int) : TM := [(0, (.yld 0)), (1, (.d (.pin (aB 61 v1)))), (5, (.d (.agg (aB 61 v1)))), (6, (xi s1_2)), (7, (xb true)), (3, (xi s1_2)), (4, (xb (v1 s1_2.toNat))), (16, (xb false))]
noncomputable def zrm (p0 v1 : zt0) : TM := [(0, (.d (.agg (aB 61 p0)))), (zsp 1), (zsp 2), (zsp 3), (zsp 4), (zsp 5), (11, (.d (.fn 96 [] [(.pin (aB 61 v1))])))]
noncomputable def zAd (p0 v1 : zt0) (s1_2 s1_6 s1_7 : Int) (r : (Int × Int)) : St := ⟨(zcp v1 s1_2), ⟨[], [[(zc 1 (aB 61 p0)), (2, (.cells [(xi 0), (xi 0)])), (3, (.cells [(xi r.1), (xi r.2)])), (4, (.cells [(.d (.fn 84 [] []))])), (5, (.cells [(.d (.fn 85 [] []))]))]]⟩, [⟨(zrm p0 v1), 0, rfP (blk TE 54 0), rfA (blk TE 54 0), rfB (blk TE 54 0), 54, .rdy⟩]⟩
noncomputable def zXo (v1 : zt0) (s1_2 : Int) : TM := [(0, (.yld 0)), (1, (.d (.pin (aB 61 v1)))), (5, (.d (.agg (aB 61 v1)))), (6, (xi s1_2)), (7, (xb true)), (3, (xi s1_2)), (4, (xb (v1 s1_2.toNat)))]
theorem zOj (k : Nat) (p0 v1 : zt0) (s1_2 s1_6 s1_7 : Int) (r : (Int × Int)) (h : zle k p0 v1 s1_2 s1_6 s1_7 = some r) : ev TE 96 (rgn TE 96 3) ⟨(zXo v1 s1_2), ⟨[], [[(zc 1 (aB 61 p0)), (2, (.cells [(xi 0), (xi 0)])), (3, (.cells [(xi s1_6), (xi s1_7)])), (4, (.cells [(.d (.fn 84 [] []))])), (5, (.cells [(.d (.fn 85 [] []))]))]]⟩, [⟨(zrm p0 v1), 0, rfP (blk TE 54 0), rfA (blk TE 54 0), rfB (blk TE 54 0), 54, .rdy⟩]⟩ = some (.nor, zAd p0 v1 s1_2 s1_6 s1_7 r) := by
 unfold zle at h
 refine cond_ok h (fun h401 g1 => ?_) (fun h401 g1 => ?_)
 ·refine bind_ok g1 (fun v402 h403 g2 => ?_)
  refine bind_ok g2 (fun v404 h405 g3 => ?_)
  refine bind_ok g3 (fun v406 h407 g4 => ?_)
  refine bind_ok g4 (fun v408 h409 g5 => ?_)
  exact fin2_ok (g := fun r => (Ex.nor, zAd p0 v1 s1_2 s1_6 s1_7 r)) g5 (zqe [(96, 3, 1, .q (xb true)), (54, 5, 3, .c (di v402)), (54, 5, 8, .c (di v404)), (54, 5, 13, .c (di v406)), (54, 5, 16, .c (di v408))] [] (ob (o_b h401) (ob (z7j k (⟨s1_6, s1_7⟩ : zj) _ h403) (ob (zrf k (w64 (0 - v402)) ([(w64 (0 - s1_2))], .ex) _ h405) (ob (zrk k (⟨s1_6, s1_7⟩ : zj) _ h407) (ob (zrf k v406 ([s1_2], .ex) _ h409) ob0))))) (by kernel_rfl))
 ·exact fin2_ok (g := fun r => (Ex.nor, zAd p0 v1 s1_2 s1_6 s1_7 r)) g1 (zqe [(96, 3, 1, .q (xb false))] [] (ob (o_b h401) ob0) (by kernel_rfl))
noncomputable def zDn (v1 : zt0) (s1_2 : Int) : TM := [(0, (.yld 0)), (1, (.d (.pin (aB 61 v1)))), (5, (.d (.agg (aB 61 v1)))), (6, (xi s1_2))]
noncomputable def zck (p0 v1 : zt0) (s1_2 s1_6 s1_7 : Int) : St := ⟨(zDn v1 s1_2), ⟨[], [[(zc 1 (aB 61 p0)), (2, (.cells [(xi 0), (xi 0)])), (3, (.cells [(xi s1_6), (xi s1_7)])), (4, (.cells [(.d (.fn 84 [] []))])), (5, (.cells [(.d (.fn 85 [] []))]))]]⟩, [⟨(zrm p0 v1), 0, rfP (blk TE 54 0), rfA (blk TE 54 0), rfB (blk TE 54 0), 54, .rdy⟩]⟩
noncomputable def z0n (v1 : zt0) (r : (Int × Int × Int)) : TM := [(0, (.yld 0)), (1, (.d (.pin (aB 61 v1)))), (5, (.d (.agg (aB 61 v1)))), (6, (xi r.1)), (7, (xb false))]
noncomputable def zXe (p0 v1 : zt0) (r : (Int × Int × Int)) : St := ⟨(z0n v1 r), ⟨[], [[(zc 1 (aB 61 p0)), (2, (.cells [(xi 0), (xi 0)])), (3, (.cells [(xi r.2.1), (xi r.2.2)])), (4, (.cells [(.d (.fn 84 [] []))])), (5, (.cells [(.d (.fn 85 [] []))]))]]⟩, [⟨(zrm p0 v1), 0, rfP (blk TE 54 0), rfA (blk TE 54 0), rfB (blk TE 54 0), 54, .rdy⟩]⟩
noncomputable def zgk (p0 v1 : zt0) : (Int × Int × Int) → Ex × St := fun r => ((.exit 0), zXe p0 v1 r)
theorem zEj (k : Nat) (p0 v1 : zt0) (s1_2 s1_6 s1_7 : Int) (x : (Int × Int × Int) ⊕ (Int × Int × Int)) (h : z4c k p0 v1 s1_2 s1_6 s1_7 = some x) : LoopOK TE 96 (blk TE 96 0) (fun s : (Int × Int × Int) => zck p0 v1 s.1 s.2.1 s.2.2) (zgk p0 v1) (s1_2, s1_6, s1_7) x := by
 unfold z4c at h
 refine cond_ok h (fun h301 g1 => ?_) (fun h301 g1 => ?_)
 ·refine guard_ok g1 (fun h302 g2 => ?_)
  refine bind_ok g2 (fun v303 h304 g3 => ?_)
  exact zqn ((w64 (s1_2 + 1)), v303.1, v303.2) [] [(96, 1, 0, .q (xb true)), (96, 2, 1, .q (xb (v1 s1_2.toNat)))] [(96, 1000003, (.nor, zAd p0 v1 s1_2 s1_6 s1_7 v303))] g3 (ob (o_b h301) (ob (o_ixB 61 v1 s1_2 h302) (ob (zOj k p0 v1 s1_2 s1_6 s1_7 _ h304) ob0))) (by kernel_rfl)
 ·exact zqo [(96, 1, 0, .q (xb false))] [] g1 (ob (o_b h301) ob0) (by kernel_rfl)
theorem zbd (k : Nat) (p0 : zt0) (r : zj) (h : zrb k p0 = some r) : callP TE (ev TE) 54 [(.agg (aB 61 p0))] = some (zwh r) := by
 unfold zrb at h
 refine bind_ok h (fun v1 h2 g1 => ?_)
 refine bind_ok g1 (fun v3 h4 g2 => ?_)
 exact fin_ok (g := zwh) g2 (zqc [(54, 3, 1, .c (.fn 96 [] [(.pin (aB 61 v1))]))] [(96, 0, (.nor, zXe p0 v1 v3))] (ob (zjd k p0 _ h2) (ob (block_ok (id := 0) (r' := (.nor, zXe p0 v1 v3)) (zxm (zEj k p0 v1) k _ _ h4) rfl) ob0)) (by kernel_rfl))
theorem zgb (k : Nat) (p0 : zb) (p1 p2 : Int) (r : zt7) (h : z4g k p0 p1 p2 = some r) : callP TE (ev TE) 16 [(.agg (za p0)), (di p1), (di p2)] = some (zmk r) := by
 unfold z4g at h
 refine bind_ok h (fun v1 h2 g1 => ?_)
 refine bind_ok g1 (fun v3 h4 g2 => ?_)
 refine cond_ok g2 (fun h5 g3 => ?_) (fun h5 g3 => ?_)
 ·exact fin_ok (g := zmk) g3 (zqc [(16, 1, 4, .c (db v1)), (16, 1, 5, .c (di v3)), (16, 2, 1, .q (xb true))] [] (ob (z9c k p0 p1 p2 _ h2) (ob (zdb k p0 v1 _ h4) (ob (o_b h5) ob0))) (by kernel_rfl))
 ·refine bind_ok g3 (fun v6 h7 g4 => ?_)
  refine guard_ok g4 (fun h8 g5 => ?_)
  refine bind_ok g5 (fun v9 h10 g6 => ?_)
  exact fin_ok (g := zmk) g6 (zqc [(16, 1, 4, .c (db v1)), (16, 1, 5, .c (di v3)), (16, 2, 1, .q (xb false)), (16, 4, 3, .c (.agg (aB 732 v6))), (16, 4, 5, .q (.d (.agg (aB 61 (fun k => v6 (p2.toNat * 61 + k)))))), (16, 4, 6, .c (.agg [(di v9.Low), (di v9.High)]))] [] (ob (z9c k p0 p1 p2 _ h2) (ob (zdb k p0 v1 _ h4) (ob (o_b h5) (ob (z8 k (⟨p0, p1, 0⟩ : zd) _ h7) (ob (o_ixaB 12 61 v6 p2 h8) (ob (zbd k (fun k => v6 (p2.toNat * 61 + k)) _ h10) ob0)))))) (by kernel_rfl))
theorem zE (k : Nat) (p0 p1 p2 : Int) (r : Bool) (h : zP k p0 p1 p2 = some r) : callP TE (ev TE) 62 [(di p0), (di p1), (di p2)] = some (zAf r) := by
 unfold zP at h
 refine cond_ok h (fun h1 g1 => ?_) (fun h1 g1 => ?_)
 ·exact fin_ok (g := zAf) g1 (zqc [(62, 1, 3, .q (xb true))] [] (ob (o_b h1) ob0) (by kernel_rfl))
 ·exact fin_ok (g := zAf) g1 (zqc [(62, 1, 3, .q (xb false))] [] (ob (o_b h1) ob0) (by kernel_rfl))
theorem zT (k : Nat) (p0 : zb) (p1 : Int) (r : Bool) (h : zhb k p0 p1 = some r) : callP TE (ev TE) 63 [(.agg (za p0)), (di p1)] = some (zpg r) := by
 unfold zhb at h
 refine bind_ok h (fun v1 h2 g1 => ?_)
 exact fin_ok (g := zpg) g1 (zqc [(63, 1, 3, .q (xi (p0.Shelves.1.length : Int))), (63, 1, 5, .c (db v1))] [] (ob (o_len zk p0.Shelves.1) (ob (zE k p1 0 (w64 ((p0.Shelves.1.length : Int) - 1)) _ h2) ob0)) (by kernel_rfl))
theorem zJb (k : Nat) (p0 : zb) (p1 p2 : Int) (r : Bool) (h : zLb k p0 p1 p2 = some r) : callP TE (ev TE) 56 [(.agg (za p0)), (di p1), (di p2)] = some (zyf r) := by
 unfold zLb at h
 refine bind_ok h (fun v1 h2 g1 => ?_)
 refine cond_ok g1 (fun h3 g2 => ?_) (fun h3 g2 => ?_)
 ·refine bind_ok g2 (fun v4 h5 g3 => ?_)
  exact fin_ok (g := zyf) g3 (zqc [(56, 1, 2, .c (db v1)), (56, 1, 3, .q (xb true)), (56, 1, 8, .c (db v4))] [] (ob (zT k p0 p1 _ h2) (ob (o_b h3) (ob (zE k p2 0 (w64 (p0.Days - 1)) _ h5) ob0))) (by kernel_rfl))
 ·exact fin_ok (g := zyf) g2 (zqc [(56, 1, 2, .c (db v1)), (56, 1, 3, .q (xb false))] [] (ob (zT k p0 p1 _ h2) (ob (o_b h3) ob0)) (by kernel_rfl))
theorem zic (k : Nat) (p0 : zj) (p1 p2 : Int) (r : Bool) (h : zmb k p0 p1 p2 = some r) : callP TE (ev TE) 43 [(.agg [(di p0.Low), (di p0.High)]), (di p1), (di p2)] = some (zzd r) := by
 unfold zmb at h
 refine cond_ok h (fun h1 g1 => ?_) (fun h1 g1 => ?_)
 ·refine cond_ok g1 (fun h2 g2 => ?_) (fun h2 g2 => ?_)
  ·exact fin_ok (g := zzd) g2 (zqc [(43, 1, 4, .q (xb true)), (43, 1, 11, .q (xb true))] [] (ob (o_b h1) (ob (o_b h2) ob0)) (by kernel_rfl))
  ·exact fin_ok (g := zzd) g2 (zqc [(43, 1, 4, .q (xb true)), (43, 1, 11, .q (xb false))] [] (ob (o_b h1) (ob (o_b h2) ob0)) (by kernel_rfl))
 ·exact fin_ok (g := zzd) g1 (zqc [(43, 1, 4, .q (xb false))] [] (ob (o_b h1) ob0) (by kernel_rfl))
noncomputable def zdm (p0 : zb) (r : Bool) : TM := [(0, (.d (.agg (za p0)))), (zsp 1), (2, (xi 0)), (3, (xb r))]
noncomputable def zX (p0 : zb) (r : Bool) : St := ⟨(zdm p0 r), ⟨[(zc 1 (za p0))], []⟩, []⟩
theorem z2f (k : Nat) (p0 : zb) (r : Bool) (h : zxc k p0 = some r) : ev TE 19 (rgn TE 19 1) ⟨[(0, (.d (.agg (za p0)))), (zsp 1), (2, (xi 0))], ⟨[(zc 1 (za p0))], []⟩, []⟩ = some (.nor, zX p0 r) := by
 unfold zxc at h
 refine bind_ok h (fun v201 h202 g1 => ?_)
 refine cond_ok g1 (fun h203 g2 => ?_) (fun h203 g2 => ?_)
 ·refine bind_ok g2 (fun v204 h205 g3 => ?_)
  refine cond_ok g3 (fun h206 g4 => ?_) (fun h206 g4 => ?_)
  ·refine cond_ok g4 (fun h207 g5 => ?_) (fun h207 g5 => ?_)
   ·refine cond_ok g5 (fun h208 g6 => ?_) (fun h208 g6 => ?_)
    ·exact fin2_ok (g := fun r => (Ex.nor, zX p0 r)) g6 (zqe [(19, 1, 2, .c (db v201)), (19, 1, 3, .q (xb true)), (19, 1, 6, .q (xi (p0.Shelves.1.length : Int))), (19, 1, 7, .c (db v204)), (19, 1, 9, .q (xb true)), (19, 1, 12, .q (xi (p0.Moves.1.length : Int))), (19, 1, 15, .q (xb true)), (19, 1, 18, .q (xi (p0.Deliveries.1.length : Int))), (19, 1, 21, .q (xb true)), (19, 1, 24, .q (xi (p0.Counts.1.length : Int)))] [] (ob (zE k p0.Days 1 12 _ h202) (ob (o_b h203) (ob (o_len zk p0.Shelves.1) (ob (zE k (p0.Shelves.1.length : Int) 1 4 _ h205) (ob (o_b h206) (ob (o_len zl p0.Moves.1) (ob (o_b h207) (ob (o_len zh p0.Deliveries.1) (ob (o_b h208) (ob (o_len zi p0.Counts.1) ob0)))))))))) (by kernel_rfl))
    ·exact fin2_ok (g := fun r => (Ex.nor, zX p0 r)) g6 (zqe [(19, 1, 2, .c (db v201)), (19, 1, 3, .q (xb true)), (19, 1, 6, .q (xi (p0.Shelves.1.length : Int))), (19, 1, 7, .c (db v204)), (19, 1, 9, .q (xb true)), (19, 1, 12, .q (xi (p0.Moves.1.length : Int))), (19, 1, 15, .q (xb true)), (19, 1, 18, .q (xi (p0.Deliveries.1.length : Int))), (19, 1, 21, .q (xb false))] [] (ob (zE k p0.Days 1 12 _ h202) (ob (o_b h203) (ob (o_len zk p0.Shelves.1) (ob (zE k (p0.Shelves.1.length : Int) 1 4 _ h205) (ob (o_b h206) (ob (o_len zl p0.Moves.1) (ob (o_b h207) (ob (o_len zh p0.Deliveries.1) (ob (o_b h208) ob0))))))))) (by kernel_rfl))
   ·exact fin2_ok (g := fun r => (Ex.nor, zX p0 r)) g5 (zqe [(19, 1, 2, .c (db v201)), (19, 1, 3, .q (xb true)), (19, 1, 6, .q (xi (p0.Shelves.1.length : Int))), (19, 1, 7, .c (db v204)), (19, 1, 9, .q (xb true)), (19, 1, 12, .q (xi (p0.Moves.1.length : Int))), (19, 1, 15, .q (xb false))] [] (ob (zE k p0.Days 1 12 _ h202) (ob (o_b h203) (ob (o_len zk p0.Shelves.1) (ob (zE k (p0.Shelves.1.length : Int) 1 4 _ h205) (ob (o_b h206) (ob (o_len zl p0.Moves.1) (ob (o_b h207) ob0))))))) (by kernel_rfl))
  ·exact fin2_ok (g := fun r => (Ex.nor, zX p0 r)) g4 (zqe [(19, 1, 2, .c (db v201)), (19, 1, 3, .q (xb true)), (19, 1, 6, .q (xi (p0.Shelves.1.length : Int))), (19, 1, 7, .c (db v204)), (19, 1, 9, .q (xb false))] [] (ob (zE k p0.Days 1 12 _ h202) (ob (o_b h203) (ob (o_len zk p0.Shelves.1) (ob (zE k (p0.Shelves.1.length : Int) 1 4 _ h205) (ob (o_b h206) ob0))))) (by kernel_rfl))
 ·exact fin2_ok (g := fun r => (Ex.nor, zX p0 r)) g2 (zqe [(19, 1, 2, .c (db v201)), (19, 1, 3, .q (xb false))] [] (ob (zE k p0.Days 1 12 _ h202) (ob (o_b h203) ob0)) (by kernel_rfl))
noncomputable def z3m (p0 : zb) (s2_6 : Bool) (s2_7 : Int) (r : Bool) : TM := [(0, (.d (.agg (za p0)))), (zsp 1), (2, (xi 0)), (3, (xb s2_6)), (4, (xi s2_7)), (46, (xb r))]
noncomputable def z2b (p0 : zb) (s2_6 : Bool) (s2_7 : Int) (r : Bool) : St := ⟨(z3m p0 s2_6 s2_7 r), ⟨[(zc 1 (za p0))], []⟩, []⟩
noncomputable def ztm (p0 : zb) (s2_6 : Bool) (s2_7 : Int) : TM := [(0, (.d (.agg (za p0)))), (zsp 1), (2, (xi 0)), (3, (xb s2_6)), (4, (xi s2_7))]
theorem z3f (k : Nat) (p0 : zb) (s2_6 : Bool) (s2_7 : Int) (r : Bool) (h : zpb k p0 s2_6 s2_7 = some r) : ev TE 19 (rgn TE 19 3) ⟨(ztm p0 s2_6 s2_7), ⟨[(zc 1 (za p0))], []⟩, []⟩ = some (.nor, z2b p0 s2_6 s2_7 r) := by
 unfold zpb at h
 refine cond_ok h (fun h601 g1 => ?_) (fun h601 g1 => ?_)
 ·exact fin2_ok (g := fun r => (Ex.nor, z2b p0 s2_6 s2_7 r)) g1 (zqe [(19, 3, 1, .q (xb true)), (19, 3, 5, .q (xi (p0.Shelves.1.length : Int)))] [] (ob (o_b h601) (ob (o_len zk p0.Shelves.1) ob0)) (by kernel_rfl))
 ·exact fin2_ok (g := fun r => (Ex.nor, z2b p0 s2_6 s2_7 r)) g1 (zqe [(19, 3, 1, .q (xb false))] [] (ob (o_b h601) ob0) (by kernel_rfl))
noncomputable def zed (p0 : zb) (s2_6 : Bool) (s2_7 : Int) (v504 : zJ) (r : Bool) : St := ⟨(zdm p0 r ++ [(4, (xi s2_7)), (46, (xb true)), (zsp 5)]), ⟨[(zc 1 (za p0)), (zc 5 (zk v504))], []⟩, []⟩
theorem zUi (k : Nat) (p0 : zb) (s2_6 : Bool) (s2_7 : Int) (v504 : zJ) (r : Bool) (h : zzc k p0 s2_6 s2_7 v504 = some r) : ev TE 19 (rgn TE 19 6) ⟨(ztm p0 s2_6 s2_7 ++ [(46, (xb true)), (zsp 5)]), ⟨[(zc 1 (za p0)), (zc 5 (zk v504))], []⟩, []⟩ = some (.nor, zed p0 s2_6 s2_7 v504 r) := by
 unfold zzc at h
 refine bind_ok h (fun v701 h702 g1 => ?_)
 refine cond_ok g1 (fun h703 g2 => ?_) (fun h703 g2 => ?_)
 ·refine bind_ok g2 (fun v704 h705 g3 => ?_)
  exact fin2_ok (g := fun r => (Ex.nor, zed p0 s2_6 s2_7 v504 r)) g3 (zqe [(19, 6, 2, .c (db v701)), (19, 6, 3, .q (xb true)), (19, 6, 8, .c (db v704))] [] (ob (zE k v504.Room 1 60 _ h702) (ob (o_b h703) (ob (zic k v504.Begin 0 v504.Room _ h705) ob0))) (by kernel_rfl))
 ·exact fin2_ok (g := fun r => (Ex.nor, zed p0 s2_6 s2_7 v504 r)) g2 (zqe [(19, 6, 2, .c (db v701)), (19, 6, 3, .q (xb false))] [] (ob (zE k v504.Room 1 60 _ h702) (ob (o_b h703) ob0)) (by kernel_rfl))
noncomputable def z7i (p0 : zb) (s2_6 : Bool) (s2_7 : Int) : St := ⟨(ztm p0 s2_6 s2_7), ⟨[(zc 1 (za p0))], []⟩, []⟩
noncomputable def zKn (p0 : zb) (r : zt1) : TM := [(0, (.d (.agg (za p0)))), (zsp 1), (2, (xi 0)), (3, (xb r.1)), (4, (xi r.2)), (46, (xb false))]
noncomputable def zUb (p0 : zb) (r : zt1) : St := ⟨(zKn p0 r), ⟨[(zc 1 (za p0))], []⟩, []⟩
noncomputable def zqj (p0 : zb) : (Bool × Int) → Ex × St := fun r => ((.exit 0), zUb p0 r)
theorem zYf (k : Nat) (p0 : zb) (s2_6 : Bool) (s2_7 : Int) (x : (Bool × Int) ⊕ (Bool × Int)) (h : zbb k p0 s2_6 s2_7 = some x) : LoopOK TE 19 (blk TE 19 0) (fun s : (Bool × Int) => z7i p0 s.1 s.2) (zqj p0) (s2_6, s2_7) x := by
 unfold zbb at h
 refine bind_ok h (fun v501 h502 g1 => ?_)
 refine cond_ok g1 (fun h503 g2 => ?_) (fun h503 g2 => ?_)
 ·subst h503
  refine bind_ok g2 (fun v504 h505 g3 => ?_)
  refine bind_ok g3 (fun v506 h507 g4 => ?_)
  exact zqn (v506, (w64 (s2_7 + 1))) [] [(19, 5, 3, .q (.d (.pin (zk v504))))] [(19, 1000003, (.nor, z2b p0 s2_6 s2_7 true)), (19, 1000006, (.nor, zed p0 s2_6 s2_7 v504 v506))] g4 (ob (z3f k p0 s2_6 s2_7 _ h502) (ob (o_ia (e := zk) 3 h505 rfl) (ob (zUi k p0 s2_6 s2_7 v504 _ h507) ob0))) (by kernel_rfl)
 ·subst h503
  exact zqo [] [(19, 1000003, (.nor, z2b p0 s2_6 s2_7 false))] g2 (ob (z3f k p0 s2_6 s2_7 _ h502) ob0) (by kernel_rfl)
noncomputable def zVm (p0 : zb) (s7_6 : Bool) (v3 : zt1) (s7_9 : Int) (r : Bool) : TM := [(0, (.d (.agg (za p0)))), (zsp 1), (2, (xi 0)), (3, (xb s7_6)), (4, (xi v3.2)), (46, (xb false)), (6, (xi s7_9)), (71, (xb r))]
noncomputable def zVb (p0 : zb) (v3 : zt1) (s7_6 : Bool) (s7_9 : Int) (r : Bool) : St := ⟨(zVm p0 s7_6 v3 s7_9 r), ⟨[(zc 1 (za p0))], []⟩, []⟩
noncomputable def zom (p0 : zb) (s7_6 : Bool) (v3 : zt1) (s7_9 : Int) : TM := [(0, (.d (.agg (za p0)))), (zsp 1), (2, (xi 0)), (3, (xb s7_6)), (4, (xi v3.2)), (46, (xb false)), (6, (xi s7_9))]
theorem zJf (k : Nat) (p0 : zb) (v3 : zt1) (s7_6 : Bool) (s7_9 : Int) (r : Bool) (h : zjb k p0 v3 s7_6 s7_9 = some r) : ev TE 19 (rgn TE 19 8) ⟨(zom p0 s7_6 v3 s7_9), ⟨[(zc 1 (za p0))], []⟩, []⟩ = some (.nor, zVb p0 v3 s7_6 s7_9 r) := by
 unfold zjb at h
 refine cond_ok h (fun h1101 g1 => ?_) (fun h1101 g1 => ?_)
 ·exact fin2_ok (g := fun r => (Ex.nor, zVb p0 v3 s7_6 s7_9 r)) g1 (zqe [(19, 8, 1, .q (xb true)), (19, 8, 5, .q (xi (p0.Moves.1.length : Int)))] [] (ob (o_b h1101) (ob (o_len zl p0.Moves.1) ob0)) (by kernel_rfl))
 ·exact fin2_ok (g := fun r => (Ex.nor, zVb p0 v3 s7_6 s7_9 r)) g1 (zqe [(19, 8, 1, .q (xb false))] [] (ob (o_b h1101) ob0) (by kernel_rfl))
noncomputable def zco (p0 : zb) (r : Bool) (v3 : zt1) (s7_9 : Int) : TM := zdm p0 r ++ [(4, (xi v3.2)), (46, (xb false)), (6, (xi s7_9)), (71, (xb true)), (zsp 7)]
noncomputable def zSb (p0 : zb) (v3 : zt1) (s7_6 : Bool) (s7_9 : Int) (v1004 : zC) (r : Bool) : St := ⟨(zco p0 r v3 s7_9), ⟨[(zc 1 (za p0)), (zc 7 (zl v1004))], []⟩, []⟩
theorem zui (k : Nat) (p0 : zb) (v3 : zt1) (s7_6 : Bool) (s7_9 : Int) (v1004 : zC) (r : Bool) (h : znc k p0 v3 s7_6 s7_9 v1004 = some r) : ev TE 19 (rgn TE 19 11) ⟨(zom p0 s7_6 v3 s7_9 ++ [(71, (xb true)), (zsp 7)]), ⟨[(zc 1 (za p0)), (zc 7 (zl v1004))], []⟩, []⟩ = some (.nor, zSb p0 v3 s7_6 s7_9 v1004 r) := by
 unfold znc at h
 refine bind_ok h (fun v1201 h1202 g1 => ?_)
 refine cond_ok g1 (fun h1203 g2 => ?_) (fun h1203 g2 => ?_)
 ·refine bind_ok g2 (fun v1204 h1205 g3 => ?_)
  refine cond_ok g3 (fun h1206 g4 => ?_) (fun h1206 g4 => ?_)
  ·refine bind_ok g4 (fun v1207 h1208 g5 => ?_)
   exact fin2_ok (g := fun r => (Ex.nor, zSb p0 v3 s7_6 s7_9 v1004 r)) g5 (zqe [(19, 11, 5, .c (db v1201)), (19, 11, 6, .q (xb true)), (19, 11, 10, .c (db v1204)), (19, 11, 12, .q (xb true)), (19, 11, 15, .c (db v1207))] [] (ob (zE k v1004.Day 0 (w64 (p0.Days - 1)) _ h1202) (ob (o_b h1203) (ob (zT k p0 v1004.Shelf _ h1205) (ob (o_b h1206) (ob (zic k v1004.By 0 60 _ h1208) ob0))))) (by kernel_rfl))
  ·exact fin2_ok (g := fun r => (Ex.nor, zSb p0 v3 s7_6 s7_9 v1004 r)) g4 (zqe [(19, 11, 5, .c (db v1201)), (19, 11, 6, .q (xb true)), (19, 11, 10, .c (db v1204)), (19, 11, 12, .q (xb false))] [] (ob (zE k v1004.Day 0 (w64 (p0.Days - 1)) _ h1202) (ob (o_b h1203) (ob (zT k p0 v1004.Shelf _ h1205) (ob (o_b h1206) ob0)))) (by kernel_rfl))
 ·exact fin2_ok (g := fun r => (Ex.nor, zSb p0 v3 s7_6 s7_9 v1004 r)) g2 (zqe [(19, 11, 5, .c (db v1201)), (19, 11, 6, .q (xb false))] [] (ob (zE k v1004.Day 0 (w64 (p0.Days - 1)) _ h1202) (ob (o_b h1203) ob0)) (by kernel_rfl))
noncomputable def z6i (p0 : zb) (v3 : zt1) (s7_6 : Bool) (s7_9 : Int) : St := ⟨(zom p0 s7_6 v3 s7_9), ⟨[(zc 1 (za p0))], []⟩, []⟩
noncomputable def zkn (p0 : zb) (r v3 : zt1) : TM := [(0, (.d (.agg (za p0)))), (zsp 1), (2, (xi 0)), (3, (xb r.1)), (4, (xi v3.2)), (46, (xb false)), (6, (xi r.2)), (71, (xb false))]
noncomputable def zPb (p0 : zb) (v3 r : zt1) : St := ⟨(zkn p0 r v3), ⟨[(zc 1 (za p0))], []⟩, []⟩
noncomputable def zwj (p0 : zb) (v3 : zt1) : (Bool × Int) → Ex × St := fun r => ((.exit 2), zPb p0 v3 r)
theorem zWf (k : Nat) (p0 : zb) (v3 : zt1) (s7_6 : Bool) (s7_9 : Int) (x : (Bool × Int) ⊕ (Bool × Int)) (h : zcb k p0 v3 s7_6 s7_9 = some x) : LoopOK TE 19 (blk TE 19 2) (fun s : (Bool × Int) => z6i p0 v3 s.1 s.2) (zwj p0 v3) (s7_6, s7_9) x := by
 unfold zcb at h
 refine bind_ok h (fun v1001 h1002 g1 => ?_)
 refine cond_ok g1 (fun h1003 g2 => ?_) (fun h1003 g2 => ?_)
 ·subst h1003
  refine bind_ok g2 (fun v1004 h1005 g3 => ?_)
  refine bind_ok g3 (fun v1006 h1007 g4 => ?_)
  exact zqn (v1006, (w64 (s7_9 + 1))) [] [(19, 10, 3, .q (.d (.pin (zl v1004))))] [(19, 1000008, (.nor, zVb p0 v3 s7_6 s7_9 true)), (19, 1000011, (.nor, zSb p0 v3 s7_6 s7_9 v1004 v1006))] g4 (ob (zJf k p0 v3 s7_6 s7_9 _ h1002) (ob (o_ia (e := zl) 5 h1005 rfl) (ob (zui k p0 v3 s7_6 s7_9 v1004 _ h1007) ob0))) (by kernel_rfl)
 ·subst h1003
  exact zqo [] [(19, 1000008, (.nor, zVb p0 v3 s7_6 s7_9 false))] g2 (ob (zJf k p0 v3 s7_6 s7_9 _ h1002) ob0) (by kernel_rfl)
noncomputable def zQm (p0 : zb) (s12_6 : Bool) (v3 v5 : zt1) (s12_11 : Int) (r : Bool) : TM := [(0, (.d (.agg (za p0)))), (zsp 1), (2, (xi 0)), (3, (xb s12_6)), (4, (xi v3.2)), (46, (xb false)), (6, (xi v5.2)), (71, (xb false)), (8, (xi s12_11)), (103, (xb r))]
noncomputable def zWb (p0 : zb) (v3 v5 : zt1) (s12_6 : Bool) (s12_11 : Int) (r : Bool) : St := ⟨(zQm p0 s12_6 v3 v5 s12_11 r), ⟨[(zc 1 (za p0))], []⟩, []⟩
noncomputable def zum (p0 : zb) (s12_6 : Bool) (v3 v5 : zt1) (s12_11 : Int) : TM := [(0, (.d (.agg (za p0)))), (zsp 1), (2, (xi 0)), (3, (xb s12_6)), (4, (xi v3.2)), (46, (xb false)), (6, (xi v5.2)), (71, (xb false)), (8, (xi s12_11))]
theorem zHf (k : Nat) (p0 : zb) (v3 v5 : zt1) (s12_6 : Bool) (s12_11 : Int) (r : Bool) (h : zib k p0 v3 v5 s12_6 s12_11 = some r) : ev TE 19 (rgn TE 19 13) ⟨(zum p0 s12_6 v3 v5 s12_11), ⟨[(zc 1 (za p0))], []⟩, []⟩ = some (.nor, zWb p0 v3 v5 s12_6 s12_11 r) := by
 unfold zib at h
 refine cond_ok h (fun h1601 g1 => ?_) (fun h1601 g1 => ?_)
 ·exact fin2_ok (g := fun r => (Ex.nor, zWb p0 v3 v5 s12_6 s12_11 r)) g1 (zqe [(19, 13, 1, .q (xb true)), (19, 13, 5, .q (xi (p0.Deliveries.1.length : Int)))] [] (ob (o_b h1601) (ob (o_len zh p0.Deliveries.1) ob0)) (by kernel_rfl))
 ·exact fin2_ok (g := fun r => (Ex.nor, zWb p0 v3 v5 s12_6 s12_11 r)) g1 (zqe [(19, 13, 1, .q (xb false))] [] (ob (o_b h1601) ob0) (by kernel_rfl))
noncomputable def zHn (p0 : zb) (r : Bool) (v3 v5 : zt1) (s12_11 : Int) : TM := zdm p0 r ++ [(4, (xi v3.2)), (46, (xb false)), (6, (xi v5.2)), (71, (xb false)), (8, (xi s12_11)), (103, (xb true)), (zsp 9)]
noncomputable def zRb (p0 : zb) (v3 v5 : zt1) (s12_6 : Bool) (s12_11 : Int) (v1504 : zo) (r : Bool) : St := ⟨(zHn p0 r v3 v5 s12_11), ⟨[(zc 1 (za p0)), (zc 9 (zh v1504))], []⟩, []⟩
theorem zli (k : Nat) (p0 : zb) (v3 v5 : zt1) (s12_6 : Bool) (s12_11 : Int) (v1504 : zo) (r : Bool) (h : zkc k p0 v3 v5 s12_6 s12_11 v1504 = some r) : ev TE 19 (rgn TE 19 16) ⟨(zum p0 s12_6 v3 v5 s12_11 ++ [(103, (xb true)), (zsp 9)]), ⟨[(zc 1 (za p0)), (zc 9 (zh v1504))], []⟩, []⟩ = some (.nor, zRb p0 v3 v5 s12_6 s12_11 v1504 r) := by
 unfold zkc at h
 refine bind_ok h (fun v1701 h1702 g1 => ?_)
 refine cond_ok g1 (fun h1703 g2 => ?_) (fun h1703 g2 => ?_)
 ·refine bind_ok g2 (fun v1704 h1705 g3 => ?_)
  refine cond_ok g3 (fun h1706 g4 => ?_) (fun h1706 g4 => ?_)
  ·refine bind_ok g4 (fun v1707 h1708 g5 => ?_)
   exact fin2_ok (g := fun r => (Ex.nor, zRb p0 v3 v5 s12_6 s12_11 v1504 r)) g5 (zqe [(19, 16, 3, .c (db v1701)), (19, 16, 4, .q (xb true)), (19, 16, 10, .c (db v1704)), (19, 16, 12, .q (xb true)), (19, 16, 15, .c (db v1707))] [] (ob (zT k p0 v1504.Shelf _ h1702) (ob (o_b h1703) (ob (zic k v1504.Days 0 (w64 (p0.Days - 1)) _ h1705) (ob (o_b h1706) (ob (zic k v1504.By 0 60 _ h1708) ob0))))) (by kernel_rfl))
  ·exact fin2_ok (g := fun r => (Ex.nor, zRb p0 v3 v5 s12_6 s12_11 v1504 r)) g4 (zqe [(19, 16, 3, .c (db v1701)), (19, 16, 4, .q (xb true)), (19, 16, 10, .c (db v1704)), (19, 16, 12, .q (xb false))] [] (ob (zT k p0 v1504.Shelf _ h1702) (ob (o_b h1703) (ob (zic k v1504.Days 0 (w64 (p0.Days - 1)) _ h1705) (ob (o_b h1706) ob0)))) (by kernel_rfl))
 ·exact fin2_ok (g := fun r => (Ex.nor, zRb p0 v3 v5 s12_6 s12_11 v1504 r)) g2 (zqe [(19, 16, 3, .c (db v1701)), (19, 16, 4, .q (xb false))] [] (ob (zT k p0 v1504.Shelf _ h1702) (ob (o_b h1703) ob0)) (by kernel_rfl))
noncomputable def zZi (p0 : zb) (v3 v5 : zt1) (s12_6 : Bool) (s12_11 : Int) : St := ⟨(zum p0 s12_6 v3 v5 s12_11), ⟨[(zc 1 (za p0))], []⟩, []⟩
noncomputable def z3n (p0 : zb) (r v3 v5 : zt1) : TM := [(0, (.d (.agg (za p0)))), (zsp 1), (2, (xi 0)), (3, (xb r.1)), (4, (xi v3.2)), (46, (xb false)), (6, (xi v5.2)), (71, (xb false)), (8, (xi r.2)), (103, (xb false))]
noncomputable def zDb (p0 : zb) (v3 v5 r : zt1) : St := ⟨(z3n p0 r v3 v5), ⟨[(zc 1 (za p0))], []⟩, []⟩
noncomputable def zYi (p0 : zb) (v3 v5 : zt1) : (Bool × Int) → Ex × St := fun r => ((.exit 4), zDb p0 v3 v5 r)
theorem zQf (k : Nat) (p0 : zb) (v3 v5 : zt1) (s12_6 : Bool) (s12_11 : Int) (x : (Bool × Int) ⊕ (Bool × Int)) (h : zZ k p0 v3 v5 s12_6 s12_11 = some x) : LoopOK TE 19 (blk TE 19 4) (fun s : (Bool × Int) => zZi p0 v3 v5 s.1 s.2) (zYi p0 v3 v5) (s12_6, s12_11) x := by
 unfold zZ at h
 refine bind_ok h (fun v1501 h1502 g1 => ?_)
 refine cond_ok g1 (fun h1503 g2 => ?_) (fun h1503 g2 => ?_)
 ·subst h1503
  refine bind_ok g2 (fun v1504 h1505 g3 => ?_)
  refine bind_ok g3 (fun v1506 h1507 g4 => ?_)
  exact zqn (v1506, (w64 (s12_11 + 1))) [] [(19, 15, 3, .q (.d (.pin (zh v1504))))] [(19, 1000013, (.nor, zWb p0 v3 v5 s12_6 s12_11 true)), (19, 1000016, (.nor, zRb p0 v3 v5 s12_6 s12_11 v1504 v1506))] g4 (ob (zHf k p0 v3 v5 s12_6 s12_11 _ h1502) (ob (o_ia (e := zh) 5 h1505 rfl) (ob (zli k p0 v3 v5 s12_6 s12_11 v1504 _ h1507) ob0))) (by kernel_rfl)
 ·subst h1503
  exact zqo [] [(19, 1000013, (.nor, zWb p0 v3 v5 s12_6 s12_11 false))] g2 (ob (zHf k p0 v3 v5 s12_6 s12_11 _ h1502) ob0) (by kernel_rfl)
noncomputable def zFm (p0 : zb) (s17_6 : Bool) (v3 v5 v7 : zt1) (s17_13 : Int) (r : Bool) : TM := [(0, (.d (.agg (za p0)))), (zsp 1), (2, (xi 0)), (3, (xb s17_6)), (4, (xi v3.2)), (46, (xb false)), (6, (xi v5.2)), (71, (xb false)), (8, (xi v7.2)), (103, (xb false)), (10, (xi s17_13)), (135, (xb r))]
noncomputable def zTb (p0 : zb) (v3 v5 v7 : zt1) (s17_6 : Bool) (s17_13 : Int) (r : Bool) : St := ⟨(zFm p0 s17_6 v3 v5 v7 s17_13 r), ⟨[(zc 1 (za p0))], []⟩, []⟩
noncomputable def zsm (p0 : zb) (s17_6 : Bool) (v3 v5 v7 : zt1) (s17_13 : Int) : TM := [(0, (.d (.agg (za p0)))), (zsp 1), (2, (xi 0)), (3, (xb s17_6)), (4, (xi v3.2)), (46, (xb false)), (6, (xi v5.2)), (71, (xb false)), (8, (xi v7.2)), (103, (xb false)), (10, (xi s17_13))]
theorem zKf (k : Nat) (p0 : zb) (v3 v5 v7 : zt1) (s17_6 : Bool) (s17_13 : Int) (r : Bool) (h : zkb k p0 v3 v5 v7 s17_6 s17_13 = some r) : ev TE 19 (rgn TE 19 18) ⟨(zsm p0 s17_6 v3 v5 v7 s17_13), ⟨[(zc 1 (za p0))], []⟩, []⟩ = some (.nor, zTb p0 v3 v5 v7 s17_6 s17_13 r) := by
 unfold zkb at h
 refine cond_ok h (fun h2101 g1 => ?_) (fun h2101 g1 => ?_)
 ·exact fin2_ok (g := fun r => (Ex.nor, zTb p0 v3 v5 v7 s17_6 s17_13 r)) g1 (zqe [(19, 18, 1, .q (xb true)), (19, 18, 5, .q (xi (p0.Counts.1.length : Int)))] [] (ob (o_b h2101) (ob (o_len zi p0.Counts.1) ob0)) (by kernel_rfl))
 ·exact fin2_ok (g := fun r => (Ex.nor, zTb p0 v3 v5 v7 s17_6 s17_13 r)) g1 (zqe [(19, 18, 1, .q (xb false))] [] (ob (o_b h2101) ob0) (by kernel_rfl))
noncomputable def zYn (p0 : zb) (r : Bool) (v3 v5 v7 : zt1) (s17_13 : Int) : TM := zdm p0 r ++ [(4, (xi v3.2)), (46, (xb false)), (6, (xi v5.2)), (71, (xb false)), (8, (xi v7.2)), (103, (xb false)), (10, (xi s17_13)), (135, (xb true)), (zsp 11)]
noncomputable def zqb (p0 : zb) (v3 v5 v7 : zt1) (s17_6 : Bool) (s17_13 : Int) (v2004 : zp) (r : Bool) : St := ⟨(zYn p0 r v3 v5 v7 s17_13), ⟨[(zc 1 (za p0)), (zc 11 (zi v2004))], []⟩, []⟩
theorem zpi (k : Nat) (p0 : zb) (v3 v5 v7 : zt1) (s17_6 : Bool) (s17_13 : Int) (v2004 : zp) (r : Bool) (h : zhc k p0 v3 v5 v7 s17_6 s17_13 v2004 = some r) : ev TE 19 (rgn TE 19 21) ⟨(zsm p0 s17_6 v3 v5 v7 s17_13 ++ [(135, (xb true)), (zsp 11)]), ⟨[(zc 1 (za p0)), (zc 11 (zi v2004))], []⟩, []⟩ = some (.nor, zqb p0 v3 v5 v7 s17_6 s17_13 v2004 r) := by
 unfold zhc at h
 refine bind_ok h (fun v2201 h2202 g1 => ?_)
 refine cond_ok g1 (fun h2203 g2 => ?_) (fun h2203 g2 => ?_)
 ·refine bind_ok g2 (fun v2204 h2205 g3 => ?_)
  refine cond_ok g3 (fun h2206 g4 => ?_) (fun h2206 g4 => ?_)
  ·refine bind_ok g4 (fun v2207 h2208 g5 => ?_)
   refine cond_ok g5 (fun h2209 g6 => ?_) (fun h2209 g6 => ?_)
   ·refine bind_ok g6 (fun v2210 h2211 g7 => ?_)
    exact fin2_ok (g := fun r => (Ex.nor, zqb p0 v3 v5 v7 s17_6 s17_13 v2004 r)) g7 (zqe [(19, 21, 5, .c (db v2201)), (19, 21, 6, .q (xb true)), (19, 21, 10, .c (db v2204)), (19, 21, 12, .q (xb true)), (19, 21, 15, .c (db v2207)), (19, 21, 17, .q (xb true)), (19, 21, 20, .c (db v2210))] [] (ob (zE k v2004.Day 0 (w64 (p0.Days - 1)) _ h2202) (ob (o_b h2203) (ob (zT k p0 v2004.Shelf _ h2205) (ob (o_b h2206) (ob (zE k v2004.Read 0 60 _ h2208) (ob (o_b h2209) (ob (zE k v2004.Err 0 20 _ h2211) ob0))))))) (by kernel_rfl))
   ·exact fin2_ok (g := fun r => (Ex.nor, zqb p0 v3 v5 v7 s17_6 s17_13 v2004 r)) g6 (zqe [(19, 21, 5, .c (db v2201)), (19, 21, 6, .q (xb true)), (19, 21, 10, .c (db v2204)), (19, 21, 12, .q (xb true)), (19, 21, 15, .c (db v2207)), (19, 21, 17, .q (xb false))] [] (ob (zE k v2004.Day 0 (w64 (p0.Days - 1)) _ h2202) (ob (o_b h2203) (ob (zT k p0 v2004.Shelf _ h2205) (ob (o_b h2206) (ob (zE k v2004.Read 0 60 _ h2208) (ob (o_b h2209) ob0)))))) (by kernel_rfl))
  ·exact fin2_ok (g := fun r => (Ex.nor, zqb p0 v3 v5 v7 s17_6 s17_13 v2004 r)) g4 (zqe [(19, 21, 5, .c (db v2201)), (19, 21, 6, .q (xb true)), (19, 21, 10, .c (db v2204)), (19, 21, 12, .q (xb false))] [] (ob (zE k v2004.Day 0 (w64 (p0.Days - 1)) _ h2202) (ob (o_b h2203) (ob (zT k p0 v2004.Shelf _ h2205) (ob (o_b h2206) ob0)))) (by kernel_rfl))
 ·exact fin2_ok (g := fun r => (Ex.nor, zqb p0 v3 v5 v7 s17_6 s17_13 v2004 r)) g2 (zqe [(19, 21, 5, .c (db v2201)), (19, 21, 6, .q (xb false))] [] (ob (zE k v2004.Day 0 (w64 (p0.Days - 1)) _ h2202) (ob (o_b h2203) ob0)) (by kernel_rfl))
noncomputable def z0i (p0 : zb) (v3 v5 v7 : zt1) (s17_6 : Bool) (s17_13 : Int) : St := ⟨(zsm p0 s17_6 v3 v5 v7 s17_13), ⟨[(zc 1 (za p0))], []⟩, []⟩
noncomputable def z5m (p0 : zb) (r v3 v5 v7 : zt1) : TM := [(0, (.d (.agg (za p0)))), (zsp 1), (2, (xi 0)), (3, (xb r.1)), (4, (xi v3.2)), (46, (xb false)), (6, (xi v5.2)), (71, (xb false)), (8, (xi v7.2)), (103, (xb false)), (10, (xi r.2)), (135, (xb false))]
noncomputable def zEb (p0 : zb) (v3 v5 v7 r : zt1) : St := ⟨(z5m p0 r v3 v5 v7), ⟨[(zc 1 (za p0))], []⟩, []⟩
noncomputable def z4i (p0 : zb) (v3 v5 v7 : zt1) : (Bool × Int) → Ex × St := fun r => ((.exit 6), zEb p0 v3 v5 v7 r)
theorem zNf (k : Nat) (p0 : zb) (v3 v5 v7 : zt1) (s17_6 : Bool) (s17_13 : Int) (x : (Bool × Int) ⊕ (Bool × Int)) (h : z6 k p0 v3 v5 v7 s17_6 s17_13 = some x) : LoopOK TE 19 (blk TE 19 6) (fun s : (Bool × Int) => z0i p0 v3 v5 v7 s.1 s.2) (z4i p0 v3 v5 v7) (s17_6, s17_13) x := by
 unfold z6 at h
 refine bind_ok h (fun v2001 h2002 g1 => ?_)
 refine cond_ok g1 (fun h2003 g2 => ?_) (fun h2003 g2 => ?_)
 ·subst h2003
  refine bind_ok g2 (fun v2004 h2005 g3 => ?_)
  refine bind_ok g3 (fun v2006 h2007 g4 => ?_)
  exact zqn (v2006, (w64 (s17_13 + 1))) [] [(19, 20, 3, .q (.d (.pin (zi v2004))))] [(19, 1000018, (.nor, zTb p0 v3 v5 v7 s17_6 s17_13 true)), (19, 1000021, (.nor, zqb p0 v3 v5 v7 s17_6 s17_13 v2004 v2006))] g4 (ob (zKf k p0 v3 v5 v7 s17_6 s17_13 _ h2002) (ob (o_ia (e := zi) 4 h2005 rfl) (ob (zpi k p0 v3 v5 v7 s17_6 s17_13 v2004 _ h2007) ob0))) (by kernel_rfl)
 ·subst h2003
  exact zqo [] [(19, 1000018, (.nor, zTb p0 v3 v5 v7 s17_6 s17_13 false))] g2 (ob (zKf k p0 v3 v5 v7 s17_6 s17_13 _ h2002) ob0) (by kernel_rfl)
theorem zyc (k : Nat) (p0 : zb) (r : Int) (h : zMb k p0 = some r) : callP TE (ev TE) 19 [(.agg (za p0))] = some (zpf r) := by
 unfold zMb at h
 refine bind_ok h (fun v1 h2 g1 => ?_)
 refine bind_ok g1 (fun v3 h4 g2 => ?_)
 refine bind_ok g2 (fun v5 h6 g3 => ?_)
 refine bind_ok g3 (fun v7 h8 g4 => ?_)
 refine bind_ok g4 (fun v9 h10 g5 => ?_)
 refine cond_ok g5 (fun h11 g6 => ?_) (fun h11 g6 => ?_)
 ·exact fin_ok (g := zpf) g6 (zqc [(19, 22, 1, .q (xb true))] [(19, 1000001, (.nor, zX p0 v1)), (19, 0, (.nor, zUb p0 v3)), (19, 2, (.nor, zPb p0 v3 v5)), (19, 4, (.nor, zDb p0 v3 v5 v7)), (19, 6, (.nor, zEb p0 v3 v5 v7 v9))] (ob (z2f k p0 _ h2) (ob (block_ok (id := 0) (r' := (.nor, zUb p0 v3)) (zU (zYf k p0) k _ _ h4) rfl) (ob (block_ok (id := 2) (r' := (.nor, zPb p0 v3 v5)) (zU (zWf k p0 v3) k _ _ h6) rfl) (ob (block_ok (id := 4) (r' := (.nor, zDb p0 v3 v5 v7)) (zU (zQf k p0 v3 v5) k _ _ h8) rfl) (ob (block_ok (id := 6) (r' := (.nor, zEb p0 v3 v5 v7 v9)) (zU (zNf k p0 v3 v5 v7) k _ _ h10) rfl) (ob (o_b h11) ob0)))))) (by kernel_rfl))
 ·exact fin_ok (g := zpf) g6 (zqc [(19, 22, 1, .q (xb false))] [(19, 1000001, (.nor, zX p0 v1)), (19, 0, (.nor, zUb p0 v3)), (19, 2, (.nor, zPb p0 v3 v5)), (19, 4, (.nor, zDb p0 v3 v5 v7)), (19, 6, (.nor, zEb p0 v3 v5 v7 v9))] (ob (z2f k p0 _ h2) (ob (block_ok (id := 0) (r' := (.nor, zUb p0 v3)) (zU (zYf k p0) k _ _ h4) rfl) (ob (block_ok (id := 2) (r' := (.nor, zPb p0 v3 v5)) (zU (zWf k p0 v3) k _ _ h6) rfl) (ob (block_ok (id := 4) (r' := (.nor, zDb p0 v3 v5 v7)) (zU (zQf k p0 v3 v5) k _ _ h8) rfl) (ob (block_ok (id := 6) (r' := (.nor, zEb p0 v3 v5 v7 v9)) (zU (zNf k p0 v3 v5 v7) k _ _ h10) rfl) (ob (o_b h11) ob0)))))) (by kernel_rfl))
theorem zGk (k : Nat) (p0 : (SL Int)) (p1 : Int) (r : (SL Int)) (h : zEd k p0 p1 = some r) : callP TE (ev TE) 88 [(dl eI p0.1 p0.2), (di p1)] = some (zah r) := by
 unfold zEd at h
 refine guard_ok h (fun h1 g1 => ?_)
 refine guard_ok g1 (fun h2 g2 => ?_)
 exact fin_ok (g := zah) g2 (zqr [(88, 1, 2, .ns (p0.1.map eI) p0.1.length), (88, 1, 5, .ap (p0.1 ++ [p1]).length (rowO false 1 eI (p0.1 ++ [p1]) true))] [] [(dl eI (p0.1 ++ [p1]) (rcap false (p0.1 ++ [p1])))] (ob (o_nsl p0.1 eI) (ob (o_ns (P := TE.P) (φ := fun _ _ => none) (T := 42) (q := (1, [(di 0)])) (c := p0.2) (e := eI) p0.1 (by kernel_rfl) (fun _ => rfl) h1) (ob (rfl : (([] : List (List D)).isEmpty || !(p0.1.map eI).isEmpty) = true) (ob (o_ap (b := false) (z := 1) (e := eI) (l := p0.1) (w := true) p1 (fun _ => rfl) h2) (ob (show snaps ⟨[(7, (rowO false 1 eI (p0.1 ++ [p1]) true))], []⟩ _ = _ from (o_s1 (x := (.row 0 7 (p0.1 ++ [p1]).length)) (snap_rowR false 1 eI (p0.1 ++ [p1]) true rfl) o_s0)) ob0))))) (by kernel_rfl))
noncomputable def zGm (p0 : zb) (p1 : Int) (s1_7 : (SL (SL Int))) (s1_8 : Int) (r : zt4) : TM := [(0, (.d (.agg (za p0)))), (1, (xi p1)), (zsp 2), (4, (.d (.sl [] .nil))), (5, (.d (dl (eL eI) s1_7.1 s1_7.2))), (6, (xi s1_8)), (17, (xb true)), (zsp 7), (8, (xi r.1)), (31, (xb r.2))]
noncomputable def znd (p0 : zb) (p1 : Int) (s1_7 : (SL (SL Int))) (s1_8 : Int) (v702 : zo) (cb : Bool) (r : zt4) : St := ⟨(zGm p0 p1 s1_7 s1_8 r), ⟨[(zc 2 (za p0)), (zc 7 (zh v702))], []⟩, []⟩
noncomputable def zgn (p0 : zb) (p1 : Int) (s1_7 : (SL (SL Int))) (s1_8 : Int) (v702 : zo) (cb : Bool) : TM := [(0, (.d (.agg (za p0)))), (1, (xi p1)), (zsp 2), (4, (.d (.sl [] .nil))), (5, (.d (dl (eL eI) s1_7.1 s1_7.2))), (6, (xi s1_8)), (17, (xb true)), (zsp 7), (8, (xi v702.Days.High)), (31, (xb cb))]
theorem z8i (k : Nat) (p0 : zb) (p1 : Int) (s1_7 : (SL (SL Int))) (s1_8 : Int) (v702 : zo) (cb : Bool) (r : zt4) (h : zSd k p0 p1 s1_7 s1_8 v702 cb = some r) : ev TE 72 (cnd TE 72 31) ⟨(zgn p0 p1 s1_7 s1_8 v702 cb), ⟨[(zc 2 (za p0)), (zc 7 (zh v702))], []⟩, []⟩ = some (.nor, znd p0 p1 s1_7 s1_8 v702 cb r) := by
 unfold zSd at h
 refine cond_ok h (fun h801 g1 => ?_) (fun h801 g1 => ?_)
 ·subst h801
  exact fin2_ok (g := fun r => (Ex.nor, znd p0 p1 s1_7 s1_8 v702 true r)) g1 (zqe [] [] ob0 (by kernel_rfl))
 ·subst h801
  exact fin2_ok (g := fun r => (Ex.nor, znd p0 p1 s1_7 s1_8 v702 false r)) g1 (zqe [] [] ob0 (by kernel_rfl))
noncomputable def zBn (p0 : zb) (p1 : Int) (s1_7 : (SL (SL Int))) (s1_8 : Int) (v704 : zt4) (s11_25 : (List (SL Int))) (s8_12 s11_14 : Int) : TM := [(0, (.d (.agg (za p0)))), (1, (xi p1)), (zsp 2), (4, (.d (.sl [] .nil))), (5, (.d (dl (eL eI) s1_7.1 s1_7.2))), (6, (xi s1_8)), (17, (xb true)), (zsp 7), (8, (xi v704.1)), (31, (xb v704.2)), (9, (.row 0 9 s11_25.length)), (10, (xi s8_12)), (38, (xb true)), (11, (xi s11_14))]
noncomputable def z5i (p0 : zb) (p1 : Int) (s1_7 : (SL (SL Int))) (s1_8 : Int) (v702 : zo) (v704 : zt4) (s8_12 s11_14 : Int) (s11_25 : (List (SL Int))) : St := ⟨(zBn p0 p1 s1_7 s1_8 v704 s11_25 s8_12 s11_14), ⟨[(zc 2 (za p0)), (zc 7 (zh v702)), (9, (rowO true 1 (eL eI) s11_25 true))], []⟩, []⟩
noncomputable def zpn (p0 : zb) (p1 : Int) (s1_7 : (SL (SL Int))) (s1_8 : Int) (v704 : zt4) (r : (Int × (List (SL Int)))) (s8_12 : Int) : TM := [(0, (.d (.agg (za p0)))), (1, (xi p1)), (zsp 2), (4, (.d (.sl [] .nil))), (5, (.d (dl (eL eI) s1_7.1 s1_7.2))), (6, (xi s1_8)), (17, (xb true)), (zsp 7), (8, (xi v704.1)), (31, (xb v704.2)), (9, (.row 0 9 r.2.length)), (10, (xi s8_12)), (38, (xb true)), (11, (xi r.1)), (46, (xb false))]
noncomputable def zhe (p0 : zb) (p1 : Int) (s1_7 : (SL (SL Int))) (s1_8 : Int) (v702 : zo) (v704 : zt4) (s8_12 : Int) (r : (Int × (List (SL Int)))) : St := ⟨(zpn p0 p1 s1_7 s1_8 v704 r s8_12), ⟨[(zc 2 (za p0)), (zc 7 (zh v702)), (9, (rowO true 1 (eL eI) r.2 true))], []⟩, []⟩
noncomputable def zoj (p0 : zb) (p1 : Int) (s1_7 : (SL (SL Int))) (s1_8 : Int) (v702 : zo) (v704 : zt4) (s8_12 : Int) : (Int × (List (SL Int))) → Ex × St := fun r => ((.exit 4), zhe p0 p1 s1_7 s1_8 v702 v704 s8_12 r)
theorem zWi (k : Nat) (p0 : zb) (p1 : Int) (s1_7 : (SL (SL Int))) (s1_8 : Int) (v702 : zo) (v704 : zt4) (s8_12 s11_14 : Int) (s11_25 : (List (SL Int))) (x : (Int × (List (SL Int))) ⊕ (Int × (List (SL Int)))) (h : zHb k p0 p1 s1_7 s1_8 v702 v704 s8_12 s11_14 s11_25 = some x) : LoopOK TE 72 (blk TE 72 4) (fun s : (Int × (List (SL Int))) => z5i p0 p1 s1_7 s1_8 v702 v704 s8_12 s.1 s.2) (zoj p0 p1 s1_7 s1_8 v702 v704 s8_12) (s11_14, s11_25) x := by
 unfold zHb at h
 refine cond_ok h (fun h1201 g1 => ?_) (fun h1201 g1 => ?_)
 ·refine bind_ok g1 (fun v1202 h1203 g2 => ?_)
  refine bind_ok g2 (fun v1204 h1205 g3 => ?_)
  refine guard_ok g3 (fun h1206 g4 => ?_)
  exact zqn ((w64 (s11_14 + 1)), (s11_25 ++ [v1204])) [9] [(72, 14, 2, .q (xb true)), (72, 16, 3, .q (.d (.pin [(dl eI v1202.1 v1202.2)]))), (72, 16, 6, .c (dl eI v1204.1 v1204.2)), (72, 16, 8, .ap (s11_25 ++ [v1204]).length (rowO true 1 (eL eI) (s11_25 ++ [v1204]) true))] [] g4 (ob (o_b h1201) (ob (o_ia (e := (eL eI)) 1 h1203 rfl) (ob (zGk k v1202 s11_14 _ h1205) (ob (o_ap (b := true) (z := 1) (e := (eL eI)) (l := s11_25) (w := true) v1204 (fun _ => rfl) h1206) (ob (o_ref true 1 (eL eI) (s11_25 ++ [v1204]) true) ob0))))) (by kernel_rfl)
 ·exact zqo [(72, 14, 2, .q (xb false))] [] g1 (ob (o_b h1201) ob0) (by kernel_rfl)
noncomputable def z2m (p0 : zb) (p1 : Int) (s1_7 : (SL (SL Int))) (s1_8 : Int) (v704 : zt4) (s8_23 : (List (SL Int))) (s8_12 : Int) : TM := [(0, (.d (.agg (za p0)))), (1, (xi p1)), (zsp 2), (4, (.d (.sl [] .nil))), (5, (.d (dl (eL eI) s1_7.1 s1_7.2))), (6, (xi s1_8)), (17, (xb true)), (zsp 7), (8, (xi v704.1)), (31, (xb v704.2)), (9, (.row 0 9 s8_23.length)), (10, (xi s8_12))]
noncomputable def z2j (p0 : zb) (p1 : Int) (s1_7 : (SL (SL Int))) (s1_8 : Int) (v702 : zo) (v704 : zt4) (s8_12 : Int) (s8_23 : (List (SL Int))) : St := ⟨(z2m p0 p1 s1_7 s1_8 v704 s8_23 s8_12), ⟨[(zc 2 (za p0)), (zc 7 (zh v702)), (9, (rowO true 1 (eL eI) s8_23 true))], []⟩, []⟩
noncomputable def zxn (p0 : zb) (p1 : Int) (s1_7 : (SL (SL Int))) (s1_8 : Int) (v704 : zt4) (r : (Int × (List (SL Int)))) : TM := [(0, (.d (.agg (za p0)))), (1, (xi p1)), (zsp 2), (4, (.d (.sl [] .nil))), (5, (.d (dl (eL eI) s1_7.1 s1_7.2))), (6, (xi s1_8)), (17, (xb true)), (zsp 7), (8, (xi v704.1)), (31, (xb v704.2)), (9, (.row 0 9 r.2.length)), (10, (xi r.1)), (38, (xb false))]
noncomputable def zte (p0 : zb) (p1 : Int) (s1_7 : (SL (SL Int))) (s1_8 : Int) (v702 : zo) (v704 : zt4) (r : (Int × (List (SL Int)))) : St := ⟨(zxn p0 p1 s1_7 s1_8 v704 r), ⟨[(zc 2 (za p0)), (zc 7 (zh v702)), (9, (rowO true 1 (eL eI) r.2 true))], []⟩, []⟩
noncomputable def z3j (p0 : zb) (p1 : Int) (s1_7 : (SL (SL Int))) (s1_8 : Int) (v702 : zo) (v704 : zt4) : (Int × (List (SL Int))) → Ex × St := fun r => ((.exit 2), zte p0 p1 s1_7 s1_8 v702 v704 r)
theorem zcj (k : Nat) (p0 : zb) (p1 : Int) (s1_7 : (SL (SL Int))) (s1_8 : Int) (v702 : zo) (v704 : zt4) (s8_12 : Int) (s8_23 : (List (SL Int))) (x : (Int × (List (SL Int))) ⊕ (Int × (List (SL Int)))) (h : zYb k p0 p1 s1_7 s1_8 v702 v704 s8_12 s8_23 = some x) : LoopOK TE 72 (blk TE 72 2) (fun s : (Int × (List (SL Int))) => z2j p0 p1 s1_7 s1_8 v702 v704 s.1 s.2) (z3j p0 p1 s1_7 s1_8 v702 v704) (s8_12, s8_23) x := by
 unfold zYb at h
 refine cond_ok h (fun h1101 g1 => ?_) (fun h1101 g1 => ?_)
 ·refine bind_ok g1 (fun v1102 h1103 g2 => ?_)
  exact zqn ((w64 (s8_12 + 1)), v1102.2) [9] [(72, 11, 2, .q (xi (s1_7.1.length : Int))), (72, 11, 3, .q (xb true))] [(72, 4, (.nor, zhe p0 p1 s1_7 s1_8 v702 v704 s8_12 v1102))] g2 (ob (o_len (eL eI) s1_7.1) (ob (o_b h1101) (ob (block_ok (id := 4) (r' := (.nor, zhe p0 p1 s1_7 s1_8 v702 v704 s8_12 v1102)) (zU (zWi k p0 p1 s1_7 s1_8 v702 v704 s8_12) k _ _ h1103) rfl) (ob (o_ref true 1 (eL eI) v1102.2 true) ob0)))) (by kernel_rfl)
 ·exact zqo [(72, 11, 2, .q (xi (s1_7.1.length : Int))), (72, 11, 3, .q (xb false))] [] g1 (ob (o_len (eL eI) s1_7.1) (ob (o_b h1101) ob0)) (by kernel_rfl)
noncomputable def zeo (p0 : zb) (p1 : Int) (s1_7 : (SL (SL Int))) (s1_8 : Int) : TM := [(0, (.d (.agg (za p0)))), (1, (xi p1)), (zsp 2), (4, (.d (.sl [] .nil))), (5, (.d (dl (eL eI) s1_7.1 s1_7.2))), (6, (xi s1_8))]
noncomputable def zAj (p0 : zb) (p1 : Int) (s1_7 : (SL (SL Int))) (s1_8 : Int) : St := ⟨(zeo p0 p1 s1_7 s1_8), ⟨[(zc 2 (za p0))], []⟩, []⟩
noncomputable def z2n (p0 : zb) (p1 : Int) (r : ((SL (SL Int)) × Int)) : TM := [(0, (.d (.agg (za p0)))), (1, (xi p1)), (zsp 2), (4, (.d (.sl [] .nil))), (5, (.d (dl (eL eI) r.1.1 r.1.2))), (6, (xi r.2)), (17, (xb false))]
noncomputable def zGe (p0 : zb) (p1 : Int) (r : ((SL (SL Int)) × Int)) : St := ⟨(z2n p0 p1 r), ⟨[(zc 2 (za p0))], []⟩, []⟩
noncomputable def zQj (p0 : zb) (p1 : Int) : ((SL (SL Int)) × Int) → Ex × St := fun r => ((.exit 0), zGe p0 p1 r)
theorem zhj (k : Nat) (p0 : zb) (p1 : Int) (s1_7 : (SL (SL Int))) (s1_8 : Int) (x : ((SL (SL Int)) × Int) ⊕ ((SL (SL Int)) × Int)) (h : zUc k p0 p1 s1_7 s1_8 = some x) : LoopOK TE 72 (blk TE 72 0) (fun s : ((SL (SL Int)) × Int) => zAj p0 p1 s.1 s.2) (zQj p0 p1) (s1_7, s1_8) x := by
 unfold zUc at h
 refine cond_ok h (fun h701 g1 => ?_) (fun h701 g1 => ?_)
 ·refine bind_ok g1 (fun v702 h703 g2 => ?_)
  refine bind_ok g2 (fun v704 h705 g3 => ?_)
  refine bind_ok g3 (fun v706 h707 g4 => ?_)
  exact zqn ((v706.2, (rcap true v706.2)), (w64 (s1_8 + 1))) [] [(72, 3, 3, .q (xi (p0.Deliveries.1.length : Int))), (72, 3, 4, .q (xb true)), (72, 5, 3, .q (.d (.pin (zh v702)))), (72, 17, 1, .fz (dl (eL eI) v706.2 (rcap true v706.2)) (rowO true 1 (eL eI) v706.2 false))] [(72, 2000031, (.nor, znd p0 p1 s1_7 s1_8 v702 (v702.Shelf != p1) v704)), (72, 2, (.nor, zte p0 p1 s1_7 s1_8 v702 v704 v706))] g4 (ob (o_len zh p0.Deliveries.1) (ob (o_b h701) (ob (o_ia (e := zh) 5 h703 rfl) (ob (z8i k p0 p1 s1_7 s1_8 v702 (v702.Shelf != p1) _ h705) (ob (block_ok (id := 2) (r' := (.nor, zte p0 p1 s1_7 s1_8 v702 v704 v706)) (zU (zcj k p0 p1 s1_7 s1_8 v702 v704) k _ _ h707) rfl) (ob (o_cr true 1 (eL eI) v706.2 true 0 9) ob0)))))) (by kernel_rfl)
 ·exact zqo [(72, 3, 3, .q (xi (p0.Deliveries.1.length : Int))), (72, 3, 4, .q (xb false))] [] g1 (ob (o_len zh p0.Deliveries.1) (ob (o_b h701) ob0)) (by kernel_rfl)
theorem zAk (k : Nat) (p0 : zb) (p1 : Int) (r : (SL (SL Int))) (h : zLd k p0 p1 = some r) : callP TE (ev TE) 72 [(.agg (za p0)), (di p1)] = some (zsh r) := by
 unfold zLd at h
 refine bind_ok h (fun v1 h2 g1 => ?_)
 exact fin_ok (g := zsh) g1 (zqc [] [(72, 0, (.nor, zGe p0 p1 v1))] (ob (block_ok (id := 0) (r' := (.nor, zGe p0 p1 v1)) (zU (zhj k p0 p1) k _ _ h2) rfl) ob0) (by kernel_rfl))
theorem zG (k : Nat) (p0 p1 : Int) (r : zj) (h : zK k p0 p1 = some r) : callP TE (ev TE) 42 [(di p0), (di p1)] = some (zTh r) := by
 unfold zK at h
 exact fin_ok (g := zTh) h (zqc [] [] ob0 (by kernel_rfl))
theorem zal (k : Nat) (p0 p1 : Int) (r : Bool) (h : zDe k p0 p1 = some r) : callP TE (ev TE) 80 [(di p0), (di p1)] = some (zWh r) := by
 unfold zDe at h
 refine cond_ok h (fun h1 g1 => ?_) (fun h1 g1 => ?_)
 ·cases g1
 ·exact fin_ok (g := zWh) g1 (zqc [(80, 1, 2, .q (xi (shr64 p0 p1)))] [] (ob (o_shr (x := p0) h1) ob0) (by kernel_rfl))
theorem zVe (k : Nat) (p0 p1 r : zj) (h : zgc k p0 p1 = some r) : callP TE (ev TE) 69 [(.agg [(di p0.Low), (di p0.High)]), (.agg [(di p1.Low), (di p1.High)])] = some (zOg r) := by
 unfold zgc at h
 refine bind_ok h (fun v1 h2 g1 => ?_)
 exact fin_ok (g := zOg) g1 (zqc [(69, 1, 10, .c (.agg [(di v1.Low), (di v1.High)]))] [] (ob (zG k (if p1.Low > p0.Low then p1.Low else p0.Low) (if p1.High < p0.High then p1.High else p0.High) _ h2) ob0) (by kernel_rfl))
noncomputable def zNn (p0 : zb) (p1 p2 p3 s1_8 : Int) (r : Bool) : TM := [(0, (.d (.agg (za p0)))), (1, (xi p1)), (2, (xi p2)), (3, (xi p3)), (zsp 4), (zsp 8), (zsp 9), (10, (xi s1_8)), (23, (xb true)), (zsp 11), (46, (xb r))]
noncomputable def zGb (p0 : zb) (p1 p2 p3 s1_8 s1_16 s1_17 : Int) (v402 : zp) (r : Bool) : St := ⟨(zNn p0 p1 p2 p3 s1_8 r), ⟨[(zc 4 (za p0)), (8, (.cells [(xi 0), (xi 0)])), (9, (.cells [(xi s1_16), (xi s1_17)])), (zc 11 (zi v402))], []⟩, []⟩
noncomputable def zqm (p0 : zb) (p1 p2 p3 s1_8 : Int) : TM := [(0, (.d (.agg (za p0)))), (1, (xi p1)), (2, (xi p2)), (3, (xi p3)), (zsp 4), (zsp 8), (zsp 9), (10, (xi s1_8)), (23, (xb true)), (zsp 11)]
theorem zVh (k : Nat) (p0 : zb) (p1 p2 p3 s1_8 s1_16 s1_17 : Int) (v402 : zp) (r : Bool) (h : z3c k p0 p1 p2 p3 s1_8 s1_16 s1_17 v402 = some r) : ev TE 89 (rgn TE 89 6) ⟨(zqm p0 p1 p2 p3 s1_8), ⟨[(zc 4 (za p0)), (8, (.cells [(xi 0), (xi 0)])), (9, (.cells [(xi s1_16), (xi s1_17)])), (zc 11 (zi v402))], []⟩, []⟩ = some (.nor, zGb p0 p1 p2 p3 s1_8 s1_16 s1_17 v402 r) := by
 unfold z3c at h
 refine cond_ok h (fun h501 g1 => ?_) (fun h501 g1 => ?_)
 ·refine cond_ok g1 (fun h502 g2 => ?_) (fun h502 g2 => ?_)
  ·refine bind_ok g2 (fun v503 h504 g3 => ?_)
   exact fin2_ok (g := fun r => (Ex.nor, zGb p0 p1 p2 p3 s1_8 s1_16 s1_17 v402 r)) g3 (zqe [(89, 6, 4, .q (xb true)), (89, 6, 10, .q (xb true)), (89, 6, 13, .c (db v503))] [] (ob (o_b h501) (ob (o_b h502) (ob (zal k p3 s1_8 _ h504) ob0))) (by kernel_rfl))
  ·exact fin2_ok (g := fun r => (Ex.nor, zGb p0 p1 p2 p3 s1_8 s1_16 s1_17 v402 r)) g2 (zqe [(89, 6, 4, .q (xb true)), (89, 6, 10, .q (xb false))] [] (ob (o_b h501) (ob (o_b h502) ob0)) (by kernel_rfl))
 ·exact fin2_ok (g := fun r => (Ex.nor, zGb p0 p1 p2 p3 s1_8 s1_16 s1_17 v402 r)) g1 (zqe [(89, 6, 4, .q (xb false))] [] (ob (o_b h501) ob0) (by kernel_rfl))
noncomputable def zDc (p0 : zb) (p1 p2 p3 s1_8 s1_16 s1_17 : Int) (v402 : zp) (v404 : Bool) (r : (Bool × Int × Int)) : St := ⟨(zqm p0 p1 p2 p3 s1_8 ++ [(46, (xb r.1))]), ⟨[(zc 4 (za p0)), (8, (.cells [(xi 0), (xi 0)])), (9, (.cells [(xi r.2.1), (xi r.2.2)])), (zc 11 (zi v402))], []⟩, []⟩
theorem zUh (k : Nat) (p0 : zb) (p1 p2 p3 s1_8 s1_16 s1_17 : Int) (v402 : zp) (v404 : Bool) (r : (Bool × Int × Int)) (h : zeb k p0 p1 p2 p3 s1_8 s1_16 s1_17 v402 v404 = some r) : ev TE 89 (cnd TE 89 46) ⟨(zqm p0 p1 p2 p3 s1_8 ++ [(46, (xb v404))]), ⟨[(zc 4 (za p0)), (8, (.cells [(xi 0), (xi 0)])), (9, (.cells [(xi s1_16), (xi s1_17)])), (zc 11 (zi v402))], []⟩, []⟩ = some (.nor, zDc p0 p1 p2 p3 s1_8 s1_16 s1_17 v402 v404 r) := by
 unfold zeb at h
 refine cond_ok h (fun h601 g1 => ?_) (fun h601 g1 => ?_)
 ·subst h601
  refine bind_ok g1 (fun v602 h603 g2 => ?_)
  refine bind_ok g2 (fun v604 h605 g3 => ?_)
  exact fin2_ok (g := fun r => (Ex.nor, zDc p0 p1 p2 p3 s1_8 s1_16 s1_17 v402 true r)) g3 (zqe [(89, 7, 11, .c (.agg [(di v602.Low), (di v602.High)])), (89, 7, 12, .c (.agg [(di v604.Low), (di v604.High)]))] [] (ob (zG k (w64 (v402.Read - v402.Err)) (w64 (v402.Read + v402.Err)) _ h603) (ob (zVe k (⟨s1_16, s1_17⟩ : zj) v602 _ h605) ob0)) (by kernel_rfl))
 ·subst h601
  exact fin2_ok (g := fun r => (Ex.nor, zDc p0 p1 p2 p3 s1_8 s1_16 s1_17 v402 false r)) g1 (zqe [] [] ob0 (by kernel_rfl))
noncomputable def z0m (p0 : zb) (p1 p2 p3 s1_8 : Int) : TM := [(0, (.d (.agg (za p0)))), (1, (xi p1)), (2, (xi p2)), (3, (xi p3)), (zsp 4), (zsp 8), (zsp 9), (10, (xi s1_8))]
noncomputable def zhi (p0 : zb) (p1 p2 p3 s1_8 s1_16 s1_17 : Int) : St := ⟨(z0m p0 p1 p2 p3 s1_8), ⟨[(zc 4 (za p0)), (8, (.cells [(xi 0), (xi 0)])), (9, (.cells [(xi s1_16), (xi s1_17)]))], []⟩, []⟩
noncomputable def zWm (p0 : zb) (p1 p2 p3 : Int) (r : (Int × Int × Int)) : TM := [(0, (.d (.agg (za p0)))), (1, (xi p1)), (2, (xi p2)), (3, (xi p3)), (zsp 4), (zsp 8), (zsp 9), (10, (xi r.1)), (23, (xb false))]
noncomputable def zId (p0 : zb) (p1 p2 p3 : Int) (r : (Int × Int × Int)) : St := ⟨(zWm p0 p1 p2 p3 r), ⟨[(zc 4 (za p0)), (8, (.cells [(xi 0), (xi 0)])), (9, (.cells [(xi r.2.1), (xi r.2.2)]))], []⟩, []⟩
noncomputable def zsi (p0 : zb) (p1 p2 p3 : Int) : (Int × Int × Int) → Ex × St := fun r => ((.exit 0), zId p0 p1 p2 p3 r)
theorem zQh (k : Nat) (p0 : zb) (p1 p2 p3 s1_8 s1_16 s1_17 : Int) (x : (Int × Int × Int) ⊕ (Int × Int × Int)) (h : z4b k p0 p1 p2 p3 s1_8 s1_16 s1_17 = some x) : LoopOK TE 89 (blk TE 89 0) (fun s : (Int × Int × Int) => zhi p0 p1 p2 p3 s.1 s.2.1 s.2.2) (zsi p0 p1 p2 p3) (s1_8, s1_16, s1_17) x := by
 unfold z4b at h
 refine cond_ok h (fun h401 g1 => ?_) (fun h401 g1 => ?_)
 ·refine bind_ok g1 (fun v402 h403 g2 => ?_)
  refine bind_ok g2 (fun v404 h405 g3 => ?_)
  refine bind_ok g3 (fun v406 h407 g4 => ?_)
  exact zqn ((w64 (s1_8 + 1)), v406.2.1, v406.2.2) [] [(89, 3, 3, .q (xi (p0.Counts.1.length : Int))), (89, 3, 4, .q (xb true)), (89, 5, 3, .q (.d (.pin (zi v402))))] [(89, 1000006, (.nor, zGb p0 p1 p2 p3 s1_8 s1_16 s1_17 v402 v404)), (89, 2000046, (.nor, zDc p0 p1 p2 p3 s1_8 s1_16 s1_17 v402 v404 v406))] g4 (ob (o_len zi p0.Counts.1) (ob (o_b h401) (ob (o_ia (e := zi) 4 h403 rfl) (ob (zVh k p0 p1 p2 p3 s1_8 s1_16 s1_17 v402 _ h405) (ob (zUh k p0 p1 p2 p3 s1_8 s1_16 s1_17 v402 v404 _ h407) ob0))))) (by kernel_rfl)
 ·exact zqo [(89, 3, 3, .q (xi (p0.Counts.1.length : Int))), (89, 3, 4, .q (xb false))] [] g1 (ob (o_len zi p0.Counts.1) (ob (o_b h401) ob0)) (by kernel_rfl)
theorem zej (k : Nat) (p0 : zb) (p1 p2 p3 : Int) (r : zj) (h : zRc k p0 p1 p2 p3 = some r) : callP TE (ev TE) 89 [(.agg (za p0)), (di p1), (di p2), (di p3)] = some (zqg r) := by
 unfold zRc at h
 refine bind_ok h (fun v1 h2 g1 => ?_)
 refine bind_ok g1 (fun v3 h4 g2 => ?_)
 refine bind_ok g2 (fun v5 h6 g3 => ?_)
 exact fin_ok (g := zqg) g3 (zqc [(89, 1, 3, .q (.d (.pin (zk v1)))), (89, 1, 6, .c (.agg [(di v3.Low), (di v3.High)]))] [(89, 0, (.nor, zId p0 p1 p2 p3 v5))] (ob (o_ia (e := zk) 3 h2 rfl) (ob (zG k 0 v1.Room _ h4) (ob (block_ok (id := 0) (r' := (.nor, zId p0 p1 p2 p3 v5)) (zxm (zQh k p0 p1 p2 p3) k _ _ h6) rfl) ob0))) (by kernel_rfl))
noncomputable def zIn (p0 : zb) (p1 : Int) (p2 : (SL Int)) (p3 : Int) (s24_17 : zt8) (s1_9 s24_11 : Int) (r : Bool) : TM := [(0, (.d (.agg (za p0)))), (1, (xi p1)), (2, (.d (dl eI p2.1 p2.2))), (3, (xi p3)), (zsp 4), (8, (.d (.sl [] .nil))), (9, (.row 0 9 s24_17.length)), (zsp 10), (11, (xi s1_9)), (27, (xb true)), (12, (xi s24_11)), (34, (xb true)), (zsp 13), (53, (xb r))]
noncomputable def zCc (p0 : zb) (p1 : Int) (p2 : (SL Int)) (p3 : Int) (v3 : zj) (s1_9 s24_11 : Int) (s24_17 : zt8) (v2702 : zo) (r : Bool) : St := ⟨(zIn p0 p1 p2 p3 s24_17 s1_9 s24_11 r), ⟨[(zc 4 (za p0)), (9, (rowO true 6 zw s24_17 true)), (10, (.cells [(xi v3.Low), (xi v3.High)])), (zc 13 (zh v2702))], []⟩, []⟩
noncomputable def zAm (p0 : zb) (p1 : Int) (p2 : (SL Int)) (p3 : Int) (s24_17 : zt8) (s1_9 s24_11 : Int) : TM := [(0, (.d (.agg (za p0)))), (1, (xi p1)), (2, (.d (dl eI p2.1 p2.2))), (3, (xi p3)), (zsp 4), (8, (.d (.sl [] .nil))), (9, (.row 0 9 s24_17.length)), (zsp 10), (11, (xi s1_9)), (27, (xb true)), (12, (xi s24_11)), (34, (xb true)), (zsp 13)]
theorem zdi (k : Nat) (p0 : zb) (p1 : Int) (p2 : (SL Int)) (p3 : Int) (v3 : zj) (s1_9 s24_11 : Int) (s24_17 : zt8) (v2702 : zo) (r : Bool) (h : zdd k p0 p1 p2 p3 v3 s1_9 s24_11 s24_17 v2702 = some r) : ev TE 73 (rgn TE 73 10) ⟨(zAm p0 p1 p2 p3 s24_17 s1_9 s24_11), ⟨[(zc 4 (za p0)), (9, (rowO true 6 zw s24_17 true)), (10, (.cells [(xi v3.Low), (xi v3.High)])), (zc 13 (zh v2702))], []⟩, []⟩ = some (.nor, zCc p0 p1 p2 p3 v3 s1_9 s24_11 s24_17 v2702 r) := by
 unfold zdd at h
 refine cond_ok h (fun h2801 g1 => ?_) (fun h2801 g1 => ?_)
 ·refine bind_ok g1 (fun v2802 h2803 g2 => ?_)
  exact fin2_ok (g := fun r => (Ex.nor, zCc p0 p1 p2 p3 v3 s1_9 s24_11 s24_17 v2702 r)) g2 (zqe [(73, 10, 4, .q (xb true)), (73, 10, 7, .q (.d (.pin [(di v2802)])))] [] (ob (o_b h2801) (ob (o_ia (e := eI) 1 h2803 rfl) ob0)) (by kernel_rfl))
 ·exact fin2_ok (g := fun r => (Ex.nor, zCc p0 p1 p2 p3 v3 s1_9 s24_11 s24_17 v2702 r)) g1 (zqe [(73, 10, 4, .q (xb false))] [] (ob (o_b h2801) ob0) (by kernel_rfl))
noncomputable def zAn (p0 : zb) (p1 : Int) (p2 : (SL Int)) (p3 : Int) (r : (Bool × (List zt))) (s1_9 s24_11 : Int) : TM := [(0, (.d (.agg (za p0)))), (1, (xi p1)), (2, (.d (dl eI p2.1 p2.2))), (3, (xi p3)), (zsp 4), (8, (.d (.sl [] .nil))), (9, (.row 0 9 r.2.length)), (zsp 10), (11, (xi s1_9)), (27, (xb true)), (12, (xi s24_11)), (34, (xb true)), (zsp 13), (53, (xb r.1))]
noncomputable def zGc (p0 : zb) (p1 : Int) (p2 : (SL Int)) (p3 : Int) (v3 : zj) (s1_9 s24_11 : Int) (s24_17 : zt8) (v2702 : zo) (v2704 : Bool) (r : (Bool × (List zt))) : St := ⟨(zAn p0 p1 p2 p3 r s1_9 s24_11), ⟨[(zc 4 (za p0)), (9, (rowO true 6 zw r.2 true)), (10, (.cells [(xi v3.Low), (xi v3.High)])), (zc 13 (zh v2702))], []⟩, []⟩
theorem zYh (k : Nat) (p0 : zb) (p1 : Int) (p2 : (SL Int)) (p3 : Int) (v3 : zj) (s1_9 s24_11 : Int) (s24_17 : zt8) (v2702 : zo) (v2704 : Bool) (r : (Bool × (List zt))) (h : ztb k p0 p1 p2 p3 v3 s1_9 s24_11 s24_17 v2702 v2704 = some r) : ev TE 73 (cnd TE 73 53) ⟨(zAm p0 p1 p2 p3 s24_17 s1_9 s24_11 ++ [(53, (xb v2704))]), ⟨[(zc 4 (za p0)), (9, (rowO true 6 zw s24_17 true)), (10, (.cells [(xi v3.Low), (xi v3.High)])), (zc 13 (zh v2702))], []⟩, []⟩ = some (.nor, zGc p0 p1 p2 p3 v3 s1_9 s24_11 s24_17 v2702 v2704 r) := by
 unfold ztb at h
 refine cond_ok h (fun h2901 g1 => ?_) (fun h2901 g1 => ?_)
 ·subst h2901
  refine guard_ok g1 (fun h2902 g2 => ?_)
  exact fin2_ok (g := fun r => (Ex.nor, zGc p0 p1 p2 p3 v3 s1_9 s24_11 s24_17 v2702 true r)) g2 (zqe [(73, 11, 6, .ap (s24_17 ++ [(⟨v2702.By, v3, (-1), (-1)⟩ : zt)]).length (rowO true 6 zw (s24_17 ++ [(⟨v2702.By, v3, (-1), (-1)⟩ : zt)]) true))] [] (ob (o_ap (b := true) (z := 6) (e := zw) (l := s24_17) (w := true) (⟨v2702.By, v3, (-1), (-1)⟩ : zt) (fun _ => rfl) h2902) ob0) (by kernel_rfl))
 ·subst h2901
  exact fin2_ok (g := fun r => (Ex.nor, zGc p0 p1 p2 p3 v3 s1_9 s24_11 s24_17 v2702 false r)) g1 (zqe [] [] ob0 (by kernel_rfl))
noncomputable def zLn (p0 : zb) (p1 : Int) (p2 : (SL Int)) (p3 : Int) (s24_17 : zt8) (s1_9 s24_11 : Int) : TM := [(0, (.d (.agg (za p0)))), (1, (xi p1)), (2, (.d (dl eI p2.1 p2.2))), (3, (xi p3)), (zsp 4), (8, (.d (.sl [] .nil))), (9, (.row 0 9 s24_17.length)), (zsp 10), (11, (xi s1_9)), (27, (xb true)), (12, (xi s24_11))]
noncomputable def zti (p0 : zb) (p1 : Int) (p2 : (SL Int)) (p3 : Int) (v3 : zj) (s1_9 s24_11 : Int) (s24_17 : zt8) : St := ⟨(zLn p0 p1 p2 p3 s24_17 s1_9 s24_11), ⟨[(zc 4 (za p0)), (9, (rowO true 6 zw s24_17 true)), (10, (.cells [(xi v3.Low), (xi v3.High)]))], []⟩, []⟩
noncomputable def zOm (p0 : zb) (p1 : Int) (p2 : (SL Int)) (p3 : Int) (r : zt9) (s1_9 : Int) : TM := [(0, (.d (.agg (za p0)))), (1, (xi p1)), (2, (.d (dl eI p2.1 p2.2))), (3, (xi p3)), (zsp 4), (8, (.d (.sl [] .nil))), (9, (.row 0 9 r.2.length)), (zsp 10), (11, (xi s1_9)), (27, (xb true)), (12, (xi r.1)), (34, (xb false))]
noncomputable def zMd (p0 : zb) (p1 : Int) (p2 : (SL Int)) (p3 : Int) (v3 : zj) (s1_9 : Int) (r : zt9) : St := ⟨(zOm p0 p1 p2 p3 r s1_9), ⟨[(zc 4 (za p0)), (9, (rowO true 6 zw r.2 true)), (10, (.cells [(xi v3.Low), (xi v3.High)]))], []⟩, []⟩
noncomputable def zgi (p0 : zb) (p1 : Int) (p2 : (SL Int)) (p3 : Int) (v3 : zj) (s1_9 : Int) : (Int × (List zt)) → Ex × St := fun r => ((.exit 2), zMd p0 p1 p2 p3 v3 s1_9 r)
theorem zOh (k : Nat) (p0 : zb) (p1 : Int) (p2 : (SL Int)) (p3 : Int) (v3 : zj) (s1_9 s24_11 : Int) (s24_17 : zt8) (x : (Int × (List zt)) ⊕ (Int × (List zt))) (h : zwb k p0 p1 p2 p3 v3 s1_9 s24_11 s24_17 = some x) : LoopOK TE 73 (blk TE 73 2) (fun s : (Int × (List zt)) => zti p0 p1 p2 p3 v3 s1_9 s.1 s.2) (zgi p0 p1 p2 p3 v3 s1_9) (s24_11, s24_17) x := by
 unfold zwb at h
 refine cond_ok h (fun h2701 g1 => ?_) (fun h2701 g1 => ?_)
 ·refine bind_ok g1 (fun v2702 h2703 g2 => ?_)
  refine bind_ok g2 (fun v2704 h2705 g3 => ?_)
  refine bind_ok g3 (fun v2706 h2707 g4 => ?_)
  exact zqn ((w64 (s24_11 + 1)), v2706.2) [9] [(73, 7, 3, .q (xi (p0.Deliveries.1.length : Int))), (73, 7, 4, .q (xb true)), (73, 9, 3, .q (.d (.pin (zh v2702))))] [(73, 1000010, (.nor, zCc p0 p1 p2 p3 v3 s1_9 s24_11 s24_17 v2702 v2704)), (73, 2000053, (.nor, zGc p0 p1 p2 p3 v3 s1_9 s24_11 s24_17 v2702 v2704 v2706))] g4 (ob (o_len zh p0.Deliveries.1) (ob (o_b h2701) (ob (o_ia (e := zh) 5 h2703 rfl) (ob (zdi k p0 p1 p2 p3 v3 s1_9 s24_11 s24_17 v2702 _ h2705) (ob (zYh k p0 p1 p2 p3 v3 s1_9 s24_11 s24_17 v2702 v2704 _ h2707) (ob (o_ref true 6 zw v2706.2 true) ob0)))))) (by kernel_rfl)
 ·exact zqo [(73, 7, 3, .q (xi (p0.Deliveries.1.length : Int))), (73, 7, 4, .q (xb false))] [] g1 (ob (o_len zh p0.Deliveries.1) (ob (o_b h2701) ob0)) (by kernel_rfl)
noncomputable def zHm (p0 : zb) (p1 : Int) (p2 : (SL Int)) (p3 : Int) (s29_19 : zt8) (s1_9 : Int) (v2402 : zt9) (s29_13 : Int) (r : Bool) : TM := [(0, (.d (.agg (za p0)))), (1, (xi p1)), (2, (.d (dl eI p2.1 p2.2))), (3, (xi p3)), (zsp 4), (8, (.d (.sl [] .nil))), (9, (.row 0 9 s29_19.length)), (zsp 10), (11, (xi s1_9)), (27, (xb true)), (12, (xi v2402.1)), (34, (xb false)), (14, (xi s29_13)), (65, (xb true)), (zsp 15), (82, (xb r))]
noncomputable def zCb (p0 : zb) (p1 : Int) (p2 : (SL Int)) (p3 : Int) (v3 : zj) (s1_9 : Int) (v2402 : zt9) (s29_13 : Int) (s29_19 : zt8) (v3202 : zC) (r : Bool) : St := ⟨(zHm p0 p1 p2 p3 s29_19 s1_9 v2402 s29_13 r), ⟨[(zc 4 (za p0)), (9, (rowO true 6 zw s29_19 true)), (10, (.cells [(xi v3.Low), (xi v3.High)])), (zc 15 (zl v3202))], []⟩, []⟩
noncomputable def zwm (p0 : zb) (p1 : Int) (p2 : (SL Int)) (p3 : Int) (s29_19 : zt8) (s1_9 : Int) (v2402 : zt9) (s29_13 : Int) : TM := [(0, (.d (.agg (za p0)))), (1, (xi p1)), (2, (.d (dl eI p2.1 p2.2))), (3, (xi p3)), (zsp 4), (8, (.d (.sl [] .nil))), (9, (.row 0 9 s29_19.length)), (zsp 10), (11, (xi s1_9)), (27, (xb true)), (12, (xi v2402.1)), (34, (xb false)), (14, (xi s29_13)), (65, (xb true)), (zsp 15)]
theorem zBf (k : Nat) (p0 : zb) (p1 : Int) (p2 : (SL Int)) (p3 : Int) (v3 : zj) (s1_9 : Int) (v2402 : zt9) (s29_13 : Int) (s29_19 : zt8) (v3202 : zC) (r : Bool) (h : z7c k p0 p1 p2 p3 v3 s1_9 v2402 s29_13 s29_19 v3202 = some r) : ev TE 73 (rgn TE 73 16) ⟨(zwm p0 p1 p2 p3 s29_19 s1_9 v2402 s29_13), ⟨[(zc 4 (za p0)), (9, (rowO true 6 zw s29_19 true)), (10, (.cells [(xi v3.Low), (xi v3.High)])), (zc 15 (zl v3202))], []⟩, []⟩ = some (.nor, zCb p0 p1 p2 p3 v3 s1_9 v2402 s29_13 s29_19 v3202 r) := by
 unfold z7c at h
 refine cond_ok h (fun h3301 g1 => ?_) (fun h3301 g1 => ?_)
 ·exact fin2_ok (g := fun r => (Ex.nor, zCb p0 p1 p2 p3 v3 s1_9 v2402 s29_13 s29_19 v3202 r)) g1 (zqe [(73, 16, 4, .q (xb true))] [] (ob (o_b h3301) ob0) (by kernel_rfl))
 ·exact fin2_ok (g := fun r => (Ex.nor, zCb p0 p1 p2 p3 v3 s1_9 v2402 s29_13 s29_19 v3202 r)) g1 (zqe [(73, 16, 4, .q (xb false))] [] (ob (o_b h3301) ob0) (by kernel_rfl))
noncomputable def zFc (p0 : zb) (p1 : Int) (p2 : (SL Int)) (p3 : Int) (v3 : zj) (s1_9 : Int) (v2402 : zt9) (s29_13 : Int) (s29_19 : zt8) (v3202 : zC) (cb : Bool) (r : (Bool × Int × Int)) : St := ⟨(zwm p0 p1 p2 p3 s29_19 s1_9 v2402 s29_13 ++ [(82, (xb false)), (zsp 16), (87, (xb r.1))]), ⟨[(zc 4 (za p0)), (9, (rowO true 6 zw s29_19 true)), (10, (.cells [(xi v3.Low), (xi v3.High)])), (zc 15 (zl v3202)), (16, (.cells [(xi r.2.1), (xi r.2.2)]))], []⟩, []⟩
theorem z7h (k : Nat) (p0 : zb) (p1 : Int) (p2 : (SL Int)) (p3 : Int) (v3 : zj) (s1_9 : Int) (v2402 : zt9) (s29_13 : Int) (s29_19 : zt8) (v3202 : zC) (cb : Bool) (r : (Bool × Int × Int)) (h : z7b k p0 p1 p2 p3 v3 s1_9 v2402 s29_13 s29_19 v3202 cb = some r) : ev TE 73 (cnd TE 73 87) ⟨(zwm p0 p1 p2 p3 s29_19 s1_9 v2402 s29_13 ++ [(82, (xb false)), (zsp 16), (87, (xb cb))]), ⟨[(zc 4 (za p0)), (9, (rowO true 6 zw s29_19 true)), (10, (.cells [(xi v3.Low), (xi v3.High)])), (zc 15 (zl v3202)), (16, (.cells [(xi v3202.By.Low), (xi v3202.By.High)]))], []⟩, []⟩ = some (.nor, zFc p0 p1 p2 p3 v3 s1_9 v2402 s29_13 s29_19 v3202 cb r) := by
 unfold z7b at h
 refine cond_ok h (fun h3401 g1 => ?_) (fun h3401 g1 => ?_)
 ·subst h3401
  refine bind_ok g1 (fun v3402 h3403 g2 => ?_)
  exact fin2_ok (g := fun r => (Ex.nor, zFc p0 p1 p2 p3 v3 s1_9 v2402 s29_13 s29_19 v3202 true r)) g2 (zqe [(73, 19, 6, .c (.agg [(di v3402.Low), (di v3402.High)]))] [] (ob (zG k (w64 (0 - v3202.By.High)) (w64 (0 - v3202.By.Low)) _ h3403) ob0) (by kernel_rfl))
 ·subst h3401
  exact fin2_ok (g := fun r => (Ex.nor, zFc p0 p1 p2 p3 v3 s1_9 v2402 s29_13 s29_19 v3202 false r)) g1 (zqe [] [] ob0 (by kernel_rfl))
noncomputable def zbo (p0 : zb) (p1 : Int) (p2 : (SL Int)) (p3 : Int) (s29_19 : zt8) (s1_9 : Int) (v2402 : zt9) (s29_13 : Int) : TM := [(0, (.d (.agg (za p0)))), (1, (xi p1)), (2, (.d (dl eI p2.1 p2.2))), (3, (xi p3)), (zsp 4), (8, (.d (.sl [] .nil))), (9, (.row 0 9 s29_19.length)), (zsp 10), (11, (xi s1_9)), (27, (xb true)), (12, (xi v2402.1)), (34, (xb false)), (14, (xi s29_13))]
noncomputable def zni (p0 : zb) (p1 : Int) (p2 : (SL Int)) (p3 : Int) (v3 : zj) (s1_9 : Int) (v2402 : zt9) (s29_13 : Int) (s29_19 : zt8) : St := ⟨(zbo p0 p1 p2 p3 s29_19 s1_9 v2402 s29_13), ⟨[(zc 4 (za p0)), (9, (rowO true 6 zw s29_19 true)), (10, (.cells [(xi v3.Low), (xi v3.High)]))], []⟩, []⟩
noncomputable def zJn (p0 : zb) (p1 : Int) (p2 : (SL Int)) (p3 : Int) (r : zt9) (s1_9 : Int) (v2402 : zt9) : TM := [(0, (.d (.agg (za p0)))), (1, (xi p1)), (2, (.d (dl eI p2.1 p2.2))), (3, (xi p3)), (zsp 4), (8, (.d (.sl [] .nil))), (9, (.row 0 9 r.2.length)), (zsp 10), (11, (xi s1_9)), (27, (xb true)), (12, (xi v2402.1)), (34, (xb false)), (14, (xi r.1)), (65, (xb false))]
noncomputable def zKd (p0 : zb) (p1 : Int) (p2 : (SL Int)) (p3 : Int) (v3 : zj) (s1_9 : Int) (v2402 r : zt9) : St := ⟨(zJn p0 p1 p2 p3 r s1_9 v2402), ⟨[(zc 4 (za p0)), (9, (rowO true 6 zw r.2 true)), (10, (.cells [(xi v3.Low), (xi v3.High)]))], []⟩, []⟩
noncomputable def zii (p0 : zb) (p1 : Int) (p2 : (SL Int)) (p3 : Int) (v3 : zj) (s1_9 : Int) (v2402 : zt9) : (Int × (List zt)) → Ex × St := fun r => ((.exit 4), zKd p0 p1 p2 p3 v3 s1_9 v2402 r)
theorem z6h (k : Nat) (p0 : zb) (p1 : Int) (p2 : (SL Int)) (p3 : Int) (v3 : zj) (s1_9 : Int) (v2402 : zt9) (s29_13 : Int) (s29_19 : zt8) (x : (Int × (List zt)) ⊕ (Int × (List zt))) (h : zsb k p0 p1 p2 p3 v3 s1_9 v2402 s29_13 s29_19 = some x) : LoopOK TE 73 (blk TE 73 4) (fun s : (Int × (List zt)) => zni p0 p1 p2 p3 v3 s1_9 v2402 s.1 s.2) (zii p0 p1 p2 p3 v3 s1_9 v2402) (s29_13, s29_19) x := by
 unfold zsb at h
 refine cond_ok h (fun h3201 g1 => ?_) (fun h3201 g1 => ?_)
 ·refine bind_ok g1 (fun v3202 h3203 g2 => ?_)
  refine bind_ok g2 (fun v3204 h3205 g3 => ?_)
  refine cond_ok g3 (fun h3206 g4 => ?_) (fun h3206 g4 => ?_)
  ·subst h3206
   exact zqn ((w64 (s29_13 + 1)), s29_19) [9] [(73, 13, 3, .q (xi (p0.Moves.1.length : Int))), (73, 13, 4, .q (xb true)), (73, 15, 3, .q (.d (.pin (zl v3202))))] [(73, 1000016, (.nor, zCb p0 p1 p2 p3 v3 s1_9 v2402 s29_13 s29_19 v3202 true))] g4 (ob (o_len zl p0.Moves.1) (ob (o_b h3201) (ob (o_ia (e := zl) 5 h3203 rfl) (ob (zBf k p0 p1 p2 p3 v3 s1_9 v2402 s29_13 s29_19 v3202 _ h3205) (ob (o_ref true 6 zw s29_19 true) ob0))))) (by kernel_rfl)
  ·subst h3206
   refine bind_ok g4 (fun v3207 h3208 g5 => ?_)
   refine guard_ok g5 (fun h3209 g6 => ?_)
   exact zqn ((w64 (s29_13 + 1)), (s29_19 ++ [(⟨(⟨v3207.2.1, v3207.2.2⟩ : zj), v3, s29_13, (-1)⟩ : zt)])) [9] [(73, 13, 3, .q (xi (p0.Moves.1.length : Int))), (73, 13, 4, .q (xb true)), (73, 15, 3, .q (.d (.pin (zl v3202)))), (73, 20, 6, .ap (s29_19 ++ [(⟨(⟨v3207.2.1, v3207.2.2⟩ : zj), v3, s29_13, (-1)⟩ : zt)]).length (rowO true 6 zw (s29_19 ++ [(⟨(⟨v3207.2.1, v3207.2.2⟩ : zj), v3, s29_13, (-1)⟩ : zt)]) true))] [(73, 1000016, (.nor, zCb p0 p1 p2 p3 v3 s1_9 v2402 s29_13 s29_19 v3202 false)), (73, 2000087, (.nor, zFc p0 p1 p2 p3 v3 s1_9 v2402 s29_13 s29_19 v3202 (!v3202.Back) v3207))] g6 (ob (o_len zl p0.Moves.1) (ob (o_b h3201) (ob (o_ia (e := zl) 5 h3203 rfl) (ob (zBf k p0 p1 p2 p3 v3 s1_9 v2402 s29_13 s29_19 v3202 _ h3205) (ob (z7h k p0 p1 p2 p3 v3 s1_9 v2402 s29_13 s29_19 v3202 (!v3202.Back) _ h3208) (ob (o_ap (b := true) (z := 6) (e := zw) (l := s29_19) (w := true) (⟨(⟨v3207.2.1, v3207.2.2⟩ : zj), v3, s29_13, (-1)⟩ : zt) (fun _ => rfl) h3209) (ob (o_ref true 6 zw (s29_19 ++ [(⟨(⟨v3207.2.1, v3207.2.2⟩ : zj), v3, s29_13, (-1)⟩ : zt)]) true) ob0))))))) (by kernel_rfl)
 ·exact zqo [(73, 13, 3, .q (xi (p0.Moves.1.length : Int))), (73, 13, 4, .q (xb false))] [] g1 (ob (o_len zl p0.Moves.1) (ob (o_b h3201) ob0)) (by kernel_rfl)
noncomputable def zTn (p0 : zb) (p1 : Int) (p2 : (SL Int)) (p3 : Int) (s1_15 : zt8) (s1_9 : Int) : TM := [(0, (.d (.agg (za p0)))), (1, (xi p1)), (2, (.d (dl eI p2.1 p2.2))), (3, (xi p3)), (zsp 4), (8, (.d (.sl [] .nil))), (9, (.row 0 9 s1_15.length)), (zsp 10), (11, (xi s1_9))]
noncomputable def zXi (p0 : zb) (p1 : Int) (p2 : (SL Int)) (p3 : Int) (v3 : zj) (s1_9 : Int) (s1_15 : zt8) : St := ⟨(zTn p0 p1 p2 p3 s1_15 s1_9), ⟨[(zc 4 (za p0)), (9, (rowO true 6 zw s1_15 true)), (10, (.cells [(xi v3.Low), (xi v3.High)]))], []⟩, []⟩
noncomputable def zzn (p0 : zb) (p1 : Int) (p2 : (SL Int)) (p3 : Int) (r : zt9) : TM := [(0, (.d (.agg (za p0)))), (1, (xi p1)), (2, (.d (dl eI p2.1 p2.2))), (3, (xi p3)), (zsp 4), (8, (.d (.sl [] .nil))), (9, (.row 0 9 r.2.length)), (zsp 10), (11, (xi r.1)), (27, (xb false))]
noncomputable def z2d (p0 : zb) (p1 : Int) (p2 : (SL Int)) (p3 : Int) (v3 : zj) (r : zt9) : St := ⟨(zzn p0 p1 p2 p3 r), ⟨[(zc 4 (za p0)), (9, (rowO true 6 zw r.2 true)), (10, (.cells [(xi v3.Low), (xi v3.High)]))], []⟩, []⟩
noncomputable def zTi (p0 : zb) (p1 : Int) (p2 : (SL Int)) (p3 : Int) (v3 : zj) : (Int × (List zt)) → Ex × St := fun r => ((.exit 0), z2d p0 p1 p2 p3 v3 r)
theorem zri (k : Nat) (p0 : zb) (p1 : Int) (p2 : (SL Int)) (p3 : Int) (v3 : zj) (s1_9 : Int) (s1_15 : zt8) (x : (Int × (List zt)) ⊕ (Int × (List zt))) (h : zmc k p0 p1 p2 p3 v3 s1_9 s1_15 = some x) : LoopOK TE 73 (blk TE 73 0) (fun s : (Int × (List zt)) => zXi p0 p1 p2 p3 v3 s.1 s.2) (zTi p0 p1 p2 p3 v3) (s1_9, s1_15) x := by
 unfold zmc at h
 refine cond_ok h (fun h2401 g1 => ?_) (fun h2401 g1 => ?_)
 ·refine bind_ok g1 (fun v2402 h2403 g2 => ?_)
  refine bind_ok g2 (fun v2404 h2405 g3 => ?_)
  refine bind_ok g3 (fun v2406 h2407 g4 => ?_)
  refine bind_ok g4 (fun v2408 h2409 g5 => ?_)
  refine guard_ok g5 (fun h2410 g6 => ?_)
  exact zqn ((w64 (s1_9 + 1)), (v2404.2 ++ [(⟨v2406, v2408, (-1), s1_9⟩ : zt)])) [9] [(73, 4, 3, .q (xb true)), (73, 21, 1, .c (.agg [(di v2406.Low), (di v2406.High)])), (73, 21, 6, .c (.agg [(di v2408.Low), (di v2408.High)])), (73, 21, 10, .ap (v2404.2 ++ [(⟨v2406, v2408, (-1), s1_9⟩ : zt)]).length (rowO true 6 zw (v2404.2 ++ [(⟨v2406, v2408, (-1), s1_9⟩ : zt)]) true))] [(73, 2, (.nor, zMd p0 p1 p2 p3 v3 s1_9 v2402)), (73, 4, (.nor, zKd p0 p1 p2 p3 v3 s1_9 v2402 v2404))] g6 (ob (o_b h2401) (ob (block_ok (id := 2) (r' := (.nor, zMd p0 p1 p2 p3 v3 s1_9 v2402)) (zU (zOh k p0 p1 p2 p3 v3 s1_9) k _ _ h2403) rfl) (ob (block_ok (id := 4) (r' := (.nor, zKd p0 p1 p2 p3 v3 s1_9 v2402 v2404)) (zU (z6h k p0 p1 p2 p3 v3 s1_9 v2402) k _ _ h2405) rfl) (ob (zG k 0 0 _ h2407) (ob (zej k p0 p1 s1_9 p3 _ h2409) (ob (o_ap (b := true) (z := 6) (e := zw) (l := v2404.2) (w := true) (⟨v2406, v2408, (-1), s1_9⟩ : zt) (fun _ => rfl) h2410) (ob (o_ref true 6 zw (v2404.2 ++ [(⟨v2406, v2408, (-1), s1_9⟩ : zt)]) true) ob0))))))) (by kernel_rfl)
 ·exact zqo [(73, 4, 3, .q (xb false))] [] g1 (ob (o_b h2401) ob0) (by kernel_rfl)
theorem zsg (k : Nat) (p0 : zb) (p1 : Int) (p2 : (SL Int)) (p3 : Int) (r : (SL zt)) (h : z6c k p0 p1 p2 p3 = some r) : callP TE (ev TE) 73 [(.agg (za p0)), (di p1), (dl eI p2.1 p2.2), (di p3)] = some (zMg r) := by
 unfold z6c at h
 refine bind_ok h (fun v1 h2 g1 => ?_)
 refine bind_ok g1 (fun v3 h4 g2 => ?_)
 refine bind_ok g2 (fun v5 h6 g3 => ?_)
 exact fin_ok (g := zMg) g3 (zqr [(73, 2, 3, .q (.d (.pin (zk v1)))), (73, 2, 6, .c (.agg [(di v3.Low), (di v3.High)]))] [(73, 0, (.nor, z2d p0 p1 p2 p3 v3 v5))] [(dl zw v5.2 (rcap true v5.2))] (ob (o_ia (e := zk) 3 h2 rfl) (ob (zG k 0 v1.Room _ h4) (ob (block_ok (id := 0) (r' := (.nor, z2d p0 p1 p2 p3 v3 v5)) (zU (zri k p0 p1 p2 p3 v3) k _ _ h6) rfl) (ob (show snaps ⟨[(9, (rowO true 6 zw v5.2 true))], []⟩ _ = _ from (o_s1 (x := (.row 0 9 v5.2.length)) (snap_rowR true 6 zw v5.2 true rfl) o_s0)) ob0)))) (by kernel_rfl))
noncomputable def z1n (p0 : zj) (p1 : (SL zt)) (s1_8 : zt10) (s1_5 : Int) : TM := [(0, (.d (.agg [(di p0.Low), (di p0.High)]))), (1, (.d (dl zw p1.1 p1.2))), (zsp 2), (4, (.d (.sl [] .nil))), (5, (xb false)), (6, (.row 0 11 s1_8.length)), (7, (xi s1_5))]
noncomputable def zNi (p0 : zj) (p1 : (SL zt)) (s1_5 : Int) (s1_8 : zt10) : St := ⟨(z1n p0 p1 s1_8 s1_5), ⟨[(2, (.cells [(xi p0.Low), (xi p0.High)])), (11, (rowO false 2 zr s1_8 true))], []⟩, []⟩
noncomputable def zXn (p0 : zj) (p1 : (SL zt)) (r : zt14) : TM := [(0, (.d (.agg [(di p0.Low), (di p0.High)]))), (1, (.d (dl zw p1.1 p1.2))), (zsp 2), (4, (.d (.sl [] .nil))), (5, (xb false)), (6, (.row 0 11 r.2.length)), (7, (xi r.1)), (15, (xb false))]
noncomputable def zFb (p0 : zj) (p1 : (SL zt)) (r : zt14) : St := ⟨(zXn p0 p1 r), ⟨[(2, (.cells [(xi p0.Low), (xi p0.High)])), (11, (rowO false 2 zr r.2 true))], []⟩, []⟩
noncomputable def zSi (p0 : zj) (p1 : (SL zt)) : (Int × (List zj)) → Ex × St := fun r => ((.exit 0), zFb p0 p1 r)
theorem zMf (k : Nat) (p0 : zj) (p1 : (SL zt)) (s1_5 : Int) (s1_8 : zt10) (x : (Int × (List zj)) ⊕ (Int × (List zj))) (h : zzb k p0 p1 s1_5 s1_8 = some x) : LoopOK TE 74 (blk TE 74 0) (fun s : (Int × (List zj)) => zNi p0 p1 s.1 s.2) (zSi p0 p1) (s1_5, s1_8) x := by
 unfold zzb at h
 refine cond_ok h (fun h201 g1 => ?_) (fun h201 g1 => ?_)
 ·refine bind_ok g1 (fun v202 h203 g2 => ?_)
  refine bind_ok g2 (fun v204 h205 g3 => ?_)
  refine bind_ok g3 (fun v206 h207 g4 => ?_)
  refine bind_ok g4 (fun v208 h209 g5 => ?_)
  refine bind_ok g5 (fun v210 h211 g6 => ?_)
  refine bind_ok g6 (fun v212 h213 g7 => ?_)
  refine bind_ok g7 (fun v214 h215 g8 => ?_)
  refine guard_ok g8 (fun h216 g9 => ?_)
  exact zqn ((w64 (s1_5 + 1)), (s1_8 ++ [v214])) [11] [(74, 3, 2, .q (xi (p1.1.length : Int))), (74, 3, 3, .q (xb true)), (74, 5, 3, .q (.d (.pin (zw v202)))), (74, 5, 8, .q (.rp 0 11 s1_8.length s1_5.toNat 0)), (74, 5, 9, .q (.rp 0 11 s1_8.length s1_5.toNat 0)), (74, 5, 10, .q (xi v204.Low)), (74, 5, 13, .q (.d (.pin (zw v206)))), (74, 5, 20, .q (.rp 0 11 s1_8.length s1_5.toNat 0)), (74, 5, 21, .q (.rp 0 11 s1_8.length s1_5.toNat 1)), (74, 5, 22, .q (xi v208.High)), (74, 5, 25, .q (.d (.pin (zw v210)))), (74, 5, 30, .c (.agg [(di v212.Low), (di v212.High)])), (74, 5, 31, .c (.agg [(di v214.Low), (di v214.High)])), (74, 5, 33, .ap (s1_8 ++ [v214]).length (rowO false 2 zr (s1_8 ++ [v214]) true))] [] g9 (ob (o_len zw p1.1) (ob (o_b h201) (ob (o_ia (e := zw) 6 h203 rfl) (ob (zqa 94 16 0 11 s1_5 false 2 zr s1_8 true (by kernel_rfl) (by kernel_rfl) h205) (ob (zqf 30 (0, 1, false) 0 11 0 0 s1_5 false 2 zr s1_8 true (by kernel_rfl) (by decide) h205) (ob (zql 3 (1, false) 0 11 0 s1_5 (xi v204.Low) false 2 zr s1_8 true (by kernel_rfl) h205 (by kernel_rfl)) (ob (o_ia (e := zw) 6 h207 rfl) (ob (zqa 94 16 0 11 s1_5 false 2 zr s1_8 true (by kernel_rfl) (by kernel_rfl) h209) (ob (zqf 30 (1, 1, false) 0 11 0 1 s1_5 false 2 zr s1_8 true (by kernel_rfl) (by decide) h209) (ob (zql 3 (1, false) 0 11 1 s1_5 (xi v208.High) false 2 zr s1_8 true (by kernel_rfl) h209 (by kernel_rfl)) (ob (o_ia (e := zw) 6 h211 rfl) (ob (zG k (w64 (v204.Low + v206.by_.Low)) (w64 (v208.High + v210.by_.High)) _ h213) (ob (zVe k v202.within v212 _ h215) (ob (o_ap (b := false) (z := 2) (e := zr) (l := s1_8) (w := true) v214 (fun _ => rfl) h216) (ob (o_ref false 2 zr (s1_8 ++ [v214]) true) ob0))))))))))))))) (by kernel_rfl)
 ·exact zqo [(74, 3, 2, .q (xi (p1.1.length : Int))), (74, 3, 3, .q (xb false))] [] g1 (ob (o_len zw p1.1) (ob (o_b h201) ob0)) (by kernel_rfl)
noncomputable def zYm (p0 : zj) (p1 : (SL zt)) (s2_10 : zt10) (v1 : zt14) (s2_7 : Int) : TM := [(0, (.d (.agg [(di p0.Low), (di p0.High)]))), (1, (.d (dl zw p1.1 p1.2))), (zsp 2), (4, (.d (.sl [] .nil))), (5, (xb false)), (6, (.row 0 11 s2_10.length)), (7, (xi v1.1)), (15, (xb false)), (8, (xi s2_7))]
noncomputable def zPi (p0 : zj) (p1 : (SL zt)) (v1 : zt14) (s2_7 : Int) (s2_10 : zt10) : St := ⟨(zYm p0 p1 s2_10 v1 s2_7), ⟨[(2, (.cells [(xi p0.Low), (xi p0.High)])), (11, (rowO false 2 zr s2_10 true))], []⟩, []⟩
noncomputable def z6n (p0 : zj) (p1 : (SL zt)) (r v1 : zt14) : TM := [(0, (.d (.agg [(di p0.Low), (di p0.High)]))), (1, (.d (dl zw p1.1 p1.2))), (zsp 2), (4, (.d (.sl [] .nil))), (5, (xb false)), (6, (.row 0 11 r.2.length)), (7, (xi v1.1)), (15, (xb false)), (8, (xi r.1)), (55, (xb true)), (68, (xb true))]
noncomputable def z1d (p0 : zj) (p1 : (SL zt)) (v1 r : zt14) : St := ⟨(z6n p0 p1 r v1), ⟨[(2, (.cells [(xi p0.Low), (xi p0.High)])), (11, (rowO false 2 zr r.2 true))], []⟩, []⟩
noncomputable def zao (p0 : zj) (p1 : (SL zt)) (r v1 : zt14) : TM := [(0, (.d (.agg [(di p0.Low), (di p0.High)]))), (1, (.d (dl zw p1.1 p1.2))), (zsp 2), (4, (.d (.sl [] .nil))), (5, (xb false)), (6, (.row 0 11 r.2.length)), (7, (xi v1.1)), (15, (xb false)), (8, (xi r.1)), (55, (xb false))]
noncomputable def z0d (p0 : zj) (p1 : (SL zt)) (v1 r : zt14) : St := ⟨(zao p0 p1 r v1), ⟨[(2, (.cells [(xi p0.Low), (xi p0.High)])), (11, (rowO false 2 zr r.2 true))], []⟩, []⟩
noncomputable def z1i (p0 : zj) (p1 : (SL zt)) (v1 : zt14) : ((Int × (List zj)) ⊕ (Int × (List zj))) → Ex × St := Sum.elim (fun r => (.ret, z1d p0 p1 v1 r)) (fun r => ((.exit 2), z0d p0 p1 v1 r))
theorem zLf (k : Nat) (p0 : zj) (p1 : (SL zt)) (v1 : zt14) (s2_7 : Int) (s2_10 : zt10) (x : (Int × (List zj)) ⊕ ((Int × (List zj)) ⊕ (Int × (List zj)))) (h : zBb k p0 p1 v1 s2_7 s2_10 = some x) : LoopOK TE 74 (blk TE 74 2) (fun s : (Int × (List zj)) => zPi p0 p1 v1 s.1 s.2) (z1i p0 p1 v1) (s2_7, s2_10) x := by
 unfold zBb at h
 refine cond_ok h (fun h401 g1 => ?_) (fun h401 g1 => ?_)
 ·refine bind_ok g1 (fun v402 h403 g2 => ?_)
  refine bind_ok g2 (fun v404 h405 g3 => ?_)
  refine cond_ok g3 (fun h406 g4 => ?_) (fun h406 g4 => ?_)
  ·exact zqo [(74, 7, 1, .q (xb true)), (74, 9, 2, .q (.rp 0 11 s2_10.length s2_7.toNat 0)), (74, 9, 3, .q (.rp 0 11 s2_10.length s2_7.toNat 0)), (74, 9, 4, .q (xi v402.Low)), (74, 9, 7, .q (.rp 0 11 s2_10.length s2_7.toNat 0)), (74, 9, 8, .q (.rp 0 11 s2_10.length s2_7.toNat 1)), (74, 9, 9, .q (xi v404.High)), (74, 9, 10, .q (xb true))] [] g4 (ob (o_b h401) (ob (zqa 94 16 0 11 s2_7 false 2 zr s2_10 true (by kernel_rfl) (by kernel_rfl) h403) (ob (zqf 30 (0, 1, false) 0 11 0 0 s2_7 false 2 zr s2_10 true (by kernel_rfl) (by decide) h403) (ob (zql 3 (1, false) 0 11 0 s2_7 (xi v402.Low) false 2 zr s2_10 true (by kernel_rfl) h403 (by kernel_rfl)) (ob (zqa 94 16 0 11 s2_7 false 2 zr s2_10 true (by kernel_rfl) (by kernel_rfl) h405) (ob (zqf 30 (1, 1, false) 0 11 0 1 s2_7 false 2 zr s2_10 true (by kernel_rfl) (by decide) h405) (ob (zql 3 (1, false) 0 11 1 s2_7 (xi v404.High) false 2 zr s2_10 true (by kernel_rfl) h405 (by kernel_rfl)) (ob (o_b h406) ob0)))))))) (by kernel_rfl)
  ·refine cond_ok g4 (fun h407 g5 => ?_) (fun h407 g5 => ?_)
   ·refine bind_ok g5 (fun v408 h409 g6 => ?_)
    refine bind_ok g6 (fun v410 h411 g7 => ?_)
    refine bind_ok g7 (fun v412 h413 g8 => ?_)
    refine bind_ok g8 (fun v414 h415 g9 => ?_)
    refine bind_ok g9 (fun v416 h417 g10 => ?_)
    refine bind_ok g10 (fun v418 h419 g11 => ?_)
    refine bind_ok g11 (fun v420 h421 g12 => ?_)
    exact zqn ((w64 (s2_7 - 1)), (s2_10.set (w64 (s2_7 - 1)).toNat v418)) [11] [(74, 7, 1, .q (xb true)), (74, 9, 2, .q (.rp 0 11 s2_10.length s2_7.toNat 0)), (74, 9, 3, .q (.rp 0 11 s2_10.length s2_7.toNat 0)), (74, 9, 4, .q (xi v402.Low)), (74, 9, 7, .q (.rp 0 11 s2_10.length s2_7.toNat 0)), (74, 9, 8, .q (.rp 0 11 s2_10.length s2_7.toNat 1)), (74, 9, 9, .q (xi v404.High)), (74, 9, 10, .q (xb false)), (74, 11, 1, .q (xb true)), (74, 12, 3, .q (.d (.pin (zw v408)))), (74, 13, 6, .q (.rp 0 11 s2_10.length (w64 (s2_7 - 1)).toNat 0)), (74, 13, 7, .q (.d (.agg [(di v410.Low), (di v410.High)]))), (74, 13, 10, .q (.rp 0 11 s2_10.length s2_7.toNat 0)), (74, 13, 11, .q (.rp 0 11 s2_10.length s2_7.toNat 0)), (74, 13, 12, .q (xi v412.Low)), (74, 13, 18, .q (.rp 0 11 s2_10.length s2_7.toNat 0)), (74, 13, 19, .q (.rp 0 11 s2_10.length s2_7.toNat 1)), (74, 13, 20, .q (xi v414.High)), (74, 13, 24, .c (.agg [(di v416.Low), (di v416.High)])), (74, 13, 25, .c (.agg [(di v418.Low), (di v418.High)])), (74, 13, 26, .q (.rp 0 11 s2_10.length (w64 (s2_7 - 1)).toNat 0)), (74, 13, 27, .rs (rowO false 2 zr (s2_10.set (w64 (s2_7 - 1)).toNat v418) true)), (74, 13, 999, .nm [(6, (s2_10.set (w64 (s2_7 - 1)).toNat v418).length)] [])] [] g12 (ob (o_b h401) (ob (zqa 94 16 0 11 s2_7 false 2 zr s2_10 true (by kernel_rfl) (by kernel_rfl) h403) (ob (zqf 30 (0, 1, false) 0 11 0 0 s2_7 false 2 zr s2_10 true (by kernel_rfl) (by decide) h403) (ob (zql 3 (1, false) 0 11 0 s2_7 (xi v402.Low) false 2 zr s2_10 true (by kernel_rfl) h403 (by kernel_rfl)) (ob (zqa 94 16 0 11 s2_7 false 2 zr s2_10 true (by kernel_rfl) (by kernel_rfl) h405) (ob (zqf 30 (1, 1, false) 0 11 0 1 s2_7 false 2 zr s2_10 true (by kernel_rfl) (by decide) h405) (ob (zql 3 (1, false) 0 11 1 s2_7 (xi v404.High) false 2 zr s2_10 true (by kernel_rfl) h405 (by kernel_rfl)) (ob (o_b h406) (ob (o_b h407) (ob (o_ia (e := zw) 6 h409 rfl) (ob (zqa 94 16 0 11 (w64 (s2_7 - 1)) false 2 zr s2_10 true (by kernel_rfl) (by kernel_rfl) h411) (ob (zql 30 (2, true) 0 11 0 (w64 (s2_7 - 1)) (.d (.agg [(di v410.Low), (di v410.High)])) false 2 zr s2_10 true (by kernel_rfl) h411 (by kernel_rfl)) (ob (zqa 94 16 0 11 s2_7 false 2 zr s2_10 true (by kernel_rfl) (by kernel_rfl) h413) (ob (zqf 30 (0, 1, false) 0 11 0 0 s2_7 false 2 zr s2_10 true (by kernel_rfl) (by decide) h413) (ob (zql 3 (1, false) 0 11 0 s2_7 (xi v412.Low) false 2 zr s2_10 true (by kernel_rfl) h413 (by kernel_rfl)) (ob (zqa 94 16 0 11 s2_7 false 2 zr s2_10 true (by kernel_rfl) (by kernel_rfl) h415) (ob (zqf 30 (1, 1, false) 0 11 0 1 s2_7 false 2 zr s2_10 true (by kernel_rfl) (by decide) h415) (ob (zql 3 (1, false) 0 11 1 s2_7 (xi v414.High) false 2 zr s2_10 true (by kernel_rfl) h415 (by kernel_rfl)) (ob (zG k (w64 (v412.Low - v408.by_.High)) (w64 (v414.High - v408.by_.Low)) _ h417) (ob (zVe k v410 v416 _ h419) (ob (zqa 94 16 0 11 (w64 (s2_7 - 1)) false 2 zr s2_10 true (by kernel_rfl) (by kernel_rfl) h421) (ob (o_rs (b := false) (z := 2) (e := zr) (l := s2_10) (o := 0) (n := 2) (ds := [(di v418.Low), (di v418.High)]) (i := (w64 (s2_7 - 1))) (y' := v418) h421 (Nat.le_of_ble_eq_true rfl) rfl) (ob (show s2_10.length = (s2_10.set (w64 (s2_7 - 1)).toNat v418).length by simp) (ob (o_ref false 2 zr (s2_10.set (w64 (s2_7 - 1)).toNat v418) true) ob0)))))))))))))))))))))))) (by kernel_rfl)
   ·exact zqn ((w64 (s2_7 - 1)), s2_10) [11] [(74, 7, 1, .q (xb true)), (74, 9, 2, .q (.rp 0 11 s2_10.length s2_7.toNat 0)), (74, 9, 3, .q (.rp 0 11 s2_10.length s2_7.toNat 0)), (74, 9, 4, .q (xi v402.Low)), (74, 9, 7, .q (.rp 0 11 s2_10.length s2_7.toNat 0)), (74, 9, 8, .q (.rp 0 11 s2_10.length s2_7.toNat 1)), (74, 9, 9, .q (xi v404.High)), (74, 9, 10, .q (xb false)), (74, 11, 1, .q (xb false))] [] g5 (ob (o_b h401) (ob (zqa 94 16 0 11 s2_7 false 2 zr s2_10 true (by kernel_rfl) (by kernel_rfl) h403) (ob (zqf 30 (0, 1, false) 0 11 0 0 s2_7 false 2 zr s2_10 true (by kernel_rfl) (by decide) h403) (ob (zql 3 (1, false) 0 11 0 s2_7 (xi v402.Low) false 2 zr s2_10 true (by kernel_rfl) h403 (by kernel_rfl)) (ob (zqa 94 16 0 11 s2_7 false 2 zr s2_10 true (by kernel_rfl) (by kernel_rfl) h405) (ob (zqf 30 (1, 1, false) 0 11 0 1 s2_7 false 2 zr s2_10 true (by kernel_rfl) (by decide) h405) (ob (zql 3 (1, false) 0 11 1 s2_7 (xi v404.High) false 2 zr s2_10 true (by kernel_rfl) h405 (by kernel_rfl)) (ob (o_b h406) (ob (o_b h407) (ob (o_ref false 2 zr s2_10 true) ob0)))))))))) (by kernel_rfl)
 ·exact zqo [(74, 7, 1, .q (xb false))] [] g1 (ob (o_b h401) ob0) (by kernel_rfl)
theorem ztg (k : Nat) (p0 : zj) (p1 : (SL zt)) (r : ((SL zj) × Bool)) (h : z8c k p0 p1 = some r) : callP TE (ev TE) 74 [(.agg [(di p0.Low), (di p0.High)]), (dl zw p1.1 p1.2)] = some (zcf r) := by
 unfold z8c at h
 refine bind_ok h (fun v1 h2 g1 => ?_)
 refine bind_ok g1 (fun v3 h4 g2 => ?_)
 refine sum_ok g2 (fun v6 hh g3_0 => ?_) (fun v6 hh g3_0 => ?_)
 ·subst hh
  exact fin_ok (g := zcf) g3_0 (zqc [(74, 6, 1, .q (xi (p1.1.length : Int)))] [(74, 0, (.nor, zFb p0 p1 v1)), (74, 2, (.ret, z1d p0 p1 v1 v6))] (ob (block_ok (id := 0) (r' := (.nor, zFb p0 p1 v1)) (zU (zMf k p0 p1) k _ _ h2) rfl) (ob (o_len zw p1.1) (ob (block_ok (id := 2) (r' := (.ret, z1d p0 p1 v1 v6)) (zU (zLf k p0 p1 v1) k _ _ h4) rfl) ob0))) (by kernel_rfl))
 ·subst hh
  exact fin_ok (g := zcf) g3_0 (zqr [(74, 6, 1, .q (xi (p1.1.length : Int)))] [(74, 0, (.nor, zFb p0 p1 v1)), (74, 2, (.nor, z0d p0 p1 v1 v6))] [(dl zr v6.2 (rcap false v6.2)), (db true)] (ob (block_ok (id := 0) (r' := (.nor, zFb p0 p1 v1)) (zU (zMf k p0 p1) k _ _ h2) rfl) (ob (o_len zw p1.1) (ob (block_ok (id := 2) (r' := (.nor, z0d p0 p1 v1 v6)) (zU (zLf k p0 p1 v1) k _ _ h4) rfl) (ob (show snaps ⟨[(11, (rowO false 2 zr v6.2 true))], []⟩ _ = _ from (o_s1 (x := (.row 0 11 v6.2.length)) (snap_rowR false 2 zr v6.2 true rfl) (o_s1 (x := (xb true)) rfl o_s0))) ob0)))) (by kernel_rfl))
noncomputable def zwn (p0 : zb) (p1 p2 : Int) (v1 : (SL (SL Int))) (s1_15 : (List zu)) (s1_9 : Int) : TM := [(0, (.d (.agg (za p0)))), (1, (xi p1)), (2, (xi p2)), (zsp 3), (6, (.d (.sl [] .nil))), (7, (.d (dl (eL eI) v1.1 v1.2))), (8, (.row 0 8 s1_15.length)), (9, (xi s1_9))]
noncomputable def zVi (p0 : zb) (p1 p2 : Int) (v1 : (SL (SL Int))) (s1_9 : Int) (s1_15 : (List zu)) : St := ⟨(zwn p0 p1 p2 v1 s1_15 s1_9), ⟨[(zc 3 (za p0)), (8, (rowO true 3 zB s1_15 true))], []⟩, []⟩
noncomputable def zPn (p0 : zb) (p1 p2 : Int) (v1 : (SL (SL Int))) (r : (Int × (List zu))) : TM := [(0, (.d (.agg (za p0)))), (1, (xi p1)), (2, (xi p2)), (zsp 3), (6, (.d (.sl [] .nil))), (7, (.d (dl (eL eI) v1.1 v1.2))), (8, (.row 0 8 r.2.length)), (9, (xi r.1)), (19, (xb false))]
noncomputable def zZd (p0 : zb) (p1 p2 : Int) (v1 : (SL (SL Int))) (r : (Int × (List zu))) : St := ⟨(zPn p0 p1 p2 v1 r), ⟨[(zc 3 (za p0)), (8, (rowO true 3 zB r.2 true))], []⟩, []⟩
noncomputable def zRi (p0 : zb) (p1 p2 : Int) (v1 : (SL (SL Int))) : (Int × (List zu)) → Ex × St := fun r => ((.exit 0), zZd p0 p1 p2 v1 r)
theorem zei (k : Nat) (p0 : zb) (p1 p2 : Int) (v1 : (SL (SL Int))) (s1_9 : Int) (s1_15 : (List zu)) (x : (Int × (List zu)) ⊕ (Int × (List zu))) (h : zjc k p0 p1 p2 v1 s1_9 s1_15 = some x) : LoopOK TE 59 (blk TE 59 0) (fun s : (Int × (List zu)) => zVi p0 p1 p2 v1 s.1 s.2) (zRi p0 p1 p2 v1) (s1_9, s1_15) x := by
 unfold zjc at h
 refine cond_ok h (fun h301 g1 => ?_) (fun h301 g1 => ?_)
 ·refine bind_ok g1 (fun v302 h303 g2 => ?_)
  refine bind_ok g2 (fun v304 h305 g3 => ?_)
  refine bind_ok g3 (fun v306 h307 g4 => ?_)
  refine bind_ok g4 (fun v308 h309 g5 => ?_)
  refine cond_ok g5 (fun h310 g6 => ?_) (fun h310 g6 => ?_)
  ·refine bind_ok g6 (fun v311 h312 g7 => ?_)
   refine guard_ok g7 (fun h313 g8 => ?_)
   exact zqn ((w64 (s1_9 + 1)), (s1_15 ++ [(⟨v311, v304, v308.1⟩ : zu)])) [8] [(59, 4, 2, .q (xi (v1.1.length : Int))), (59, 4, 3, .q (xb true)), (59, 6, 4, .q (.d (.pin [(dl eI v302.1 v302.2)]))), (59, 6, 7, .c (dl zw v304.1 v304.2)), (59, 7, 3, .q (.d (.pin (zk v306)))), (59, 7, 7, .c (.tup [(dl zr v308.1.1 v308.1.2), (db v308.2)])), (59, 8, 0, .q (xb true)), (59, 9, 3, .q (.d (.pin [(dl eI v311.1 v311.2)]))), (59, 9, 9, .ap (s1_15 ++ [(⟨v311, v304, v308.1⟩ : zu)]).length (rowO true 3 zB (s1_15 ++ [(⟨v311, v304, v308.1⟩ : zu)]) true))] [] g8 (ob (o_len (eL eI) v1.1) (ob (o_b h301) (ob (o_ia (e := (eL eI)) 1 h303 rfl) (ob (zsg k p0 p1 v302 p2 _ h305) (ob (o_ia (e := zk) 3 h307 rfl) (ob (ztg k v306.Begin v304 _ h309) (ob (o_b h310) (ob (o_ia (e := (eL eI)) 1 h312 rfl) (ob (o_ap (b := true) (z := 3) (e := zB) (l := s1_15) (w := true) (⟨v311, v304, v308.1⟩ : zu) (fun _ => rfl) h313) (ob (o_ref true 3 zB (s1_15 ++ [(⟨v311, v304, v308.1⟩ : zu)]) true) ob0)))))))))) (by kernel_rfl)
  ·exact zqn ((w64 (s1_9 + 1)), s1_15) [8] [(59, 4, 2, .q (xi (v1.1.length : Int))), (59, 4, 3, .q (xb true)), (59, 6, 4, .q (.d (.pin [(dl eI v302.1 v302.2)]))), (59, 6, 7, .c (dl zw v304.1 v304.2)), (59, 7, 3, .q (.d (.pin (zk v306)))), (59, 7, 7, .c (.tup [(dl zr v308.1.1 v308.1.2), (db v308.2)])), (59, 8, 0, .q (xb false))] [] g6 (ob (o_len (eL eI) v1.1) (ob (o_b h301) (ob (o_ia (e := (eL eI)) 1 h303 rfl) (ob (zsg k p0 p1 v302 p2 _ h305) (ob (o_ia (e := zk) 3 h307 rfl) (ob (ztg k v306.Begin v304 _ h309) (ob (o_b h310) (ob (o_ref true 3 zB s1_15 true) ob0)))))))) (by kernel_rfl)
 ·exact zqo [(59, 4, 2, .q (xi (v1.1.length : Int))), (59, 4, 3, .q (xb false))] [] g1 (ob (o_len (eL eI) v1.1) (ob (o_b h301) ob0)) (by kernel_rfl)
theorem zlc (k : Nat) (p0 : zb) (p1 p2 : Int) (r : (SL zu)) (h : znb k p0 p1 p2 = some r) : callP TE (ev TE) 59 [(.agg (za p0)), (di p1), (di p2)] = some (zQg r) := by
 unfold znb at h
 refine bind_ok h (fun v1 h2 g1 => ?_)
 refine bind_ok g1 (fun v3 h4 g2 => ?_)
 exact fin_ok (g := zQg) g2 (zqr [(59, 1, 2, .c (dl (eL eI) v1.1 v1.2))] [(59, 0, (.nor, zZd p0 p1 p2 v1 v3))] [(dl zB v3.2 (rcap true v3.2))] (ob (zAk k p0 p1 _ h2) (ob (block_ok (id := 0) (r' := (.nor, zZd p0 p1 p2 v1 v3)) (zU (zei k p0 p1 p2 v1) k _ _ h4) rfl) (ob (show snaps ⟨[(8, (rowO true 3 zB v3.2 true))], []⟩ _ = _ from (o_s1 (x := (.row 0 8 v3.2.length)) (snap_rowR true 3 zB v3.2 true rfl) o_s0)) ob0))) (by kernel_rfl))
noncomputable def zMn (p0 : zb) (p1 s1_7 : Int) : TM := [(0, (.d (.agg (za p0)))), (1, (xi p1)), (zsp 2), (4, (xb false)), (5, (xi s1_7))]
noncomputable def zuj (p0 : zb) (p1 s1_7 : Int) : St := ⟨(zMn p0 p1 s1_7), ⟨[(zc 2 (za p0))], []⟩, []⟩
noncomputable def zZn (p0 : zb) (p1 r : Int) : TM := [(0, (.d (.agg (za p0)))), (1, (xi p1)), (zsp 2), (4, (xb false)), (5, (xi r)), (10, (xb true)), (18, (xb true))]
noncomputable def zme (p0 : zb) (p1 r : Int) : St := ⟨(zZn p0 p1 r), ⟨[(zc 2 (za p0))], []⟩, []⟩
noncomputable def zOn (p0 : zb) (p1 r : Int) : TM := [(0, (.d (.agg (za p0)))), (1, (xi p1)), (zsp 2), (4, (xb false)), (5, (xi r)), (10, (xb false))]
noncomputable def zie (p0 : zb) (p1 r : Int) : St := ⟨(zOn p0 p1 r), ⟨[(zc 2 (za p0))], []⟩, []⟩
noncomputable def zfj (p0 : zb) (p1 : Int) : (Int ⊕ Int) → Ex × St := Sum.elim (fun r => (.ret, zme p0 p1 r)) (fun r => ((.exit 0), zie p0 p1 r))
theorem z0f (k : Nat) (p0 : zb) (p1 s1_7 : Int) (x : Int ⊕ (Int ⊕ Int)) (h : zAc k p0 p1 s1_7 = some x) : LoopOK TE 86 (blk TE 86 0) (fun s : Int => zuj p0 p1 s) (zfj p0 p1) s1_7 x := by
 unfold zAc at h
 refine cond_ok h (fun h201 g1 => ?_) (fun h201 g1 => ?_)
 ·refine bind_ok g1 (fun v202 h203 g2 => ?_)
  refine cond_ok g2 (fun h204 g3 => ?_) (fun h204 g3 => ?_)
  ·exact zqo [(86, 2, 3, .q (xi (p0.Shelves.1.length : Int))), (86, 2, 4, .q (xb true)), (86, 4, 3, .c (dl zB v202.1 v202.2)), (86, 4, 4, .q (xi (v202.1.length : Int))), (86, 4, 5, .q (xb true))] [] g3 (ob (o_len zk p0.Shelves.1) (ob (o_b h201) (ob (zlc k p0 s1_7 p1 _ h203) (ob (o_len zB v202.1) (ob (o_b h204) ob0))))) (by kernel_rfl)
  ·exact zqn (w64 (s1_7 + 1)) [] [(86, 2, 3, .q (xi (p0.Shelves.1.length : Int))), (86, 2, 4, .q (xb true)), (86, 4, 3, .c (dl zB v202.1 v202.2)), (86, 4, 4, .q (xi (v202.1.length : Int))), (86, 4, 5, .q (xb false))] [] g3 (ob (o_len zk p0.Shelves.1) (ob (o_b h201) (ob (zlc k p0 s1_7 p1 _ h203) (ob (o_len zB v202.1) (ob (o_b h204) ob0))))) (by kernel_rfl)
 ·exact zqo [(86, 2, 3, .q (xi (p0.Shelves.1.length : Int))), (86, 2, 4, .q (xb false))] [] g1 (ob (o_len zk p0.Shelves.1) (ob (o_b h201) ob0)) (by kernel_rfl)
theorem zNg (k : Nat) (p0 : zb) (p1 : Int) (r : Bool) (h : zwc k p0 p1 = some r) : callP TE (ev TE) 86 [(.agg (za p0)), (di p1)] = some (zwf r) := by
 unfold zwc at h
 refine bind_ok h (fun v1 h2 g1 => ?_)
 refine sum_ok g1 (fun v4 hh g2_0 => ?_) (fun v4 hh g2_0 => ?_)
 ·subst hh
  exact fin_ok (g := zwf) g2_0 (zqc [] [(86, 0, (.ret, zme p0 p1 v4))] (ob (block_ok (id := 0) (r' := (.ret, zme p0 p1 v4)) (z9b (z0f k p0 p1) k _ _ h2) rfl) ob0) (by kernel_rfl))
 ·subst hh
  exact fin_ok (g := zwf) g2_0 (zqc [] [(86, 0, (.nor, zie p0 p1 v4))] (ob (block_ok (id := 0) (r' := (.nor, zie p0 p1 v4)) (z9b (z0f k p0 p1) k _ _ h2) rfl) ob0) (by kernel_rfl))
theorem zIb (k : Nat) (p0 : zb) (p1 : Bool) (r : Int) (h : zOb k p0 p1 = some r) : callP TE (ev TE) 55 [(.agg (za p0)), (db p1)] = some (zTc r) := by
 unfold zOb at h
 refine bind_ok h (fun v1 h2 g1 => ?_)
 refine cond_ok g1 (fun h3 g2 => ?_) (fun h3 g2 => ?_)
 ·exact fin_ok (g := zTc) g2 (zqc [(55, 1, 1, .c (di v1)), (55, 2, 1, .q (xb true))] [] (ob (zyc k p0 _ h2) (ob (o_b h3) ob0)) (by kernel_rfl))
 ·refine cond_ok g2 (fun h4 g3 => ?_) (fun h4 g3 => ?_)
  ·exact fin_ok (g := zTc) g3 (zqc [(55, 1, 1, .c (di v1)), (55, 2, 1, .q (xb false)), (55, 4, 1, .q (xb true))] [] (ob (zyc k p0 _ h2) (ob (o_b h3) (ob (o_b h4) ob0))) (by kernel_rfl))
  ·refine bind_ok g3 (fun v5 h6 g4 => ?_)
   refine cond_ok g4 (fun h7 g5 => ?_) (fun h7 g5 => ?_)
   ·exact fin_ok (g := zTc) g5 (zqc [(55, 1, 1, .c (di v1)), (55, 2, 1, .q (xb false)), (55, 4, 1, .q (xb false)), (55, 6, 1, .c (db v5)), (55, 6, 2, .q (xb true))] [] (ob (zyc k p0 _ h2) (ob (o_b h3) (ob (o_b h4) (ob (zNg k p0 0 _ h6) (ob (o_b h7) ob0))))) (by kernel_rfl))
   ·exact fin_ok (g := zTc) g5 (zqc [(55, 1, 1, .c (di v1)), (55, 2, 1, .q (xb false)), (55, 4, 1, .q (xb false)), (55, 6, 1, .c (db v5)), (55, 6, 2, .q (xb false))] [] (ob (zyc k p0 _ h2) (ob (o_b h3) (ob (o_b h4) (ob (zNg k p0 0 _ h6) (ob (o_b h7) ob0))))) (by kernel_rfl))
noncomputable def z1m (p0 : (SL zu)) (p1 : Int) (r : (Bool × (List zj))) (s1_3 s7_5 : Int) : TM := [(0, (.d (dl zB p0.1 p0.2))), (1, (xi p1)), (4, (.d (.sl [] .nil))), (5, (.row 0 5 r.2.length)), (6, (xi s1_3)), (11, (xb true)), (7, (xi s7_5)), (21, (xb true)), (34, (xb r.1))]
noncomputable def zmd (p0 : (SL zu)) (p1 s1_3 s7_5 : Int) (s7_6 : zt10) (cb : Bool) (r : (Bool × (List zj))) : St := ⟨(z1m p0 p1 r s1_3 s7_5), ⟨[(5, (rowO true 2 zr r.2 true))], []⟩, []⟩
noncomputable def zGn (p0 : (SL zu)) (p1 : Int) (s7_6 : zt10) (s1_3 s7_5 : Int) (cb : Bool) : TM := [(0, (.d (dl zB p0.1 p0.2))), (1, (xi p1)), (4, (.d (.sl [] .nil))), (5, (.row 0 5 s7_6.length)), (6, (xi s1_3)), (11, (xb true)), (7, (xi s7_5)), (21, (xb true)), (34, (xb cb))]
theorem zjj (k : Nat) (p0 : (SL zu)) (p1 s1_3 s7_5 : Int) (s7_6 : zt10) (cb : Bool) (r : (Bool × (List zj))) (h : zZc k p0 p1 s1_3 s7_5 s7_6 cb = some r) : ev TE 58 (cnd TE 58 34) ⟨(zGn p0 p1 s7_6 s1_3 s7_5 cb), ⟨[(5, (rowO true 2 zr s7_6 true))], []⟩, []⟩ = some (.nor, zmd p0 p1 s1_3 s7_5 s7_6 cb r) := by
 unfold zZc at h
 refine cond_ok h (fun h1001 g1 => ?_) (fun h1001 g1 => ?_)
 ·subst h1001
  refine bind_ok g1 (fun v1002 h1003 g2 => ?_)
  refine bind_ok g2 (fun v1004 h1005 g3 => ?_)
  refine guard_ok g3 (fun h1006 g4 => ?_)
  exact fin2_ok (g := fun r => (Ex.nor, zmd p0 p1 s1_3 s7_5 s7_6 true r)) g4 (zqe [(58, 9, 3, .q (.d (.pin (zB v1002)))), (58, 9, 8, .q (.d (.pin [(di v1004.Low), (di v1004.High)]))), (58, 9, 11, .ap (s7_6 ++ [v1004]).length (rowO true 2 zr (s7_6 ++ [v1004]) true))] [] (ob (o_ia (e := zB) 3 h1003 rfl) (ob (o_ia (e := zr) 2 h1005 rfl) (ob (o_ap (b := true) (z := 2) (e := zr) (l := s7_6) (w := true) v1004 (fun _ => rfl) h1006) ob0))) (by kernel_rfl))
 ·subst h1001
  exact fin2_ok (g := fun r => (Ex.nor, zmd p0 p1 s1_3 s7_5 s7_6 false r)) g1 (zqe [] [] ob0 (by kernel_rfl))
noncomputable def zho (p0 : (SL zu)) (p1 : Int) (s7_6 : zt10) (s1_3 s7_5 : Int) : TM := [(0, (.d (dl zB p0.1 p0.2))), (1, (xi p1)), (4, (.d (.sl [] .nil))), (5, (.row 0 5 s7_6.length)), (6, (xi s1_3)), (11, (xb true)), (7, (xi s7_5))]
noncomputable def zXj (p0 : (SL zu)) (p1 s1_3 s7_5 : Int) (s7_6 : zt10) : St := ⟨(zho p0 p1 s7_6 s1_3 s7_5), ⟨[(5, (rowO true 2 zr s7_6 true))], []⟩, []⟩
noncomputable def zfo (p0 : (SL zu)) (p1 : Int) (r : zt14) (s1_3 : Int) : TM := [(0, (.d (dl zB p0.1 p0.2))), (1, (xi p1)), (4, (.d (.sl [] .nil))), (5, (.row 0 5 r.2.length)), (6, (xi s1_3)), (11, (xb true)), (7, (xi r.1)), (21, (xb false))]
noncomputable def zLe (p0 : (SL zu)) (p1 s1_3 : Int) (r : zt14) : St := ⟨(zfo p0 p1 r s1_3), ⟨[(5, (rowO true 2 zr r.2 true))], []⟩, []⟩
noncomputable def zRj (p0 : (SL zu)) (p1 s1_3 : Int) : (Int × (List zj)) → Ex × St := fun r => ((.exit 2), zLe p0 p1 s1_3 r)
theorem z9i (k : Nat) (p0 : (SL zu)) (p1 s1_3 s7_5 : Int) (s7_6 : zt10) (x : (Int × (List zj)) ⊕ (Int × (List zj))) (h : zXb k p0 p1 s1_3 s7_5 s7_6 = some x) : LoopOK TE 58 (blk TE 58 2) (fun s : (Int × (List zj)) => zXj p0 p1 s1_3 s.1 s.2) (zRj p0 p1 s1_3) (s7_5, s7_6) x := by
 unfold zXb at h
 refine bind_ok h (fun v901 h902 g1 => ?_)
 refine cond_ok g1 (fun h903 g2 => ?_) (fun h903 g2 => ?_)
 ·refine bind_ok g2 (fun v904 h905 g3 => ?_)
  refine bind_ok g3 (fun v906 h907 g4 => ?_)
  refine bind_ok g4 (fun v908 h909 g5 => ?_)
  exact zqn ((w64 (s7_5 + 1)), v908.2) [5] [(58, 6, 3, .q (.d (.pin (zB v901)))), (58, 6, 6, .q (xi (v901.events.1.length : Int))), (58, 6, 7, .q (xb true)), (58, 8, 2, .q (.d (.pin (zB v904)))), (58, 8, 6, .q (.d (.pin (zw v906))))] [(58, 2000034, (.nor, zmd p0 p1 s1_3 s7_5 s7_6 (v906.day == p1) v908))] g5 (ob (o_ia (e := zB) 3 h902 rfl) (ob (o_len zw v901.events.1) (ob (o_b h903) (ob (o_ia (e := zB) 3 h905 rfl) (ob (o_ia (e := zw) 6 h907 rfl) (ob (zjj k p0 p1 s1_3 s7_5 s7_6 (v906.day == p1) _ h909) (ob (o_ref true 2 zr v908.2 true) ob0))))))) (by kernel_rfl)
 ·exact zqo [(58, 6, 3, .q (.d (.pin (zB v901)))), (58, 6, 6, .q (xi (v901.events.1.length : Int))), (58, 6, 7, .q (xb false))] [] g2 (ob (o_ia (e := zB) 3 h902 rfl) (ob (o_len zw v901.events.1) (ob (o_b h903) ob0))) (by kernel_rfl)
noncomputable def ztn (p0 : (SL zu)) (p1 : Int) (s1_4 : zt10) (s1_3 : Int) : TM := [(0, (.d (dl zB p0.1 p0.2))), (1, (xi p1)), (4, (.d (.sl [] .nil))), (5, (.row 0 5 s1_4.length)), (6, (xi s1_3))]
noncomputable def zPj (p0 : (SL zu)) (p1 s1_3 : Int) (s1_4 : zt10) : St := ⟨(ztn p0 p1 s1_4 s1_3), ⟨[(5, (rowO true 2 zr s1_4 true))], []⟩, []⟩
noncomputable def zPm (p0 : (SL zu)) (p1 : Int) (r : zt14) : TM := [(0, (.d (dl zB p0.1 p0.2))), (1, (xi p1)), (4, (.d (.sl [] .nil))), (5, (.row 0 5 r.2.length)), (6, (xi r.1)), (11, (xb false))]
noncomputable def zpe (p0 : (SL zu)) (p1 : Int) (r : zt14) : St := ⟨(zPm p0 p1 r), ⟨[(5, (rowO true 2 zr r.2 true))], []⟩, []⟩
noncomputable def zIj (p0 : (SL zu)) (p1 : Int) : (Int × (List zj)) → Ex × St := fun r => ((.exit 0), zpe p0 p1 r)
theorem zkj (k : Nat) (p0 : (SL zu)) (p1 s1_3 : Int) (s1_4 : zt10) (x : (Int × (List zj)) ⊕ (Int × (List zj))) (h : zVc k p0 p1 s1_3 s1_4 = some x) : LoopOK TE 58 (blk TE 58 0) (fun s : (Int × (List zj)) => zPj p0 p1 s.1 s.2) (zIj p0 p1) (s1_3, s1_4) x := by
 unfold zVc at h
 refine cond_ok h (fun h701 g1 => ?_) (fun h701 g1 => ?_)
 ·refine bind_ok g1 (fun v702 h703 g2 => ?_)
  exact zqn ((w64 (s1_3 + 1)), v702.2) [5] [(58, 3, 2, .q (xi (p0.1.length : Int))), (58, 3, 3, .q (xb true))] [(58, 2, (.nor, zLe p0 p1 s1_3 v702))] g2 (ob (o_len zB p0.1) (ob (o_b h701) (ob (block_ok (id := 2) (r' := (.nor, zLe p0 p1 s1_3 v702)) (zU (z9i k p0 p1 s1_3) k _ _ h703) rfl) (ob (o_ref true 2 zr v702.2 true) ob0)))) (by kernel_rfl)
 ·exact zqo [(58, 3, 2, .q (xi (p0.1.length : Int))), (58, 3, 3, .q (xb false))] [] g1 (ob (o_len zB p0.1) (ob (o_b h701) ob0)) (by kernel_rfl)
theorem zXd (k : Nat) (p0 : (SL zu)) (p1 : Int) (r : (SL zj)) (h : zab k p0 p1 = some r) : callP TE (ev TE) 58 [(dl zB p0.1 p0.2), (di p1)] = some (z8g r) := by
 unfold zab at h
 refine bind_ok h (fun v1 h2 g1 => ?_)
 exact fin_ok (g := z8g) g1 (zqr [] [(58, 0, (.nor, zpe p0 p1 v1))] [(dl zr v1.2 (rcap true v1.2))] (ob (block_ok (id := 0) (r' := (.nor, zpe p0 p1 v1)) (zU (zkj k p0 p1) k _ _ h2) rfl) (ob (show snaps ⟨[(5, (rowO true 2 zr v1.2 true))], []⟩ _ = _ from (o_s1 (x := (.row 0 5 v1.2.length)) (snap_rowR true 2 zr v1.2 true rfl) o_s0)) ob0)) (by kernel_rfl))
noncomputable def zun (p0 : (SL zj)) (s1_1 : Int) : TM := [(0, (.d (dl zr p0.1 p0.2))), (zsp 2), (zsp 3), (4, (xi s1_1))]
noncomputable def zUj (p0 : (SL zj)) (s1_1 s1_4 s1_5 : Int) : St := ⟨(zun p0 s1_1), ⟨[(2, (.cells [(xi 0), (xi 0)])), (3, (.cells [(xi s1_4), (xi s1_5)]))], []⟩, []⟩
noncomputable def z8m (p0 : (SL zj)) (r : (Int × Int × Int)) : TM := [(0, (.d (dl zr p0.1 p0.2))), (zsp 2), (zsp 3), (4, (xi r.1)), (11, (xb false))]
noncomputable def zue (p0 : (SL zj)) (r : (Int × Int × Int)) : St := ⟨(z8m p0 r), ⟨[(2, (.cells [(xi 0), (xi 0)])), (3, (.cells [(xi r.2.1), (xi r.2.2)]))], []⟩, []⟩
noncomputable def zZj (p0 : (SL zj)) : (Int × Int × Int) → Ex × St := fun r => ((.exit 0), zue p0 r)
theorem zzj (k : Nat) (p0 : (SL zj)) (s1_1 s1_4 s1_5 : Int) (x : (Int × Int × Int) ⊕ (Int × Int × Int)) (h : zQc k p0 s1_1 s1_4 s1_5 = some x) : LoopOK TE 57 (blk TE 57 0) (fun s : (Int × Int × Int) => zUj p0 s.1 s.2.1 s.2.2) (zZj p0) (s1_1, s1_4, s1_5) x := by
 unfold zQc at h
 refine cond_ok h (fun h201 g1 => ?_) (fun h201 g1 => ?_)
 ·refine bind_ok g1 (fun v202 h203 g2 => ?_)
  refine bind_ok g2 (fun v204 h205 g3 => ?_)
  refine bind_ok g3 (fun v206 h207 g4 => ?_)
  exact zqn ((w64 (s1_1 + 1)), v206.Low, v206.High) [] [(57, 3, 2, .q (xi (p0.1.length : Int))), (57, 3, 3, .q (xb true)), (57, 5, 4, .q (.d (.pin [(di v202.Low), (di v202.High)]))), (57, 5, 12, .q (.d (.pin [(di v204.Low), (di v204.High)]))), (57, 5, 16, .c (.agg [(di v206.Low), (di v206.High)]))] [] g4 (ob (o_len zr p0.1) (ob (o_b h201) (ob (o_ia (e := zr) 2 h203 rfl) (ob (o_ia (e := zr) 2 h205 rfl) (ob (zG k (if v202.Low < s1_4 then v202.Low else s1_4) (if v204.High > s1_5 then v204.High else s1_5) _ h207) ob0))))) (by kernel_rfl)
 ·exact zqo [(57, 3, 2, .q (xi (p0.1.length : Int))), (57, 3, 3, .q (xb false))] [] g1 (ob (o_len zr p0.1) (ob (o_b h201) ob0)) (by kernel_rfl)
theorem zxf (k : Nat) (p0 : (SL zj)) (r : zj) (h : zyb k p0 = some r) : callP TE (ev TE) 57 [(dl zr p0.1 p0.2)] = some (zeh r) := by
 unfold zyb at h
 refine bind_ok h (fun v1 h2 g1 => ?_)
 refine bind_ok g1 (fun v3 h4 g2 => ?_)
 exact fin_ok (g := zeh) g2 (zqc [(57, 1, 1, .q (.d (.pin [(di v1.Low), (di v1.High)])))] [(57, 0, (.nor, zue p0 v3))] (ob (o_ia (e := zr) 2 h2 rfl) (ob (block_ok (id := 0) (r' := (.nor, zue p0 v3)) (zxm (zzj k p0) k _ _ h4) rfl) ob0)) (by kernel_rfl))
theorem z5c (k : Nat) (p0 : zb) (p1 p2 : Int) (r : zt7) (h : z4d k p0 p1 p2 = some r) : callP TE (ev TE) 17 [(.agg (za p0)), (di p1), (di p2)] = some (zRf r) := by
 unfold z4d at h
 refine bind_ok h (fun v1 h2 g1 => ?_)
 refine bind_ok g1 (fun v3 h4 g2 => ?_)
 refine cond_ok g2 (fun h5 g3 => ?_) (fun h5 g3 => ?_)
 ·exact fin_ok (g := zRf) g3 (zqc [(17, 1, 4, .c (db v1)), (17, 1, 5, .c (di v3)), (17, 2, 1, .q (xb true))] [] (ob (zJb k p0 p1 p2 _ h2) (ob (zIb k p0 v1 _ h4) (ob (o_b h5) ob0))) (by kernel_rfl))
 ·refine bind_ok g3 (fun v6 h7 g4 => ?_)
  refine bind_ok g4 (fun v8 h9 g5 => ?_)
  refine bind_ok g5 (fun v10 h11 g6 => ?_)
  exact fin_ok (g := zRf) g6 (zqc [(17, 1, 4, .c (db v1)), (17, 1, 5, .c (di v3)), (17, 2, 1, .q (xb false)), (17, 4, 2, .c (dl zB v6.1 v6.2)), (17, 4, 4, .c (dl zr v8.1 v8.2)), (17, 4, 5, .c (.agg [(di v10.Low), (di v10.High)]))] [] (ob (zJb k p0 p1 p2 _ h2) (ob (zIb k p0 v1 _ h4) (ob (o_b h5) (ob (zlc k p0 p1 0 _ h7) (ob (zXd k v6 p2 _ h9) (ob (zxf k v8 _ h11) ob0)))))) (by kernel_rfl))
theorem zV (k : Nat) (p0 : zb) (p1 p2 p3 : Int) (r : zt1) (h : z9f k p0 p1 p2 p3 = some r) : callP TE (ev TE) 20 [(.agg (za p0)), (di p1), (di p2), (di p3)] = some (zLh r) := by
 unfold z9f at h
 refine bind_ok h (fun v1 h2 g1 => ?_)
 refine bind_ok g1 (fun v3 h4 g2 => ?_)
 refine cond_ok g2 (fun h5 g3 => ?_) (fun h5 g3 => ?_)
 ·exact fin_ok (g := zLh) g3 (zqc [(20, 1, 4, .c (db v1)), (20, 1, 5, .c (di v3)), (20, 2, 1, .q (xb true))] [] (ob (z9c k p0 p1 p2 _ h2) (ob (zdb k p0 v1 _ h4) (ob (o_b h5) ob0))) (by kernel_rfl))
 ·refine bind_ok g3 (fun v6 h7 g4 => ?_)
  refine cond_ok g4 (fun h8 g5 => ?_) (fun h8 g5 => ?_)
  ·refine bind_ok g5 (fun v9 h10 g6 => ?_)
   refine guard_ok g6 (fun h11 g7 => ?_)
   refine guard_ok g7 (fun h12 g8 => ?_)
   exact fin_ok (g := zLh) g8 (zqc [(20, 1, 4, .c (db v1)), (20, 1, 5, .c (di v3)), (20, 2, 1, .q (xb false)), (20, 4, 1, .c (db v6)), (20, 4, 2, .q (xb true)), (20, 4, 6, .c (.agg (aB 732 v9))), (20, 4, 8, .q (.d (.agg (aB 61 (fun k => v9 (p2.toNat * 61 + k)))))), (20, 4, 10, .q (xb ((fun k => v9 (p2.toNat * 61 + k)) p3.toNat)))] [] (ob (z9c k p0 p1 p2 _ h2) (ob (zdb k p0 v1 _ h4) (ob (o_b h5) (ob (zD k p3 0 60 _ h7) (ob (o_b h8) (ob (z8 k (⟨p0, p1, 0⟩ : zd) _ h10) (ob (o_ixaB 12 61 v9 p2 h11) (ob (o_ixB 61 (fun k => v9 (p2.toNat * 61 + k)) p3 h12) ob0)))))))) (by kernel_rfl))
  ·exact fin_ok (g := zLh) g5 (zqc [(20, 1, 4, .c (db v1)), (20, 1, 5, .c (di v3)), (20, 2, 1, .q (xb false)), (20, 4, 1, .c (db v6)), (20, 4, 2, .q (xb false))] [] (ob (z9c k p0 p1 p2 _ h2) (ob (zdb k p0 v1 _ h4) (ob (o_b h5) (ob (zD k p3 0 60 _ h7) (ob (o_b h8) ob0))))) (by kernel_rfl))
theorem zph (k : Nat) (p0 : zj) (p1 : Int) (r : Bool) (h : z8d k p0 p1 = some r) : callP TE (ev TE) 39 [(.agg [(di p0.Low), (di p0.High)]), (di p1)] = some (zxh r) := by
 unfold z8d at h
 refine bind_ok h (fun v1 h2 g1 => ?_)
 exact fin_ok (g := zxh) g1 (zqc [(39, 1, 5, .c (db v1))] [] (ob (zE k p1 p0.Low p0.High _ h2) ob0) (by kernel_rfl))
noncomputable def zen (p0 : (SL zj)) (p1 s1_3 : Int) : TM := [(0, (.d (dl zr p0.1 p0.2))), (1, (xi p1)), (4, (xb false)), (5, (xi s1_3))]
noncomputable def zBj (p0 : (SL zj)) (p1 s1_3 : Int) : St := ⟨(zen p0 p1 s1_3), ⟨[], []⟩, []⟩
noncomputable def zbn (p0 : (SL zj)) (p1 r : Int) : TM := [(0, (.d (dl zr p0.1 p0.2))), (1, (xi p1)), (4, (xb true)), (5, (xi r)), (9, (xb true)), (17, (xb true))]
noncomputable def zwe (p0 : (SL zj)) (p1 r : Int) : St := ⟨(zbn p0 p1 r), ⟨[], []⟩, []⟩
noncomputable def zan (p0 : (SL zj)) (p1 r : Int) : TM := [(0, (.d (dl zr p0.1 p0.2))), (1, (xi p1)), (4, (xb false)), (5, (xi r)), (9, (xb false))]
noncomputable def zye (p0 : (SL zj)) (p1 r : Int) : St := ⟨(zan p0 p1 r), ⟨[], []⟩, []⟩
noncomputable def zSj (p0 : (SL zj)) (p1 : Int) : (Int ⊕ Int) → Ex × St := Sum.elim (fun r => (.ret, zwe p0 p1 r)) (fun r => ((.exit 0), zye p0 p1 r))
theorem zeg (k : Nat) (p0 : (SL zj)) (p1 s1_3 : Int) (x : Int ⊕ (Int ⊕ Int)) (h : zYc k p0 p1 s1_3 = some x) : LoopOK TE 64 (blk TE 64 0) (fun s : Int => zBj p0 p1 s) (zSj p0 p1) s1_3 x := by
 unfold zYc at h
 refine cond_ok h (fun h201 g1 => ?_) (fun h201 g1 => ?_)
 ·refine bind_ok g1 (fun v202 h203 g2 => ?_)
  refine bind_ok g2 (fun v204 h205 g3 => ?_)
  refine cond_ok g3 (fun h206 g4 => ?_) (fun h206 g4 => ?_)
  ·subst h206
   exact zqo [(64, 2, 2, .q (xi (p0.1.length : Int))), (64, 2, 3, .q (xb true)), (64, 4, 2, .q (.d (.pin [(di v202.Low), (di v202.High)]))), (64, 4, 5, .c (db true))] [] g4 (ob (o_len zr p0.1) (ob (o_b h201) (ob (o_ia (e := zr) 2 h203 rfl) (ob (zph k v202 p1 _ h205) ob0)))) (by kernel_rfl)
  ·subst h206
   exact zqn (w64 (s1_3 + 1)) [] [(64, 2, 2, .q (xi (p0.1.length : Int))), (64, 2, 3, .q (xb true)), (64, 4, 2, .q (.d (.pin [(di v202.Low), (di v202.High)]))), (64, 4, 5, .c (db false))] [] g4 (ob (o_len zr p0.1) (ob (o_b h201) (ob (o_ia (e := zr) 2 h203 rfl) (ob (zph k v202 p1 _ h205) ob0)))) (by kernel_rfl)
 ·exact zqo [(64, 2, 2, .q (xi (p0.1.length : Int))), (64, 2, 3, .q (xb false))] [] g1 (ob (o_len zr p0.1) (ob (o_b h201) ob0)) (by kernel_rfl)
theorem zOk (k : Nat) (p0 : (SL zj)) (p1 : Int) (r : Bool) (h : zGd k p0 p1 = some r) : callP TE (ev TE) 64 [(dl zr p0.1 p0.2), (di p1)] = some (zDf r) := by
 unfold zGd at h
 refine bind_ok h (fun v1 h2 g1 => ?_)
 refine sum_ok g1 (fun v4 hh g2_0 => ?_) (fun v4 hh g2_0 => ?_)
 ·subst hh
  exact fin_ok (g := zDf) g2_0 (zqc [] [(64, 0, (.ret, zwe p0 p1 v4))] (ob (block_ok (id := 0) (r' := (.ret, zwe p0 p1 v4)) (z9b (zeg k p0 p1) k _ _ h2) rfl) ob0) (by kernel_rfl))
 ·subst hh
  exact fin_ok (g := zDf) g2_0 (zqc [] [(64, 0, (.nor, zye p0 p1 v4))] (ob (block_ok (id := 0) (r' := (.nor, zye p0 p1 v4)) (z9b (zeg k p0 p1) k _ _ h2) rfl) ob0) (by kernel_rfl))
theorem zne (k : Nat) (p0 : zb) (p1 p2 p3 : Int) (r : zt1) (h : z7d k p0 p1 p2 p3 = some r) : callP TE (ev TE) 21 [(.agg (za p0)), (di p1), (di p2), (di p3)] = some (zSf r) := by
 unfold z7d at h
 refine bind_ok h (fun v1 h2 g1 => ?_)
 refine bind_ok g1 (fun v3 h4 g2 => ?_)
 refine cond_ok g2 (fun h5 g3 => ?_) (fun h5 g3 => ?_)
 ·exact fin_ok (g := zSf) g3 (zqc [(21, 1, 4, .c (db v1)), (21, 1, 5, .c (di v3)), (21, 2, 1, .q (xb true))] [] (ob (zJb k p0 p1 p2 _ h2) (ob (zIb k p0 v1 _ h4) (ob (o_b h5) ob0))) (by kernel_rfl))
 ·refine bind_ok g3 (fun v6 h7 g4 => ?_)
  refine bind_ok g4 (fun v8 h9 g5 => ?_)
  refine bind_ok g5 (fun v10 h11 g6 => ?_)
  exact fin_ok (g := zSf) g6 (zqc [(21, 1, 4, .c (db v1)), (21, 1, 5, .c (di v3)), (21, 2, 1, .q (xb false)), (21, 4, 2, .c (dl zB v6.1 v6.2)), (21, 4, 4, .c (dl zr v8.1 v8.2)), (21, 4, 6, .c (db v10))] [] (ob (zJb k p0 p1 p2 _ h2) (ob (zIb k p0 v1 _ h4) (ob (o_b h5) (ob (zlc k p0 p1 0 _ h7) (ob (zXd k v6 p2 _ h9) (ob (zOk k v8 p3 _ h11) ob0)))))) (by kernel_rfl))
noncomputable def zSm (p0 : zb) (p1 p2 v3 s1_11 s1_12 : Int) : TM := [(0, (.d (.agg (za p0)))), (1, (xi p1)), (2, (xi p2)), (zsp 3), (6, (xi 0)), (7, (xi 0)), (8, (xi v3)), (19, (xb false)), (9, (xi s1_11)), (zsp 10), (11, (xi s1_12))]
noncomputable def zam (p0 : zb) (p1 p2 v3 : Int) (v6 : zt0) (s1_11 s1_12 : Int) : St := ⟨(zSm p0 p1 p2 v3 s1_11 s1_12), ⟨[(zc 3 (za p0)), (zc 10 (aB 732 v6))], []⟩, []⟩
noncomputable def zRm (p0 : zb) (p1 p2 v3 : Int) (r : (Int × Int)) : TM := [(0, (.d (.agg (za p0)))), (1, (xi p1)), (2, (xi p2)), (zsp 3), (6, (xi 0)), (7, (xi 0)), (8, (xi v3)), (19, (xb false)), (9, (xi r.1)), (zsp 10), (11, (xi r.2)), (29, (xb false))]
noncomputable def z0g (p0 : zb) (p1 p2 v3 : Int) (v6 : zt0) (r : (Int × Int)) : St := ⟨(zRm p0 p1 p2 v3 r), ⟨[(zc 3 (za p0)), (zc 10 (aB 732 v6))], []⟩, []⟩
noncomputable def zhm (p0 : zb) (p1 p2 v3 : Int) (v6 : zt0) : (Int × Int) → Ex × St := fun r => ((.exit 0), z0g p0 p1 p2 v3 v6 r)
theorem zVl (k : Nat) (p0 : zb) (p1 p2 v3 : Int) (v6 : zt0) (s1_11 s1_12 : Int) (x : (Int × Int) ⊕ (Int × Int)) (h : zPf k p0 p1 p2 v3 v6 s1_11 s1_12 = some x) : LoopOK TE 22 (blk TE 22 0) (fun s : (Int × Int) => zam p0 p1 p2 v3 v6 s.1 s.2) (zhm p0 p1 p2 v3 v6) (s1_11, s1_12) x := by
 unfold zPf at h
 refine cond_ok h (fun h201 g1 => ?_) (fun h201 g1 => ?_)
 ·refine guard_ok g1 (fun h202 g2 => ?_)
  refine bind_ok g2 (fun v203 h204 g3 => ?_)
  refine bind_ok g3 (fun v205 h206 g4 => ?_)
  exact zqn ((w64 (0 - v205)), (w64 (s1_12 + 1))) [] [(22, 7, 3, .q (xb true)), (22, 9, 3, .q (.ptr 0 10 ((s1_12.toNat * 61)))), (22, 9, 4, .q (.d (.agg (aB 61 (fun k => v6 ((s1_12.toNat * 61) + k)))))), (22, 9, 5, .c (.agg [(di v203.Low), (di v203.High)])), (22, 9, 9, .c (di v205))] [] g4 (ob (o_b h201) (ob (o_aptr (m := 12) 0 10 0 61 (s1_12.toNat * 61) h202 (by omega)) (ob (o_ldaB 732 61 v6 (s1_12.toNat * 61) (by have := h202; simp only [Bool.and_eq_true, decide_eq_true_eq] at this; omega)) (ob (zbd k (fun k => v6 ((s1_12.toNat * 61) + k)) _ h204) (ob (zrf k (w64 (0 - s1_11)) ([(w64 (0 - v203.Low))], .ex) _ h206) ob0))))) (by kernel_rfl)
 ·exact zqo [(22, 7, 3, .q (xb false))] [] g1 (ob (o_b h201) ob0) (by kernel_rfl)
theorem zlb (k : Nat) (p0 : zb) (p1 p2 : Int) (r : (Int × Int)) (h : zng k p0 p1 p2 = some r) : callP TE (ev TE) 22 [(.agg (za p0)), (di p1), (di p2)] = some (zmj r) := by
 unfold zng at h
 refine bind_ok h (fun v1 h2 g1 => ?_)
 refine bind_ok g1 (fun v3 h4 g2 => ?_)
 refine cond_ok g2 (fun h5 g3 => ?_) (fun h5 g3 => ?_)
 ·exact fin_ok (g := zmj) g3 (zqc [(22, 1, 4, .c (db v1)), (22, 1, 5, .c (di v3)), (22, 2, 1, .q (xb true))] [] (ob (z9c k p0 p1 p2 _ h2) (ob (zdb k p0 v1 _ h4) (ob (o_b h5) ob0))) (by kernel_rfl))
 ·refine bind_ok g3 (fun v6 h7 g4 => ?_)
  refine bind_ok g4 (fun v8 h9 g5 => ?_)
  exact fin_ok (g := zmj) g5 (zqc [(22, 1, 4, .c (db v1)), (22, 1, 5, .c (di v3)), (22, 2, 1, .q (xb false)), (22, 5, 3, .c (.agg (aB 732 v6)))] [(22, 0, (.nor, z0g p0 p1 p2 v3 v6 v8))] (ob (z9c k p0 p1 p2 _ h2) (ob (zdb k p0 v1 _ h4) (ob (o_b h5) (ob (z8 k (⟨p0, p1, 0⟩ : zd) _ h7) (ob (block_ok (id := 0) (r' := (.nor, z0g p0 p1 p2 v3 v6 v8)) (zU (zVl k p0 p1 p2 v3 v6) k _ _ h9) rfl) ob0))))) (by kernel_rfl))
noncomputable def zgo (p0 : zb) (p1 p2 v3 : Int) (v6 : (SL zu)) (s1_12 s1_13 : Int) : TM := [(0, (.d (.agg (za p0)))), (1, (xi p1)), (2, (xi p2)), (zsp 3), (6, (xi 0)), (7, (xi 0)), (8, (xi v3)), (19, (xb false)), (9, (.d (dl zB v6.1 v6.2))), (10, (xi s1_12)), (11, (xi s1_13))]
noncomputable def z5j (p0 : zb) (p1 p2 v3 : Int) (v6 : (SL zu)) (s1_12 s1_13 : Int) : St := ⟨(zgo p0 p1 p2 v3 v6 s1_12 s1_13), ⟨[(zc 3 (za p0))], []⟩, []⟩
noncomputable def z4n (p0 : zb) (p1 p2 v3 : Int) (v6 : (SL zu)) (r : (Int × Int)) : TM := [(0, (.d (.agg (za p0)))), (1, (xi p1)), (2, (xi p2)), (zsp 3), (6, (xi 0)), (7, (xi 0)), (8, (xi v3)), (19, (xb false)), (9, (.d (dl zB v6.1 v6.2))), (10, (xi r.1)), (11, (xi r.2)), (33, (xb false))]
noncomputable def zIe (p0 : zb) (p1 p2 v3 : Int) (v6 : (SL zu)) (r : (Int × Int)) : St := ⟨(z4n p0 p1 p2 v3 v6 r), ⟨[(zc 3 (za p0))], []⟩, []⟩
end Go.AM

