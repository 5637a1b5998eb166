/- The statement ShelfDues holds for every input that its row lets in. Conditions: none. -/
import Derived.Test.YtfoohlabifhplaaDoorC
set_option linter.all false
set_option linter.unusedVariables false
set_option maxRecDepth 100000
namespace Go.AM
open Go Go.Proofs
def zsp (n : Nat) : Nat × X := (n, .ptr 0 n 0)
def zc (n : Nat) (l : List D) : Nat × O := (n, .cells (l.map .d))
section
variable {E : Env} {fid : Nat} {c : Code}
theorem zqn {S R : Type} {S0 : S → St} {R0 : R → Ex × St} {s : S} {x : S ⊕ R} (s' : S) (rs : List Nat) (V : Ovs) (C : Cuts) (h : some (Sum.inl s') = some x) {P : List Prop} (hP : All P) (hr : loopV E V C rs 80 fid c (S0 s) = some (.inl (S0 s'), P)) : LoopOK E fid c S0 R0 s x := next_ok h hP hr
theorem zqo {S R : Type} {S0 : S → St} {R0 : R → Ex × St} {s : S} {r : R} {x : S ⊕ R} (V : Ovs) (C : Cuts) (h : some (Sum.inr r) = some x) {P : List Prop} (hP : All P) (hr : loopV E V C [] 80 fid c (S0 s) = some (.inr (R0 r), P)) : LoopOK E fid c S0 R0 s x := out_ok h hP hr
theorem zvc {A0 R : Type} {S0 : A0 → St} {R0 : R → Ex × St} {W : A0 → Option ((A0) ⊕ R)} (h : ∀ b0 x, W b0 = some x → LoopOK E fid c S0 R0 b0 x) : ∀ (m : Nat) (s : A0) (r : R), iter (fun s => W s) m s = some r → ev E fid c (S0 s) = some (R0 r) := iter_ok fun s x e => h s x e
theorem zR {A0 A1 R : Type} {S0 : A0 × A1 → St} {R0 : R → Ex × St} {W : A0 → A1 → Option ((A0 × A1) ⊕ R)} (h : ∀ b0 b1 x, W b0 b1 = some x → LoopOK E fid c S0 R0 (b0, b1) x) : ∀ (m : Nat) (s : A0 × A1) (r : R), iter (fun s => W s.1 s.2) m s = some r → ev E fid c (S0 s) = some (R0 r) := iter_ok fun s x e => h s.1 s.2 x e
theorem zhm {A0 A1 A2 R : Type} {S0 : A0 × A1 × A2 → St} {R0 : R → Ex × St} {W : A0 → A1 → A2 → Option ((A0 × A1 × A2) ⊕ R)} (h : ∀ b0 b1 b2 x, W b0 b1 b2 = some x → LoopOK E fid c S0 R0 (b0, b1, b2) x) : ∀ (m : Nat) (s : A0 × A1 × A2) (r : R), iter (fun s => W s.1 s.2.1 s.2.2) m s = some r → ev E fid c (S0 s) = some (R0 r) := iter_ok fun s x e => h s.1 s.2.1 s.2.2 x e
theorem znm {A0 A1 A2 A3 R : Type} {S0 : A0 × A1 × A2 × A3 → St} {R0 : R → Ex × St} {W : A0 → A1 → A2 → A3 → Option ((A0 × A1 × A2 × A3) ⊕ R)} (h : ∀ b0 b1 b2 b3 x, W b0 b1 b2 b3 = some x → LoopOK E fid c S0 R0 (b0, b1, b2, b3) x) : ∀ (m : Nat) (s : A0 × A1 × A2 × A3) (r : R), iter (fun s => W s.1 s.2.1 s.2.2.1 s.2.2.2) m s = some r → ev E fid c (S0 s) = some (R0 r) := iter_ok fun s x e => h s.1 s.2.1 s.2.2.1 s.2.2.2 x e
theorem zmp {A0 A1 A2 A3 A4 R : Type} {S0 : A0 × A1 × A2 × A3 × A4 → St} {R0 : R → Ex × St} {W : A0 → A1 → A2 → A3 → A4 → Option ((A0 × A1 × A2 × A3 × A4) ⊕ R)} (h : ∀ b0 b1 b2 b3 b4 x, W b0 b1 b2 b3 b4 = some x → LoopOK E fid c S0 R0 (b0, b1, b2, b3, b4) x) : ∀ (m : Nat) (s : A0 × A1 × A2 × A3 × A4) (r : R), iter (fun s => W s.1 s.2.1 s.2.2.1 s.2.2.2.1 s.2.2.2.2) m s = some r → ev E fid c (S0 s) = some (R0 r) := iter_ok fun s x e => h s.1 s.2.1 s.2.2.1 s.2.2.2.1 s.2.2.2.2 x e
theorem znp {A0 A1 A2 A3 A4 A5 R : Type} {S0 : A0 × A1 × A2 × A3 × A4 × A5 → St} {R0 : R → Ex × St} {W : A0 → A1 → A2 → A3 → A4 → A5 → Option ((A0 × A1 × A2 × A3 × A4 × A5) ⊕ R)} (h : ∀ b0 b1 b2 b3 b4 b5 x, W b0 b1 b2 b3 b4 b5 = some x → LoopOK E fid c S0 R0 (b0, b1, b2, b3, b4, b5) x) : ∀ (m : Nat) (s : A0 × A1 × A2 × A3 × A4 × A5) (r : R), iter (fun s => W s.1 s.2.1 s.2.2.1 s.2.2.2.1 s.2.2.2.2.1 s.2.2.2.2.2) m s = some r → ev E fid c (S0 s) = some (R0 r) := iter_ok fun s x e => h s.1 s.2.1 s.2.2.1 s.2.2.2.1 s.2.2.2.2.1 s.2.2.2.2.2 x e
theorem zqe {st : St} {r : Ex × St} {P : List Prop} (V : Ovs) (C : Cuts) (hP : All P) (h : evV E V C 80 fid c st = some (r, P)) : ev E fid c st = some r := evV_ok hP h
theorem zqc {f : Nat} {ds : List D} {d : D} {P : List Prop} (V : Ovs) (C : Cuts) (hP : All P) (h : callV E V C 80 f ds = some (d, P)) : callP E (ev E) f ds = some d := callV_ok hP h
theorem zqr {f : Nat} {ds : List D} {d : D} {P : List Prop} (V : Ovs) (C : Cuts) (res : List D) (hP : All P) (h : callVR E V C 80 f ds res = some (d, P)) : callP E (ev E) f ds = some d := callVR_ok hP h
end
section
variable {α : Type}
theorem zqa (T : TypeId) (bt lv s : Nat) (n : Int) (b : Bool) (z : Nat) (e : α → List D) (l : List α) (w : Bool) {y : α} (ha : arT TE.P T = none) (hs : slT TE.P T = some (z, bt)) (h : idx l n = some y) : iaX TE.P (fun _ _ => some (rowO b z e l w)) T (.row lv s l.length) (xi n) = some (.rp lv s l.length n.toNat 0) := o_ria ha hs h
theorem zql (T : TypeId) (q : Nat × Bool) (lv s o : Nat) (n : Int) (x : X) (b : Bool) (z : Nat) (e : α → List D) (l : List α) (w : Bool) {y : α} (ht : tyT TE.P T = some q) (h : idx l n = some y) (hx : (grabD q.2 q.1 ((e y).drop o)).map X.d = some x) : ldX TE.P (fun _ _ => some (rowO b z e l w)) T (.rp lv s l.length n.toNat o) = some x := o_rld ht h hx
theorem zqf (T : TypeId) (q : Nat × Nat × Bool) (lv s o f : Nat) (n : Int) (b : Bool) (z : Nat) (e : α → List D) (l : List α) (w : Bool) {y : α} (hf : fdT TE.P T f = some q) (hq : q.2.1 ≠ 0) (h : idx l n = some y) : faX TE.P (fun _ _ => some (rowO b z e l w)) T (.rp lv s l.length n.toNat o) f = some (.rp lv s l.length n.toNat (o + q.1)) := o_rfa hf hq h
end
theorem zC (k : Nat) (p0 p1 p2 : Int) (r : Bool) (h : zN k p0 p1 p2 = some r) : callP TE (ev TE) 60 [(di p0), (di p1), (di p2)] = some (zih r) := by
 unfold zN at h
 refine cond_ok h (fun h1 g1 => ?_) (fun h1 g1 => ?_)
 ·exact fin_ok (g := zih) g1 (zqc [(60, 1, 3, .q (xb true))] [] (ob (o_b h1) ob0) (by kernel_rfl))
 ·exact fin_ok (g := zih) g1 (zqc [(60, 1, 3, .q (xb false))] [] (ob (o_b h1) ob0) (by kernel_rfl))
theorem zFe (k : Nat) (p0 : zi) (p1 p2 : Int) (r : Bool) (h : zvd k p0 p1 p2 = some r) : callP TE (ev TE) 61 [(.agg [(di p0.Low), (di p0.High)]), (di p1), (di p2)] = some (z8f r) := by
 unfold zvd at h
 refine cond_ok h (fun h1 g1 => ?_) (fun h1 g1 => ?_)
 ·refine cond_ok g1 (fun h2 g2 => ?_) (fun h2 g2 => ?_)
  ·exact fin_ok (g := z8f) g2 (zqc [(61, 1, 4, .q (xb true)), (61, 1, 11, .q (xb true))] [] (ob (o_b h1) (ob (o_b h2) ob0)) (by kernel_rfl))
  ·exact fin_ok (g := z8f) g2 (zqc [(61, 1, 4, .q (xb true)), (61, 1, 11, .q (xb false))] [] (ob (o_b h1) (ob (o_b h2) ob0)) (by kernel_rfl))
 ·exact fin_ok (g := z8f) g1 (zqc [(61, 1, 4, .q (xb false))] [] (ob (o_b h1) ob0) (by kernel_rfl))
noncomputable def zk1 (p0 : za) (r : Bool) : TM := [(0, (.d (.agg (zb p0)))), (zsp 1), (2, (xi 0)), (3, (xb r))]
noncomputable def z1b (p0 : za) (r : Bool) : St := ⟨(zk1 p0 r), ⟨[(zc 1 (zb p0))], []⟩, []⟩
theorem zui (k : Nat) (p0 : za) (r : Bool) (h : z1e k p0 = some r) : ev TE 18 (rgn TE 18 1) ⟨[(0, (.d (.agg (zb p0)))), (zsp 1), (2, (xi 0))], ⟨[(zc 1 (zb p0))], []⟩, []⟩ = some (.nor, z1b p0 r) := by
 unfold z1e at h
 refine bind_ok h (fun v201 h202 g1 => ?_)
 refine cond_ok g1 (fun h203 g2 => ?_) (fun h203 g2 => ?_)
 ·refine bind_ok g2 (fun v204 h205 g3 => ?_)
  refine cond_ok g3 (fun h206 g4 => ?_) (fun h206 g4 => ?_)
  ·refine cond_ok g4 (fun h207 g5 => ?_) (fun h207 g5 => ?_)
   ·refine cond_ok g5 (fun h208 g6 => ?_) (fun h208 g6 => ?_)
    ·exact fin2_ok (g := fun r => (Ex.nor, z1b p0 r)) g6 (zqe [(18, 1, 2, .c (db v201)), (18, 1, 3, .q (xb true)), (18, 1, 6, .q (xi (p0.Shelves.1.length : Int))), (18, 1, 7, .c (db v204)), (18, 1, 9, .q (xb true)), (18, 1, 12, .q (xi (p0.Moves.1.length : Int))), (18, 1, 15, .q (xb true)), (18, 1, 18, .q (xi (p0.Deliveries.1.length : Int))), (18, 1, 21, .q (xb true)), (18, 1, 24, .q (xi (p0.Counts.1.length : Int)))] [] (ob (zC k p0.Days 1 12 _ h202) (ob (o_b h203) (ob (o_len zk p0.Shelves.1) (ob (zC k (p0.Shelves.1.length : Int) 1 4 _ h205) (ob (o_b h206) (ob (o_len zl p0.Moves.1) (ob (o_b h207) (ob (o_len zh p0.Deliveries.1) (ob (o_b h208) (ob (o_len zj p0.Counts.1) ob0)))))))))) (by kernel_rfl))
    ·exact fin2_ok (g := fun r => (Ex.nor, z1b p0 r)) g6 (zqe [(18, 1, 2, .c (db v201)), (18, 1, 3, .q (xb true)), (18, 1, 6, .q (xi (p0.Shelves.1.length : Int))), (18, 1, 7, .c (db v204)), (18, 1, 9, .q (xb true)), (18, 1, 12, .q (xi (p0.Moves.1.length : Int))), (18, 1, 15, .q (xb true)), (18, 1, 18, .q (xi (p0.Deliveries.1.length : Int))), (18, 1, 21, .q (xb false))] [] (ob (zC k p0.Days 1 12 _ h202) (ob (o_b h203) (ob (o_len zk p0.Shelves.1) (ob (zC k (p0.Shelves.1.length : Int) 1 4 _ h205) (ob (o_b h206) (ob (o_len zl p0.Moves.1) (ob (o_b h207) (ob (o_len zh p0.Deliveries.1) (ob (o_b h208) ob0))))))))) (by kernel_rfl))
   ·exact fin2_ok (g := fun r => (Ex.nor, z1b p0 r)) g5 (zqe [(18, 1, 2, .c (db v201)), (18, 1, 3, .q (xb true)), (18, 1, 6, .q (xi (p0.Shelves.1.length : Int))), (18, 1, 7, .c (db v204)), (18, 1, 9, .q (xb true)), (18, 1, 12, .q (xi (p0.Moves.1.length : Int))), (18, 1, 15, .q (xb false))] [] (ob (zC k p0.Days 1 12 _ h202) (ob (o_b h203) (ob (o_len zk p0.Shelves.1) (ob (zC k (p0.Shelves.1.length : Int) 1 4 _ h205) (ob (o_b h206) (ob (o_len zl p0.Moves.1) (ob (o_b h207) ob0))))))) (by kernel_rfl))
  ·exact fin2_ok (g := fun r => (Ex.nor, z1b p0 r)) g4 (zqe [(18, 1, 2, .c (db v201)), (18, 1, 3, .q (xb true)), (18, 1, 6, .q (xi (p0.Shelves.1.length : Int))), (18, 1, 7, .c (db v204)), (18, 1, 9, .q (xb false))] [] (ob (zC k p0.Days 1 12 _ h202) (ob (o_b h203) (ob (o_len zk p0.Shelves.1) (ob (zC k (p0.Shelves.1.length : Int) 1 4 _ h205) (ob (o_b h206) ob0))))) (by kernel_rfl))
 ·exact fin2_ok (g := fun r => (Ex.nor, z1b p0 r)) g2 (zqe [(18, 1, 2, .c (db v201)), (18, 1, 3, .q (xb false))] [] (ob (zC k p0.Days 1 12 _ h202) (ob (o_b h203) ob0)) (by kernel_rfl))
noncomputable def zk2 (p0 : za) (r : Bool) (s2_9 : Int) : TM := zk1 p0 r ++ [(40, (.d (dl zk p0.Shelves.1 p0.Shelves.2))), (41, (xi (p0.Shelves.1.length : Int))), (42, (xi s2_9)), (43, (xb true)), (zsp 5)]
noncomputable def zfe (p0 : za) (s2_6 : Bool) (s2_9 : Int) (v402 : zJ) (r : Bool) : St := ⟨(zk2 p0 r s2_9), ⟨[(zc 1 (zb p0)), (zc 5 (zk v402))], []⟩, []⟩
noncomputable def zk3 (p0 : za) (s2_6 : Bool) (s2_9 : Int) : TM := [(0, (.d (.agg (zb p0)))), (zsp 1), (2, (xi 0)), (3, (xb s2_6)), (40, (.d (dl zk p0.Shelves.1 p0.Shelves.2))), (41, (xi (p0.Shelves.1.length : Int))), (42, (xi s2_9)), (43, (xb true)), (zsp 5)]
theorem zil (k : Nat) (p0 : za) (s2_6 : Bool) (s2_9 : Int) (v402 : zJ) (r : Bool) (h : zbf k p0 s2_6 s2_9 v402 = some r) : ev TE 18 (rgn TE 18 5) ⟨(zk3 p0 s2_6 s2_9), ⟨[(zc 1 (zb p0)), (zc 5 (zk v402))], []⟩, []⟩ = some (.nor, zfe p0 s2_6 s2_9 v402 r) := by
 unfold zbf at h
 refine cond_ok h (fun h501 g1 => ?_) (fun h501 g1 => ?_)
 ·refine bind_ok g1 (fun v502 h503 g2 => ?_)
  refine cond_ok g2 (fun h504 g3 => ?_) (fun h504 g3 => ?_)
  ·refine bind_ok g3 (fun v505 h506 g4 => ?_)
   exact fin2_ok (g := fun r => (Ex.nor, zfe p0 s2_6 s2_9 v402 r)) g4 (zqe [(18, 5, 1, .q (xb true)), (18, 5, 4, .c (db v502)), (18, 5, 6, .q (xb true)), (18, 5, 11, .c (db v505))] [] (ob (o_b h501) (ob (zC k v402.Room 1 60 _ h503) (ob (o_b h504) (ob (zFe k v402.Begin 0 v402.Room _ h506) ob0)))) (by kernel_rfl))
  ·exact fin2_ok (g := fun r => (Ex.nor, zfe p0 s2_6 s2_9 v402 r)) g3 (zqe [(18, 5, 1, .q (xb true)), (18, 5, 4, .c (db v502)), (18, 5, 6, .q (xb false))] [] (ob (o_b h501) (ob (zC k v402.Room 1 60 _ h503) (ob (o_b h504) ob0))) (by kernel_rfl))
 ·exact fin2_ok (g := fun r => (Ex.nor, zfe p0 s2_6 s2_9 v402 r)) g1 (zqe [(18, 5, 1, .q (xb false))] [] (ob (o_b h501) ob0) (by kernel_rfl))
noncomputable def zk4 (p0 : za) (s2_6 : Bool) (s2_9 : Int) : TM := [(0, (.d (.agg (zb p0)))), (zsp 1), (2, (xi 0)), (3, (xb s2_6)), (40, (.d (dl zk p0.Shelves.1 p0.Shelves.2))), (41, (xi (p0.Shelves.1.length : Int))), (42, (xi s2_9))]
noncomputable def zCl (p0 : za) (s2_6 : Bool) (s2_9 : Int) : St := ⟨(zk4 p0 s2_6 s2_9), ⟨[(zc 1 (zb p0))], []⟩, []⟩
noncomputable def zk5 (p0 : za) (r : zt1) : TM := [(0, (.d (.agg (zb p0)))), (zsp 1), (2, (xi 0)), (3, (xb r.1)), (40, (.d (dl zk p0.Shelves.1 p0.Shelves.2))), (41, (xi (p0.Shelves.1.length : Int))), (42, (xi r.2)), (43, (xb false))]
noncomputable def zOd (p0 : za) (r : zt1) : St := ⟨(zk5 p0 r), ⟨[(zc 1 (zb p0))], []⟩, []⟩
noncomputable def zxl (p0 : za) : (Bool × Int) → Ex × St := fun r => ((.exit 0), zOd p0 r)
theorem zli (k : Nat) (p0 : za) (s2_6 : Bool) (s2_9 : Int) (x : (Bool × Int) ⊕ (Bool × Int)) (h : zDc k p0 s2_6 s2_9 = some x) : LoopOK TE 18 (blk TE 18 0) (fun s : (Bool × Int) => zCl p0 s.1 s.2) (zxl p0) (s2_6, s2_9) x := by
 unfold zDc at h
 refine cond_ok h (fun h401 g1 => ?_) (fun h401 g1 => ?_)
 ·refine bind_ok g1 (fun v402 h403 g2 => ?_)
  refine bind_ok g2 (fun v404 h405 g3 => ?_)
  exact zqn (v404, (w64 (s2_9 + 1))) [] [(18, 3, 0, .q (xb true)), (18, 4, 0, .q (.d (.pin (zk v402))))] [(18, 1000005, (.nor, zfe p0 s2_6 s2_9 v402 v404))] g3 (ob (o_b h401) (ob (o_ia (e := zk) 3 h403 rfl) (ob (zil k p0 s2_6 s2_9 v402 _ h405) ob0))) (by kernel_rfl)
 ·exact zqo [(18, 3, 0, .q (xb false))] [] g1 (ob (o_b h401) ob0) (by kernel_rfl)
noncomputable def zk6 (p0 : za) (r : Bool) (v3 : zt1) (s5_13 : Int) : TM := zk1 p0 r ++ [(40, (.d (dl zk p0.Shelves.1 p0.Shelves.2))), (41, (xi (p0.Shelves.1.length : Int))), (42, (xi v3.2)), (43, (xb false)), (61, (.d (dl zl p0.Moves.1 p0.Moves.2))), (62, (xi (p0.Moves.1.length : Int))), (63, (xi s5_13)), (64, (xb true)), (zsp 7)]
noncomputable def zfd (p0 : za) (v3 : zt1) (s5_6 : Bool) (s5_13 : Int) (v702 : zy) (r : Bool) : St := ⟨(zk6 p0 r v3 s5_13), ⟨[(zc 1 (zb p0)), (zc 7 (zl v702))], []⟩, []⟩
noncomputable def zk7 (p0 : za) (s5_6 : Bool) (v3 : zt1) (s5_13 : Int) : TM := [(0, (.d (.agg (zb p0)))), (zsp 1), (2, (xi 0)), (3, (xb s5_6)), (40, (.d (dl zk p0.Shelves.1 p0.Shelves.2))), (41, (xi (p0.Shelves.1.length : Int))), (42, (xi v3.2)), (43, (xb false)), (61, (.d (dl zl p0.Moves.1 p0.Moves.2))), (62, (xi (p0.Moves.1.length : Int))), (63, (xi s5_13)), (64, (xb true)), (zsp 7)]
theorem zsl (k : Nat) (p0 : za) (v3 : zt1) (s5_6 : Bool) (s5_13 : Int) (v702 : zy) (r : Bool) (h : zYe k p0 v3 s5_6 s5_13 v702 = some r) : ev TE 18 (rgn TE 18 10) ⟨(zk7 p0 s5_6 v3 s5_13), ⟨[(zc 1 (zb p0)), (zc 7 (zl v702))], []⟩, []⟩ = some (.nor, zfd p0 v3 s5_6 s5_13 v702 r) := by
 unfold zYe at h
 refine cond_ok h (fun h801 g1 => ?_) (fun h801 g1 => ?_)
 ·refine bind_ok g1 (fun v802 h803 g2 => ?_)
  refine cond_ok g2 (fun h804 g3 => ?_) (fun h804 g3 => ?_)
  ·refine bind_ok g3 (fun v805 h806 g4 => ?_)
   refine cond_ok g4 (fun h807 g5 => ?_) (fun h807 g5 => ?_)
   ·refine bind_ok g5 (fun v808 h809 g6 => ?_)
    exact fin2_ok (g := fun r => (Ex.nor, zfd p0 v3 s5_6 s5_13 v702 r)) g6 (zqe [(18, 10, 1, .q (xb true)), (18, 10, 7, .c (db v802)), (18, 10, 9, .q (xb true)), (18, 10, 14, .q (xi (p0.Shelves.1.length : Int))), (18, 10, 16, .c (db v805)), (18, 10, 18, .q (xb true)), (18, 10, 21, .c (db v808))] [] (ob (o_b h801) (ob (zC k v702.Day 0 (w64 (p0.Days - 1)) _ h803) (ob (o_b h804) (ob (o_len zk p0.Shelves.1) (ob (zC k v702.Shelf 0 (w64 ((p0.Shelves.1.length : Int) - 1)) _ h806) (ob (o_b h807) (ob (zFe k v702.By 0 60 _ h809) ob0))))))) (by kernel_rfl))
   ·exact fin2_ok (g := fun r => (Ex.nor, zfd p0 v3 s5_6 s5_13 v702 r)) g5 (zqe [(18, 10, 1, .q (xb true)), (18, 10, 7, .c (db v802)), (18, 10, 9, .q (xb true)), (18, 10, 14, .q (xi (p0.Shelves.1.length : Int))), (18, 10, 16, .c (db v805)), (18, 10, 18, .q (xb false))] [] (ob (o_b h801) (ob (zC k v702.Day 0 (w64 (p0.Days - 1)) _ h803) (ob (o_b h804) (ob (o_len zk p0.Shelves.1) (ob (zC k v702.Shelf 0 (w64 ((p0.Shelves.1.length : Int) - 1)) _ h806) (ob (o_b h807) ob0)))))) (by kernel_rfl))
  ·exact fin2_ok (g := fun r => (Ex.nor, zfd p0 v3 s5_6 s5_13 v702 r)) g3 (zqe [(18, 10, 1, .q (xb true)), (18, 10, 7, .c (db v802)), (18, 10, 9, .q (xb false))] [] (ob (o_b h801) (ob (zC k v702.Day 0 (w64 (p0.Days - 1)) _ h803) (ob (o_b h804) ob0))) (by kernel_rfl))
 ·exact fin2_ok (g := fun r => (Ex.nor, zfd p0 v3 s5_6 s5_13 v702 r)) g1 (zqe [(18, 10, 1, .q (xb false))] [] (ob (o_b h801) ob0) (by kernel_rfl))
noncomputable def zk8 (p0 : za) (s5_6 : Bool) (v3 : zt1) (s5_13 : Int) : TM := [(0, (.d (.agg (zb p0)))), (zsp 1), (2, (xi 0)), (3, (xb s5_6)), (40, (.d (dl zk p0.Shelves.1 p0.Shelves.2))), (41, (xi (p0.Shelves.1.length : Int))), (42, (xi v3.2)), (43, (xb false)), (61, (.d (dl zl p0.Moves.1 p0.Moves.2))), (62, (xi (p0.Moves.1.length : Int))), (63, (xi s5_13))]
noncomputable def zPl (p0 : za) (v3 : zt1) (s5_6 : Bool) (s5_13 : Int) : St := ⟨(zk8 p0 s5_6 v3 s5_13), ⟨[(zc 1 (zb p0))], []⟩, []⟩
noncomputable def zk9 (p0 : za) (r v3 : zt1) : TM := [(0, (.d (.agg (zb p0)))), (zsp 1), (2, (xi 0)), (3, (xb r.1)), (40, (.d (dl zk p0.Shelves.1 p0.Shelves.2))), (41, (xi (p0.Shelves.1.length : Int))), (42, (xi v3.2)), (43, (xb false)), (61, (.d (dl zl p0.Moves.1 p0.Moves.2))), (62, (xi (p0.Moves.1.length : Int))), (63, (xi r.2)), (64, (xb false))]
noncomputable def zTd (p0 : za) (v3 r : zt1) : St := ⟨(zk9 p0 r v3), ⟨[(zc 1 (zb p0))], []⟩, []⟩
noncomputable def zJl (p0 : za) (v3 : zt1) : (Bool × Int) → Ex × St := fun r => ((.exit 2), zTd p0 v3 r)
theorem zvi (k : Nat) (p0 : za) (v3 : zt1) (s5_6 : Bool) (s5_13 : Int) (x : (Bool × Int) ⊕ (Bool × Int)) (h : zEc k p0 v3 s5_6 s5_13 = some x) : LoopOK TE 18 (blk TE 18 2) (fun s : (Bool × Int) => zPl p0 v3 s.1 s.2) (zJl p0 v3) (s5_6, s5_13) x := by
 unfold zEc at h
 refine cond_ok h (fun h701 g1 => ?_) (fun h701 g1 => ?_)
 ·refine bind_ok g1 (fun v702 h703 g2 => ?_)
  refine bind_ok g2 (fun v704 h705 g3 => ?_)
  exact zqn (v704, (w64 (s5_13 + 1))) [] [(18, 8, 0, .q (xb true)), (18, 9, 0, .q (.d (.pin (zl v702))))] [(18, 1000010, (.nor, zfd p0 v3 s5_6 s5_13 v702 v704))] g3 (ob (o_b h701) (ob (o_ia (e := zl) 5 h703 rfl) (ob (zsl k p0 v3 s5_6 s5_13 v702 _ h705) ob0))) (by kernel_rfl)
 ·exact zqo [(18, 8, 0, .q (xb false))] [] g1 (ob (o_b h701) ob0) (by kernel_rfl)
noncomputable def zdo (p0 : za) (r : Bool) (v3 v5 : zt1) (s8_17 : Int) : TM := zk1 p0 r ++ [(40, (.d (dl zk p0.Shelves.1 p0.Shelves.2))), (41, (xi (p0.Shelves.1.length : Int))), (42, (xi v3.2)), (43, (xb false)), (61, (.d (dl zl p0.Moves.1 p0.Moves.2))), (62, (xi (p0.Moves.1.length : Int))), (63, (xi v5.2)), (64, (xb false)), (92, (.d (dl zh p0.Deliveries.1 p0.Deliveries.2))), (93, (xi (p0.Deliveries.1.length : Int))), (94, (xi s8_17)), (95, (xb true)), (zsp 9)]
noncomputable def z0c (p0 : za) (v3 v5 : zt1) (s8_6 : Bool) (s8_17 : Int) (v1002 : zn) (r : Bool) : St := ⟨(zdo p0 r v3 v5 s8_17), ⟨[(zc 1 (zb p0)), (zc 9 (zh v1002))], []⟩, []⟩
noncomputable def zQo (p0 : za) (s8_6 : Bool) (v3 v5 : zt1) (s8_17 : Int) : TM := [(0, (.d (.agg (zb p0)))), (zsp 1), (2, (xi 0)), (3, (xb s8_6)), (40, (.d (dl zk p0.Shelves.1 p0.Shelves.2))), (41, (xi (p0.Shelves.1.length : Int))), (42, (xi v3.2)), (43, (xb false)), (61, (.d (dl zl p0.Moves.1 p0.Moves.2))), (62, (xi (p0.Moves.1.length : Int))), (63, (xi v5.2)), (64, (xb false)), (92, (.d (dl zh p0.Deliveries.1 p0.Deliveries.2))), (93, (xi (p0.Deliveries.1.length : Int))), (94, (xi s8_17)), (95, (xb true)), (zsp 9)]
theorem z9k (k : Nat) (p0 : za) (v3 v5 : zt1) (s8_6 : Bool) (s8_17 : Int) (v1002 : zn) (r : Bool) (h : zze k p0 v3 v5 s8_6 s8_17 v1002 = some r) : ev TE 18 (rgn TE 18 15) ⟨(zQo p0 s8_6 v3 v5 s8_17), ⟨[(zc 1 (zb p0)), (zc 9 (zh v1002))], []⟩, []⟩ = some (.nor, z0c p0 v3 v5 s8_6 s8_17 v1002 r) := by
 unfold zze at h
 refine cond_ok h (fun h1101 g1 => ?_) (fun h1101 g1 => ?_)
 ·refine bind_ok g1 (fun v1102 h1103 g2 => ?_)
  refine cond_ok g2 (fun h1104 g3 => ?_) (fun h1104 g3 => ?_)
  ·refine bind_ok g3 (fun v1105 h1106 g4 => ?_)
   refine cond_ok g4 (fun h1107 g5 => ?_) (fun h1107 g5 => ?_)
   ·refine bind_ok g5 (fun v1108 h1109 g6 => ?_)
    exact fin2_ok (g := fun r => (Ex.nor, z0c p0 v3 v5 s8_6 s8_17 v1002 r)) g6 (zqe [(18, 15, 1, .q (xb true)), (18, 15, 6, .q (xi (p0.Shelves.1.length : Int))), (18, 15, 8, .c (db v1102)), (18, 15, 10, .q (xb true)), (18, 15, 16, .c (db v1105)), (18, 15, 18, .q (xb true)), (18, 15, 21, .c (db v1108))] [] (ob (o_b h1101) (ob (o_len zk p0.Shelves.1) (ob (zC k v1002.Shelf 0 (w64 ((p0.Shelves.1.length : Int) - 1)) _ h1103) (ob (o_b h1104) (ob (zFe k v1002.Days 0 (w64 (p0.Days - 1)) _ h1106) (ob (o_b h1107) (ob (zFe k v1002.By 0 60 _ h1109) ob0))))))) (by kernel_rfl))
   ·exact fin2_ok (g := fun r => (Ex.nor, z0c p0 v3 v5 s8_6 s8_17 v1002 r)) g5 (zqe [(18, 15, 1, .q (xb true)), (18, 15, 6, .q (xi (p0.Shelves.1.length : Int))), (18, 15, 8, .c (db v1102)), (18, 15, 10, .q (xb true)), (18, 15, 16, .c (db v1105)), (18, 15, 18, .q (xb false))] [] (ob (o_b h1101) (ob (o_len zk p0.Shelves.1) (ob (zC k v1002.Shelf 0 (w64 ((p0.Shelves.1.length : Int) - 1)) _ h1103) (ob (o_b h1104) (ob (zFe k v1002.Days 0 (w64 (p0.Days - 1)) _ h1106) (ob (o_b h1107) ob0)))))) (by kernel_rfl))
  ·exact fin2_ok (g := fun r => (Ex.nor, z0c p0 v3 v5 s8_6 s8_17 v1002 r)) g3 (zqe [(18, 15, 1, .q (xb true)), (18, 15, 6, .q (xi (p0.Shelves.1.length : Int))), (18, 15, 8, .c (db v1102)), (18, 15, 10, .q (xb false))] [] (ob (o_b h1101) (ob (o_len zk p0.Shelves.1) (ob (zC k v1002.Shelf 0 (w64 ((p0.Shelves.1.length : Int) - 1)) _ h1103) (ob (o_b h1104) ob0)))) (by kernel_rfl))
 ·exact fin2_ok (g := fun r => (Ex.nor, z0c p0 v3 v5 s8_6 s8_17 v1002 r)) g1 (zqe [(18, 15, 1, .q (xb false))] [] (ob (o_b h1101) ob0) (by kernel_rfl))
noncomputable def zdp (p0 : za) (s8_6 : Bool) (v3 v5 : zt1) (s8_17 : Int) : TM := [(0, (.d (.agg (zb p0)))), (zsp 1), (2, (xi 0)), (3, (xb s8_6)), (40, (.d (dl zk p0.Shelves.1 p0.Shelves.2))), (41, (xi (p0.Shelves.1.length : Int))), (42, (xi v3.2)), (43, (xb false)), (61, (.d (dl zl p0.Moves.1 p0.Moves.2))), (62, (xi (p0.Moves.1.length : Int))), (63, (xi v5.2)), (64, (xb false)), (92, (.d (dl zh p0.Deliveries.1 p0.Deliveries.2))), (93, (xi (p0.Deliveries.1.length : Int))), (94, (xi s8_17))]
noncomputable def zNl (p0 : za) (v3 v5 : zt1) (s8_6 : Bool) (s8_17 : Int) : St := ⟨(zdp p0 s8_6 v3 v5 s8_17), ⟨[(zc 1 (zb p0))], []⟩, []⟩
noncomputable def zYo (p0 : za) (r v3 v5 : zt1) : TM := [(0, (.d (.agg (zb p0)))), (zsp 1), (2, (xi 0)), (3, (xb r.1)), (40, (.d (dl zk p0.Shelves.1 p0.Shelves.2))), (41, (xi (p0.Shelves.1.length : Int))), (42, (xi v3.2)), (43, (xb false)), (61, (.d (dl zl p0.Moves.1 p0.Moves.2))), (62, (xi (p0.Moves.1.length : Int))), (63, (xi v5.2)), (64, (xb false)), (92, (.d (dl zh p0.Deliveries.1 p0.Deliveries.2))), (93, (xi (p0.Deliveries.1.length : Int))), (94, (xi r.2)), (95, (xb false))]
noncomputable def zKd (p0 : za) (v3 v5 r : zt1) : St := ⟨(zYo p0 r v3 v5), ⟨[(zc 1 (zb p0))], []⟩, []⟩
noncomputable def zyl (p0 : za) (v3 v5 : zt1) : (Bool × Int) → Ex × St := fun r => ((.exit 4), zKd p0 v3 v5 r)
theorem zwi (k : Nat) (p0 : za) (v3 v5 : zt1) (s8_6 : Bool) (s8_17 : Int) (x : (Bool × Int) ⊕ (Bool × Int)) (h : zLc k p0 v3 v5 s8_6 s8_17 = some x) : LoopOK TE 18 (blk TE 18 4) (fun s : (Bool × Int) => zNl p0 v3 v5 s.1 s.2) (zyl p0 v3 v5) (s8_6, s8_17) x := by
 unfold zLc at h
 refine cond_ok h (fun h1001 g1 => ?_) (fun h1001 g1 => ?_)
 ·refine bind_ok g1 (fun v1002 h1003 g2 => ?_)
  refine bind_ok g2 (fun v1004 h1005 g3 => ?_)
  exact zqn (v1004, (w64 (s8_17 + 1))) [] [(18, 13, 0, .q (xb true)), (18, 14, 0, .q (.d (.pin (zh v1002))))] [(18, 1000015, (.nor, z0c p0 v3 v5 s8_6 s8_17 v1002 v1004))] g3 (ob (o_b h1001) (ob (o_ia (e := zh) 5 h1003 rfl) (ob (z9k k p0 v3 v5 s8_6 s8_17 v1002 _ h1005) ob0))) (by kernel_rfl)
 ·exact zqo [(18, 13, 0, .q (xb false))] [] g1 (ob (o_b h1001) ob0) (by kernel_rfl)
noncomputable def zGo (p0 : za) (r : Bool) (v3 v5 v7 : zt1) (s11_21 : Int) : TM := zk1 p0 r ++ [(40, (.d (dl zk p0.Shelves.1 p0.Shelves.2))), (41, (xi (p0.Shelves.1.length : Int))), (42, (xi v3.2)), (43, (xb false)), (61, (.d (dl zl p0.Moves.1 p0.Moves.2))), (62, (xi (p0.Moves.1.length : Int))), (63, (xi v5.2)), (64, (xb false)), (92, (.d (dl zh p0.Deliveries.1 p0.Deliveries.2))), (93, (xi (p0.Deliveries.1.length : Int))), (94, (xi v7.2)), (95, (xb false)), (123, (.d (dl zj p0.Counts.1 p0.Counts.2))), (124, (xi (p0.Counts.1.length : Int))), (125, (xi s11_21)), (126, (xb true)), (zsp 11)]
noncomputable def zkc (p0 : za) (v3 v5 v7 : zt1) (s11_6 : Bool) (s11_21 : Int) (v1302 : zp) (r : Bool) : St := ⟨(zGo p0 r v3 v5 v7 s11_21), ⟨[(zc 1 (zb p0)), (zc 11 (zj v1302))], []⟩, []⟩
noncomputable def zbp (p0 : za) (s11_6 : Bool) (v3 v5 v7 : zt1) (s11_21 : Int) : TM := [(0, (.d (.agg (zb p0)))), (zsp 1), (2, (xi 0)), (3, (xb s11_6)), (40, (.d (dl zk p0.Shelves.1 p0.Shelves.2))), (41, (xi (p0.Shelves.1.length : Int))), (42, (xi v3.2)), (43, (xb false)), (61, (.d (dl zl p0.Moves.1 p0.Moves.2))), (62, (xi (p0.Moves.1.length : Int))), (63, (xi v5.2)), (64, (xb false)), (92, (.d (dl zh p0.Deliveries.1 p0.Deliveries.2))), (93, (xi (p0.Deliveries.1.length : Int))), (94, (xi v7.2)), (95, (xb false)), (123, (.d (dl zj p0.Counts.1 p0.Counts.2))), (124, (xi (p0.Counts.1.length : Int))), (125, (xi s11_21)), (126, (xb true)), (zsp 11)]
theorem zZk (k : Nat) (p0 : za) (v3 v5 v7 : zt1) (s11_6 : Bool) (s11_21 : Int) (v1302 : zp) (r : Bool) (h : zEe k p0 v3 v5 v7 s11_6 s11_21 v1302 = some r) : ev TE 18 (rgn TE 18 20) ⟨(zbp p0 s11_6 v3 v5 v7 s11_21), ⟨[(zc 1 (zb p0)), (zc 11 (zj v1302))], []⟩, []⟩ = some (.nor, zkc p0 v3 v5 v7 s11_6 s11_21 v1302 r) := by
 unfold zEe at h
 refine cond_ok h (fun h1401 g1 => ?_) (fun h1401 g1 => ?_)
 ·refine bind_ok g1 (fun v1402 h1403 g2 => ?_)
  refine cond_ok g2 (fun h1404 g3 => ?_) (fun h1404 g3 => ?_)
  ·refine bind_ok g3 (fun v1405 h1406 g4 => ?_)
   refine cond_ok g4 (fun h1407 g5 => ?_) (fun h1407 g5 => ?_)
   ·refine bind_ok g5 (fun v1408 h1409 g6 => ?_)
    refine cond_ok g6 (fun h1410 g7 => ?_) (fun h1410 g7 => ?_)
    ·refine bind_ok g7 (fun v1411 h1412 g8 => ?_)
     exact fin2_ok (g := fun r => (Ex.nor, zkc p0 v3 v5 v7 s11_6 s11_21 v1302 r)) g8 (zqe [(18, 20, 1, .q (xb true)), (18, 20, 7, .c (db v1402)), (18, 20, 9, .q (xb true)), (18, 20, 14, .q (xi (p0.Shelves.1.length : Int))), (18, 20, 16, .c (db v1405)), (18, 20, 18, .q (xb true)), (18, 20, 21, .c (db v1408)), (18, 20, 23, .q (xb true)), (18, 20, 26, .c (db v1411))] [] (ob (o_b h1401) (ob (zC k v1302.Day 0 (w64 (p0.Days - 1)) _ h1403) (ob (o_b h1404) (ob (o_len zk p0.Shelves.1) (ob (zC k v1302.Shelf 0 (w64 ((p0.Shelves.1.length : Int) - 1)) _ h1406) (ob (o_b h1407) (ob (zC k v1302.Read 0 60 _ h1409) (ob (o_b h1410) (ob (zC k v1302.Err 0 20 _ h1412) ob0))))))))) (by kernel_rfl))
    ·exact fin2_ok (g := fun r => (Ex.nor, zkc p0 v3 v5 v7 s11_6 s11_21 v1302 r)) g7 (zqe [(18, 20, 1, .q (xb true)), (18, 20, 7, .c (db v1402)), (18, 20, 9, .q (xb true)), (18, 20, 14, .q (xi (p0.Shelves.1.length : Int))), (18, 20, 16, .c (db v1405)), (18, 20, 18, .q (xb true)), (18, 20, 21, .c (db v1408)), (18, 20, 23, .q (xb false))] [] (ob (o_b h1401) (ob (zC k v1302.Day 0 (w64 (p0.Days - 1)) _ h1403) (ob (o_b h1404) (ob (o_len zk p0.Shelves.1) (ob (zC k v1302.Shelf 0 (w64 ((p0.Shelves.1.length : Int) - 1)) _ h1406) (ob (o_b h1407) (ob (zC k v1302.Read 0 60 _ h1409) (ob (o_b h1410) ob0)))))))) (by kernel_rfl))
   ·exact fin2_ok (g := fun r => (Ex.nor, zkc p0 v3 v5 v7 s11_6 s11_21 v1302 r)) g5 (zqe [(18, 20, 1, .q (xb true)), (18, 20, 7, .c (db v1402)), (18, 20, 9, .q (xb true)), (18, 20, 14, .q (xi (p0.Shelves.1.length : Int))), (18, 20, 16, .c (db v1405)), (18, 20, 18, .q (xb false))] [] (ob (o_b h1401) (ob (zC k v1302.Day 0 (w64 (p0.Days - 1)) _ h1403) (ob (o_b h1404) (ob (o_len zk p0.Shelves.1) (ob (zC k v1302.Shelf 0 (w64 ((p0.Shelves.1.length : Int) - 1)) _ h1406) (ob (o_b h1407) ob0)))))) (by kernel_rfl))
  ·exact fin2_ok (g := fun r => (Ex.nor, zkc p0 v3 v5 v7 s11_6 s11_21 v1302 r)) g3 (zqe [(18, 20, 1, .q (xb true)), (18, 20, 7, .c (db v1402)), (18, 20, 9, .q (xb false))] [] (ob (o_b h1401) (ob (zC k v1302.Day 0 (w64 (p0.Days - 1)) _ h1403) (ob (o_b h1404) ob0))) (by kernel_rfl))
 ·exact fin2_ok (g := fun r => (Ex.nor, zkc p0 v3 v5 v7 s11_6 s11_21 v1302 r)) g1 (zqe [(18, 20, 1, .q (xb false))] [] (ob (o_b h1401) ob0) (by kernel_rfl))
noncomputable def z0o (p0 : za) (s11_6 : Bool) (v3 v5 v7 : zt1) (s11_21 : Int) : TM := [(0, (.d (.agg (zb p0)))), (zsp 1), (2, (xi 0)), (3, (xb s11_6)), (40, (.d (dl zk p0.Shelves.1 p0.Shelves.2))), (41, (xi (p0.Shelves.1.length : Int))), (42, (xi v3.2)), (43, (xb false)), (61, (.d (dl zl p0.Moves.1 p0.Moves.2))), (62, (xi (p0.Moves.1.length : Int))), (63, (xi v5.2)), (64, (xb false)), (92, (.d (dl zh p0.Deliveries.1 p0.Deliveries.2))), (93, (xi (p0.Deliveries.1.length : Int))), (94, (xi v7.2)), (95, (xb false)), (123, (.d (dl zj p0.Counts.1 p0.Counts.2))), (124, (xi (p0.Counts.1.length : Int))), (125, (xi s11_21))]
noncomputable def zkl (p0 : za) (v3 v5 v7 : zt1) (s11_6 : Bool) (s11_21 : Int) : St := ⟨(z0o p0 s11_6 v3 v5 v7 s11_21), ⟨[(zc 1 (zb p0))], []⟩, []⟩
noncomputable def z5o (p0 : za) (r v3 v5 v7 : zt1) : TM := [(0, (.d (.agg (zb p0)))), (zsp 1), (2, (xi 0)), (3, (xb r.1)), (40, (.d (dl zk p0.Shelves.1 p0.Shelves.2))), (41, (xi (p0.Shelves.1.length : Int))), (42, (xi v3.2)), (43, (xb false)), (61, (.d (dl zl p0.Moves.1 p0.Moves.2))), (62, (xi (p0.Moves.1.length : Int))), (63, (xi v5.2)), (64, (xb false)), (92, (.d (dl zh p0.Deliveries.1 p0.Deliveries.2))), (93, (xi (p0.Deliveries.1.length : Int))), (94, (xi v7.2)), (95, (xb false)), (123, (.d (dl zj p0.Counts.1 p0.Counts.2))), (124, (xi (p0.Counts.1.length : Int))), (125, (xi r.2)), (126, (xb false))]
noncomputable def zxd (p0 : za) (v3 v5 v7 r : zt1) : St := ⟨(z5o p0 r v3 v5 v7), ⟨[(zc 1 (zb p0))], []⟩, []⟩
noncomputable def zfl (p0 : za) (v3 v5 v7 : zt1) : (Bool × Int) → Ex × St := fun r => ((.exit 6), zxd p0 v3 v5 v7 r)
theorem zvh (k : Nat) (p0 : za) (v3 v5 v7 : zt1) (s11_6 : Bool) (s11_21 : Int) (x : (Bool × Int) ⊕ (Bool × Int)) (h : zlc k p0 v3 v5 v7 s11_6 s11_21 = some x) : LoopOK TE 18 (blk TE 18 6) (fun s : (Bool × Int) => zkl p0 v3 v5 v7 s.1 s.2) (zfl p0 v3 v5 v7) (s11_6, s11_21) x := by
 unfold zlc at h
 refine cond_ok h (fun h1301 g1 => ?_) (fun h1301 g1 => ?_)
 ·refine bind_ok g1 (fun v1302 h1303 g2 => ?_)
  refine bind_ok g2 (fun v1304 h1305 g3 => ?_)
  exact zqn (v1304, (w64 (s11_21 + 1))) [] [(18, 18, 0, .q (xb true)), (18, 19, 0, .q (.d (.pin (zj v1302))))] [(18, 1000020, (.nor, zkc p0 v3 v5 v7 s11_6 s11_21 v1302 v1304))] g3 (ob (o_b h1301) (ob (o_ia (e := zj) 4 h1303 rfl) (ob (zZk k p0 v3 v5 v7 s11_6 s11_21 v1302 _ h1305) ob0))) (by kernel_rfl)
 ·exact zqo [(18, 18, 0, .q (xb false))] [] g1 (ob (o_b h1301) ob0) (by kernel_rfl)
theorem zhd (k : Nat) (p0 : za) (r : Int) (h : zNe k p0 = some r) : callP TE (ev TE) 18 [(.agg (zb p0))] = some (zfi r) := by
 unfold zNe at h
 refine bind_ok h (fun v1 h2 g1 => ?_)
 refine bind_ok g1 (fun v3 h4 g2 => ?_)
 refine bind_ok g2 (fun v5 h6 g3 => ?_)
 refine bind_ok g3 (fun v7 h8 g4 => ?_)
 refine bind_ok g4 (fun v9 h10 g5 => ?_)
 refine cond_ok g5 (fun h11 g6 => ?_) (fun h11 g6 => ?_)
 ·exact fin_ok (g := zfi) g6 (zqc [(18, 2, 2, .q (xi (p0.Shelves.1.length : Int))), (18, 7, 2, .q (xi (p0.Moves.1.length : Int))), (18, 12, 2, .q (xi (p0.Deliveries.1.length : Int))), (18, 17, 2, .q (xi (p0.Counts.1.length : Int))), (18, 22, 1, .q (xb true))] [(18, 1000001, (.nor, z1b p0 v1)), (18, 0, (.nor, zOd p0 v3)), (18, 2, (.nor, zTd p0 v3 v5)), (18, 4, (.nor, zKd p0 v3 v5 v7)), (18, 6, (.nor, zxd p0 v3 v5 v7 v9))] (ob (zui k p0 _ h2) (ob (o_len zk p0.Shelves.1) (ob (block_ok (id := 0) (r' := (.nor, zOd p0 v3)) (zR (zli k p0) k _ _ h4) rfl) (ob (o_len zl p0.Moves.1) (ob (block_ok (id := 2) (r' := (.nor, zTd p0 v3 v5)) (zR (zvi k p0 v3) k _ _ h6) rfl) (ob (o_len zh p0.Deliveries.1) (ob (block_ok (id := 4) (r' := (.nor, zKd p0 v3 v5 v7)) (zR (zwi k p0 v3 v5) k _ _ h8) rfl) (ob (o_len zj p0.Counts.1) (ob (block_ok (id := 6) (r' := (.nor, zxd p0 v3 v5 v7 v9)) (zR (zvh k p0 v3 v5 v7) k _ _ h10) rfl) (ob (o_b h11) ob0)))))))))) (by kernel_rfl))
 ·exact fin_ok (g := zfi) g6 (zqc [(18, 2, 2, .q (xi (p0.Shelves.1.length : Int))), (18, 7, 2, .q (xi (p0.Moves.1.length : Int))), (18, 12, 2, .q (xi (p0.Deliveries.1.length : Int))), (18, 17, 2, .q (xi (p0.Counts.1.length : Int))), (18, 22, 1, .q (xb false))] [(18, 1000001, (.nor, z1b p0 v1)), (18, 0, (.nor, zOd p0 v3)), (18, 2, (.nor, zTd p0 v3 v5)), (18, 4, (.nor, zKd p0 v3 v5 v7)), (18, 6, (.nor, zxd p0 v3 v5 v7 v9))] (ob (zui k p0 _ h2) (ob (o_len zk p0.Shelves.1) (ob (block_ok (id := 0) (r' := (.nor, zOd p0 v3)) (zR (zli k p0) k _ _ h4) rfl) (ob (o_len zl p0.Moves.1) (ob (block_ok (id := 2) (r' := (.nor, zTd p0 v3 v5)) (zR (zvi k p0 v3) k _ _ h6) rfl) (ob (o_len zh p0.Deliveries.1) (ob (block_ok (id := 4) (r' := (.nor, zKd p0 v3 v5 v7)) (zR (zwi k p0 v3 v5) k _ _ h8) rfl) (ob (o_len zj p0.Counts.1) (ob (block_ok (id := 6) (r' := (.nor, zxd p0 v3 v5 v7 v9)) (zR (zvh k p0 v3 v5 v7) k _ _ h10) rfl) (ob (o_b h11) ob0)))))))))) (by kernel_rfl))
noncomputable def z9n (p0 : zd) (s1_7 : Int) : TM := [(0, (.d (.agg (zm p0)))), (zsp 1), (zsp 2), (zsp 3), (4, (xi s1_7))]
noncomputable def zhk (p0 : zd) (s1_7 : Int) (s1_16 : zt0) : St := ⟨(z9n p0 s1_7), ⟨[(zc 1 (zm p0)), (zc 2 (aB 61 (fun _ => false))), (zc 3 (aB 61 s1_16))], []⟩, []⟩
noncomputable def zap (p0 : zd) (r : zt12) : TM := [(0, (.d (.agg (zm p0)))), (zsp 1), (zsp 2), (zsp 3), (4, (xi r.1)), (24, (xb false))]
noncomputable def zOe (p0 : zd) (r : zt12) : St := ⟨(zap p0 r), ⟨[(zc 1 (zm p0)), (zc 2 (aB 61 (fun _ => false))), (zc 3 (aB 61 r.2))], []⟩, []⟩
noncomputable def zuk (p0 : zd) : (Int × (Nat → Bool)) → Ex × St := fun r => ((.exit 0), zOe p0 r)
theorem zMj (k : Nat) (p0 : zd) (s1_7 : Int) (s1_16 : zt0) (x : (Int × (Nat → Bool)) ⊕ (Int × (Nat → Bool))) (h : z9c k p0 s1_7 s1_16 = some x) : LoopOK TE 90 (blk TE 90 0) (fun s : (Int × (Nat → Bool)) => zhk p0 s.1 s.2) (zuk p0) (s1_7, s1_16) x := by
 unfold z9c at h
 refine bind_ok h (fun v201 h202 g1 => ?_)
 refine cond_ok g1 (fun h203 g2 => ?_) (fun h203 g2 => ?_)
 ·refine guard_ok g2 (fun h204 g3 => ?_)
  exact zqn ((w64 (s1_7 + 1)), (upd s1_16 s1_7.toNat true)) [] [(90, 3, 6, .q (.d (.pin (zk v201)))), (90, 3, 10, .q (xb true)), (90, 5, 1, .q (.ptr 0 3 (s1_7.toNat))), (90, 5, 2, .st ((aB 61 (upd s1_16 s1_7.toNat true)).map .d))] [] g3 (ob (o_ia (e := zk) 3 h202 rfl) (ob (o_b h203) (ob (o_aptr (m := 61) 0 3 0 1 s1_7.toNat h204 (by omega)) (ob (o_stB 61 s1_16 s1_7.toNat true (by have := h204; simp only [Bool.and_eq_true, decide_eq_true_eq] at this; omega)) ob0)))) (by kernel_rfl)
 ·exact zqo [(90, 3, 6, .q (.d (.pin (zk v201)))), (90, 3, 10, .q (xb false))] [] g2 (ob (o_ia (e := zk) 3 h202 rfl) (ob (o_b h203) ob0)) (by kernel_rfl)
theorem zTk (k : Nat) (p0 : zd) (r : zt0) (h : zde k p0 = some r) : callP TE (ev TE) 90 [(.agg (zm p0))] = some (zIh r) := by
 unfold zde at h
 refine bind_ok h (fun v1 h2 g1 => ?_)
 refine bind_ok g1 (fun v3 h4 g2 => ?_)
 exact fin_ok (g := zIh) g2 (zqc [(90, 2, 5, .q (.d (.pin (zk v1))))] [(90, 0, (.nor, zOe p0 v3))] (ob (o_ia (e := zk) 3 h2 rfl) (ob (block_ok (id := 0) (r' := (.nor, zOe p0 v3)) (zR (zMj k p0) k _ _ h4) rfl) ob0)) (by kernel_rfl))
theorem zff (k : Nat) (r : zt0) (h : zye k = some r) : callP TE (ev TE) 87 [] = some (zKj r) := by
 unfold zye at h
 exact fin_ok (g := zKj) h (zqc [] [] ob0 (by kernel_rfl))
theorem zSh (k : Nat) (p0 : zd) (p1 p2 : Int) (r : zt5) (h : zBe k p0 p1 p2 = some r) : callP TE (ev TE) 91 [(.agg (zm p0)), (di p1), (di p2)] = some (zki r) := by
 unfold zBe at h
 exact fin_ok (g := zki) h (zqc [] [] ob0 (by kernel_rfl))
noncomputable def zoo (p0 : zd) (p1 p2 : Int) (s1_20 : zt13) (s1_12 : Int) : TM := [(0, (.d (.agg (zm p0)))), (1, (xi p1)), (2, (xi p2)), (zsp 3), (6, (.d (.sl [] .nil))), (7, (.row 0 7 s1_20.length)), (15, (.d (dl zh p0.ShelfBook.Deliveries.1 p0.ShelfBook.Deliveries.2))), (16, (xi (p0.ShelfBook.Deliveries.1.length : Int))), (17, (xi s1_12))]
noncomputable def zlk (p0 : zd) (p1 p2 s1_12 : Int) (s1_20 : zt13) : St := ⟨(zoo p0 p1 p2 s1_20 s1_12), ⟨[(zc 3 (zm p0)), (7, (rowO true 3 zH s1_20 true))], []⟩, []⟩
noncomputable def zAo (p0 : zd) (p1 p2 : Int) (r : zt11) : TM := [(0, (.d (.agg (zm p0)))), (1, (xi p1)), (2, (xi p2)), (zsp 3), (6, (.d (.sl [] .nil))), (7, (.row 0 7 r.2.length)), (15, (.d (dl zh p0.ShelfBook.Deliveries.1 p0.ShelfBook.Deliveries.2))), (16, (xi (p0.ShelfBook.Deliveries.1.length : Int))), (17, (xi r.1)), (18, (xb false))]
noncomputable def zWe (p0 : zd) (p1 p2 : Int) (r : zt11) : St := ⟨(zAo p0 p1 p2 r), ⟨[(zc 3 (zm p0)), (7, (rowO true 3 zH r.2 true))], []⟩, []⟩
noncomputable def zpk (p0 : zd) (p1 p2 : Int) : (Int × (List zD)) → Ex × St := fun r => ((.exit 0), zWe p0 p1 p2 r)
theorem z1j (k : Nat) (p0 : zd) (p1 p2 s1_12 : Int) (s1_20 : zt13) (x : (Int × (List zD)) ⊕ (Int × (List zD))) (h : zbd k p0 p1 p2 s1_12 s1_20 = some x) : LoopOK TE 92 (blk TE 92 0) (fun s : (Int × (List zD)) => zlk p0 p1 p2 s.1 s.2) (zpk p0 p1 p2) (s1_12, s1_20) x := by
 unfold zbd at h
 refine cond_ok h (fun h301 g1 => ?_) (fun h301 g1 => ?_)
 ·refine bind_ok g1 (fun v302 h303 g2 => ?_)
  refine cond_ok g2 (fun h304 g3 => ?_) (fun h304 g3 => ?_)
  ·cases g3
  ·refine cond_ok g3 (fun h305 g4 => ?_) (fun h305 g4 => ?_)
   ·refine guard_ok g4 (fun h306 g5 => ?_)
    exact zqn ((w64 (s1_12 + 1)), (s1_20 ++ [(⟨1, v302.By⟩ : zD)])) [7] [(92, 3, 0, .q (xb true)), (92, 4, 1, .q (.d (.pin (zh v302)))), (92, 5, 2, .q (xi (shr64 p2 s1_12))), (92, 5, 4, .q (xb true)), (92, 6, 5, .ap (s1_20 ++ [(⟨1, v302.By⟩ : zD)]).length (rowO true 3 zH (s1_20 ++ [(⟨1, v302.By⟩ : zD)]) true))] [] g5 (ob (o_b h301) (ob (o_ia (e := zh) 5 h303 rfl) (ob (o_shr (x := p2) h304) (ob (o_b h305) (ob (o_ap (b := true) (z := 3) (e := zH) (l := s1_20) (w := true) (⟨1, v302.By⟩ : zD) (fun _ => rfl) h306) (ob (o_ref true 3 zH (s1_20 ++ [(⟨1, v302.By⟩ : zD)]) true) ob0)))))) (by kernel_rfl)
   ·exact zqn ((w64 (s1_12 + 1)), s1_20) [7] [(92, 3, 0, .q (xb true)), (92, 4, 1, .q (.d (.pin (zh v302)))), (92, 5, 2, .q (xi (shr64 p2 s1_12))), (92, 5, 4, .q (xb false))] [] g4 (ob (o_b h301) (ob (o_ia (e := zh) 5 h303 rfl) (ob (o_shr (x := p2) h304) (ob (o_b h305) (ob (o_ref true 3 zH s1_20 true) ob0))))) (by kernel_rfl)
 ·exact zqo [(92, 3, 0, .q (xb false))] [] g1 (ob (o_b h301) ob0) (by kernel_rfl)
noncomputable def zPo (p0 : zd) (p1 p2 : Int) (s3_24 : zt13) (v1 : zt11) (s3_16 : Int) (r : Bool) : TM := [(0, (.d (.agg (zm p0)))), (1, (xi p1)), (2, (xi p2)), (zsp 3), (6, (.d (.sl [] .nil))), (7, (.row 0 7 s3_24.length)), (15, (.d (dl zh p0.ShelfBook.Deliveries.1 p0.ShelfBook.Deliveries.2))), (16, (xi (p0.ShelfBook.Deliveries.1.length : Int))), (17, (xi v1.1)), (18, (xb false)), (36, (.d (dl zl p0.ShelfBook.Moves.1 p0.ShelfBook.Moves.2))), (37, (xi (p0.ShelfBook.Moves.1.length : Int))), (38, (xi s3_16)), (39, (xb true)), (zsp 11), (52, (xb r))]
noncomputable def zMc (p0 : zd) (p1 p2 : Int) (v1 : zt11) (s3_16 : Int) (s3_24 : zt13) (v702 : zy) (r : Bool) : St := ⟨(zPo p0 p1 p2 s3_24 v1 s3_16 r), ⟨[(zc 3 (zm p0)), (7, (rowO true 3 zH s3_24 true)), (zc 11 (zl v702))], []⟩, []⟩
noncomputable def zfm (p0 : zd) (p1 p2 : Int) (s3_24 : zt13) (v1 : zt11) (s3_16 : Int) : TM := [(0, (.d (.agg (zm p0)))), (1, (xi p1)), (2, (xi p2)), (zsp 3), (6, (.d (.sl [] .nil))), (7, (.row 0 7 s3_24.length)), (15, (.d (dl zh p0.ShelfBook.Deliveries.1 p0.ShelfBook.Deliveries.2))), (16, (xi (p0.ShelfBook.Deliveries.1.length : Int))), (17, (xi v1.1)), (18, (xb false)), (36, (.d (dl zl p0.ShelfBook.Moves.1 p0.ShelfBook.Moves.2))), (37, (xi (p0.ShelfBook.Moves.1.length : Int))), (38, (xi s3_16)), (39, (xb true)), (zsp 11)]
theorem zBg (k : Nat) (p0 : zd) (p1 p2 : Int) (v1 : zt11) (s3_16 : Int) (s3_24 : zt13) (v702 : zy) (r : Bool) (h : zme k p0 p1 p2 v1 s3_16 s3_24 v702 = some r) : ev TE 92 (rgn TE 92 11) ⟨(zfm p0 p1 p2 s3_24 v1 s3_16), ⟨[(zc 3 (zm p0)), (7, (rowO true 3 zH s3_24 true)), (zc 11 (zl v702))], []⟩, []⟩ = some (.nor, zMc p0 p1 p2 v1 s3_16 s3_24 v702 r) := by
 unfold zme at h
 refine cond_ok h (fun h801 g1 => ?_) (fun h801 g1 => ?_)
 ·exact fin2_ok (g := fun r => (Ex.nor, zMc p0 p1 p2 v1 s3_16 s3_24 v702 r)) g1 (zqe [(92, 11, 4, .q (xb true))] [] (ob (o_b h801) ob0) (by kernel_rfl))
 ·exact fin2_ok (g := fun r => (Ex.nor, zMc p0 p1 p2 v1 s3_16 s3_24 v702 r)) g1 (zqe [(92, 11, 4, .q (xb false))] [] (ob (o_b h801) ob0) (by kernel_rfl))
noncomputable def zzd (p0 : zd) (p1 p2 : Int) (v1 : zt11) (s3_16 : Int) (s3_24 : zt13) (v702 : zy) (cb : Bool) (r : zt1) : St := ⟨(zfm p0 p1 p2 s3_24 v1 s3_16 ++ [(52, (xb true)), (zsp 12), (57, (xb r.1))]), ⟨[(zc 3 (zm p0)), (7, (rowO true 3 zH s3_24 true)), (zc 11 (zl v702)), (12, (.cells [(xi r.2), (xi v702.By.Low), (xi v702.By.High)]))], []⟩, []⟩
theorem z9j (k : Nat) (p0 : zd) (p1 p2 : Int) (v1 : zt11) (s3_16 : Int) (s3_24 : zt13) (v702 : zy) (cb : Bool) (r : zt1) (h : zxf k p0 p1 p2 v1 s3_16 s3_24 v702 cb = some r) : ev TE 92 (cnd TE 92 57) ⟨(zfm p0 p1 p2 s3_24 v1 s3_16 ++ [(52, (xb true)), (zsp 12), (57, (xb cb))]), ⟨[(zc 3 (zm p0)), (7, (rowO true 3 zH s3_24 true)), (zc 11 (zl v702)), (12, (.cells [(xi 0), (xi v702.By.Low), (xi v702.By.High)]))], []⟩, []⟩ = some (.nor, zzd p0 p1 p2 v1 s3_16 s3_24 v702 cb r) := by
 unfold zxf at h
 refine cond_ok h (fun h1001 g1 => ?_) (fun h1001 g1 => ?_)
 ·subst h1001
  exact fin2_ok (g := fun r => (Ex.nor, zzd p0 p1 p2 v1 s3_16 s3_24 v702 true r)) g1 (zqe [] [] ob0 (by kernel_rfl))
 ·subst h1001
  exact fin2_ok (g := fun r => (Ex.nor, zzd p0 p1 p2 v1 s3_16 s3_24 v702 false r)) g1 (zqe [] [] ob0 (by kernel_rfl))
noncomputable def z7o (p0 : zd) (p1 p2 : Int) (s3_24 : zt13) (v1 : zt11) (s3_16 : Int) : TM := [(0, (.d (.agg (zm p0)))), (1, (xi p1)), (2, (xi p2)), (zsp 3), (6, (.d (.sl [] .nil))), (7, (.row 0 7 s3_24.length)), (15, (.d (dl zh p0.ShelfBook.Deliveries.1 p0.ShelfBook.Deliveries.2))), (16, (xi (p0.ShelfBook.Deliveries.1.length : Int))), (17, (xi v1.1)), (18, (xb false)), (36, (.d (dl zl p0.ShelfBook.Moves.1 p0.ShelfBook.Moves.2))), (37, (xi (p0.ShelfBook.Moves.1.length : Int))), (38, (xi s3_16))]
noncomputable def zCk (p0 : zd) (p1 p2 : Int) (v1 : zt11) (s3_16 : Int) (s3_24 : zt13) : St := ⟨(z7o p0 p1 p2 s3_24 v1 s3_16), ⟨[(zc 3 (zm p0)), (7, (rowO true 3 zH s3_24 true))], []⟩, []⟩
noncomputable def zko (p0 : zd) (p1 p2 : Int) (r v1 : zt11) : TM := [(0, (.d (.agg (zm p0)))), (1, (xi p1)), (2, (xi p2)), (zsp 3), (6, (.d (.sl [] .nil))), (7, (.row 0 7 r.2.length)), (15, (.d (dl zh p0.ShelfBook.Deliveries.1 p0.ShelfBook.Deliveries.2))), (16, (xi (p0.ShelfBook.Deliveries.1.length : Int))), (17, (xi v1.1)), (18, (xb false)), (36, (.d (dl zl p0.ShelfBook.Moves.1 p0.ShelfBook.Moves.2))), (37, (xi (p0.ShelfBook.Moves.1.length : Int))), (38, (xi r.1)), (39, (xb false))]
noncomputable def zGe (p0 : zd) (p1 p2 : Int) (v1 r : zt11) : St := ⟨(zko p0 p1 p2 r v1), ⟨[(zc 3 (zm p0)), (7, (rowO true 3 zH r.2 true))], []⟩, []⟩
noncomputable def zAk (p0 : zd) (p1 p2 : Int) (v1 : zt11) : (Int × (List zD)) → Ex × St := fun r => ((.exit 2), zGe p0 p1 p2 v1 r)
theorem z8j (k : Nat) (p0 : zd) (p1 p2 : Int) (v1 : zt11) (s3_16 : Int) (s3_24 : zt13) (x : (Int × (List zD)) ⊕ (Int × (List zD))) (h : zad k p0 p1 p2 v1 s3_16 s3_24 = some x) : LoopOK TE 92 (blk TE 92 2) (fun s : (Int × (List zD)) => zCk p0 p1 p2 v1 s.1 s.2) (zAk p0 p1 p2 v1) (s3_16, s3_24) x := by
 unfold zad at h
 refine cond_ok h (fun h701 g1 => ?_) (fun h701 g1 => ?_)
 ·refine bind_ok g1 (fun v702 h703 g2 => ?_)
  refine bind_ok g2 (fun v704 h705 g3 => ?_)
  refine cond_ok g3 (fun h706 g4 => ?_) (fun h706 g4 => ?_)
  ·subst h706
   refine bind_ok g4 (fun v707 h708 g5 => ?_)
   refine guard_ok g5 (fun h709 g6 => ?_)
   exact zqn ((w64 (s3_16 + 1)), (s3_24 ++ [(⟨v707.2, v702.By⟩ : zD)])) [7] [(92, 9, 0, .q (xb true)), (92, 10, 0, .q (.d (.pin (zl v702)))), (92, 15, 3, .ap (s3_24 ++ [(⟨v707.2, v702.By⟩ : zD)]).length (rowO true 3 zH (s3_24 ++ [(⟨v707.2, v702.By⟩ : zD)]) true))] [(92, 1000011, (.nor, zMc p0 p1 p2 v1 s3_16 s3_24 v702 true)), (92, 2000057, (.nor, zzd p0 p1 p2 v1 s3_16 s3_24 v702 v702.Back v707))] g6 (ob (o_b h701) (ob (o_ia (e := zl) 5 h703 rfl) (ob (zBg k p0 p1 p2 v1 s3_16 s3_24 v702 _ h705) (ob (z9j k p0 p1 p2 v1 s3_16 s3_24 v702 v702.Back _ h708) (ob (o_ap (b := true) (z := 3) (e := zH) (l := s3_24) (w := true) (⟨v707.2, v702.By⟩ : zD) (fun _ => rfl) h709) (ob (o_ref true 3 zH (s3_24 ++ [(⟨v707.2, v702.By⟩ : zD)]) true) ob0)))))) (by kernel_rfl)
  ·subst h706
   exact zqn ((w64 (s3_16 + 1)), s3_24) [7] [(92, 9, 0, .q (xb true)), (92, 10, 0, .q (.d (.pin (zl v702))))] [(92, 1000011, (.nor, zMc p0 p1 p2 v1 s3_16 s3_24 v702 false))] g4 (ob (o_b h701) (ob (o_ia (e := zl) 5 h703 rfl) (ob (zBg k p0 p1 p2 v1 s3_16 s3_24 v702 _ h705) (ob (o_ref true 3 zH s3_24 true) ob0)))) (by kernel_rfl)
 ·exact zqo [(92, 9, 0, .q (xb false))] [] g1 (ob (o_b h701) ob0) (by kernel_rfl)
theorem zdh (k : Nat) (p0 : zd) (p1 p2 : Int) (r : (SL zD)) (h : zjd k p0 p1 p2 = some r) : callP TE (ev TE) 92 [(.agg (zm p0)), (di p1), (di p2)] = some (zUh r) := by
 unfold zjd at h
 refine bind_ok h (fun v1 h2 g1 => ?_)
 refine bind_ok g1 (fun v3 h4 g2 => ?_)
 exact fin_ok (g := zUh) g2 (zqr [(92, 2, 3, .q (xi (p0.ShelfBook.Deliveries.1.length : Int))), (92, 8, 3, .q (xi (p0.ShelfBook.Moves.1.length : Int)))] [(92, 0, (.nor, zWe p0 p1 p2 v1)), (92, 2, (.nor, zGe p0 p1 p2 v1 v3))] [(dl zH v3.2 (rcap true v3.2))] (ob (o_len zh p0.ShelfBook.Deliveries.1) (ob (block_ok (id := 0) (r' := (.nor, zWe p0 p1 p2 v1)) (zR (z1j k p0 p1 p2) k _ _ h2) rfl) (ob (o_len zl p0.ShelfBook.Moves.1) (ob (block_ok (id := 2) (r' := (.nor, zGe p0 p1 p2 v1 v3)) (zR (z8j k p0 p1 p2 v1) k _ _ h4) rfl) (ob (show snaps ⟨[(7, (rowO true 3 zH v3.2 true))], []⟩ _ = _ from (o_s1 (x := (.row 0 7 v3.2.length)) (snap_rowR true 3 zH v3.2 true rfl) o_s0)) ob0))))) (by kernel_rfl))
theorem z6c (k : Nat) (p0 r : zt0) (h : zY k p0 = some r) : callP TE (ev TE) 83 [(.agg (aB 61 p0))] = some (zAg r) := by
 unfold zY at h
 exact fin_ok (g := zAg) h (zqc [] [] ob0 (by kernel_rfl))
theorem z5k (k : Nat) (p0 : zd) (p1 p2 r : Int) (h : zJf k p0 p1 p2 = some r) : callP TE (ev TE) 114 [(.agg (zm p0)), (di p1), (di p2)] = some (zhi r) := by
 unfold zJf at h
 exact fin_ok (g := zhi) h (zqc [] [] ob0 (by kernel_rfl))
theorem z4k (k : Nat) (p0 : zd) (p1 p2 r : Int) (h : zLf k p0 p1 p2 = some r) : callP TE (ev TE) 115 [(.agg (zm p0)), (di p1), (di p2)] = some (zsi r) := by
 unfold zLf at h
 exact fin_ok (g := zsi) h (zqc [] [] ob0 (by kernel_rfl))
noncomputable def zjo (p0 : zd) (p1 : zt0) (p2 : Int) (p3 : zi) (v1 : zt0) (s1_2 s9_14 v1203 : Int) (r : (Bool × (Nat → Bool))) : TM := [(0, (.d (.agg (zm p0)))), (1, (.d (.agg (aB 61 p1)))), (2, (xi p2)), (3, (.d (.agg [(di p3.Low), (di p3.High)]))), (zsp 4), (zsp 5), (zsp 6), (zsp 7), (zsp 8), (zsp 9), (14, (.d (.fn 96 [] [(.pin (aB 61 v1))]))), (15, (xi s1_2)), (10, (xi s1_2)), (11, (xi s9_14)), (21, (xb true)), (12, (xi v1203)), (40, (xb r.1))]
noncomputable def zKg (p0 : zd) (p1 : zt0) (p2 : Int) (p3 : zi) (v1 : zt0) : TM := [(0, (.d (.agg (zm p0)))), (1, (.d (.agg (aB 61 p1)))), (2, (xi p2)), (3, (.d (.agg [(di p3.Low), (di p3.High)]))), (zsp 4), (zsp 5), (zsp 6), (zsp 7), (zsp 8), (zsp 9), (14, (.d (.fn 96 [] [(.pin (aB 61 v1))])))]
noncomputable def zpd (p0 : zd) (p1 : zt0) (p2 : Int) (p3 : zi) (v1 : zt0) (s1_2 s9_14 : Int) (s9_27 : zt0) (v1203 : Int) (v1207 : Bool) (r : (Bool × (Nat → Bool))) : St := ⟨(zjo p0 p1 p2 p3 v1 s1_2 s9_14 v1203 r), ⟨[], [[(zc 4 (zm p0)), (zc 5 (aB 61 p1)), (6, (.cells [(xi p2)])), (7, (.cells [(xi p3.Low), (xi p3.High)])), (zc 8 (aB 61 (fun _ => false))), (zc 9 (aB 61 r.2))], []]⟩, [⟨(zKg p0 p1 p2 p3 v1), 0, rfP (blk TE 93 0), rfA (blk TE 93 0), rfB (blk TE 93 0), 93, .busy⟩]⟩
noncomputable def zwo (p0 : zd) (p1 : zt0) (p2 : Int) (p3 : zi) (v1 : zt0) (s1_2 s9_14 v1203 : Int) (v1207 : Bool) : TM := zKg p0 p1 p2 p3 v1 ++ [(15, (xi s1_2)), (10, (xi s1_2)), (11, (xi s9_14)), (21, (xb true)), (12, (xi v1203)), (40, (xb v1207))]
theorem zIj (k : Nat) (p0 : zd) (p1 : zt0) (p2 : Int) (p3 : zi) (v1 : zt0) (s1_2 s9_14 : Int) (s9_27 : zt0) (v1203 : Int) (v1207 : Bool) (r : (Bool × (Nat → Bool))) (h : zPc k p0 p1 p2 p3 v1 s1_2 s9_14 s9_27 v1203 v1207 = some r) : ev TE 93 (cnd TE 93 40) ⟨(zwo p0 p1 p2 p3 v1 s1_2 s9_14 v1203 v1207), ⟨[], [[(zc 4 (zm p0)), (zc 5 (aB 61 p1)), (6, (.cells [(xi p2)])), (7, (.cells [(xi p3.Low), (xi p3.High)])), (zc 8 (aB 61 (fun _ => false))), (zc 9 (aB 61 s9_27))], []]⟩, [⟨(zKg p0 p1 p2 p3 v1), 0, rfP (blk TE 93 0), rfA (blk TE 93 0), rfB (blk TE 93 0), 93, .busy⟩]⟩ = some (.nor, zpd p0 p1 p2 p3 v1 s1_2 s9_14 s9_27 v1203 v1207 r) := by
 unfold zPc at h
 refine cond_ok h (fun h1301 g1 => ?_) (fun h1301 g1 => ?_)
 ·subst h1301
  refine guard_ok g1 (fun h1302 g2 => ?_)
  exact fin2_ok (g := fun r => (Ex.nor, zpd p0 p1 p2 p3 v1 s1_2 s9_14 s9_27 v1203 true r)) g2 (zqe [(93, 9, 1, .q (.ptr 0 9 (v1203.toNat))), (93, 9, 2, .st ((aB 61 (upd s9_27 v1203.toNat true)).map .d))] [] (ob (o_aptr (m := 61) 0 9 0 1 v1203.toNat h1302 (by omega)) (ob (o_stB 61 s9_27 v1203.toNat true (by have := h1302; simp only [Bool.and_eq_true, decide_eq_true_eq] at this; omega)) ob0)) (by kernel_rfl))
 ·subst h1301
  exact fin2_ok (g := fun r => (Ex.nor, zpd p0 p1 p2 p3 v1 s1_2 s9_14 s9_27 v1203 false r)) g1 (zqe [] [] ob0 (by kernel_rfl))
noncomputable def zkp (p0 : zd) (p1 : zt0) (p2 : Int) (p3 : zi) (v1 : zt0) (s1_2 s9_14 v1204 : Int) (r : (Bool × (Nat → Bool))) : TM := zKg p0 p1 p2 p3 v1 ++ [(15, (xi s1_2)), (10, (xi s1_2)), (11, (xi s9_14)), (21, (xb true)), (12, (xi v1204)), (40, (xb r.1))]
noncomputable def zqd (p0 : zd) (p1 : zt0) (p2 : Int) (p3 : zi) (v1 : zt0) (s1_2 s9_14 : Int) (s9_27 : zt0) (v1204 : Int) (v1208 : Bool) (r : (Bool × (Nat → Bool))) : St := ⟨(zkp p0 p1 p2 p3 v1 s1_2 s9_14 v1204 r), ⟨[], [[(zc 4 (zm p0)), (zc 5 (aB 61 p1)), (6, (.cells [(xi p2)])), (7, (.cells [(xi p3.Low), (xi p3.High)])), (zc 8 (aB 61 (fun _ => false))), (zc 9 (aB 61 r.2))], []]⟩, [⟨(zKg p0 p1 p2 p3 v1), 0, rfP (blk TE 93 0), rfA (blk TE 93 0), rfB (blk TE 93 0), 93, .busy⟩]⟩
noncomputable def zMo (p0 : zd) (p1 : zt0) (p2 : Int) (p3 : zi) (v1 : zt0) (s1_2 s9_14 v1204 : Int) (v1208 : Bool) : TM := zKg p0 p1 p2 p3 v1 ++ [(15, (xi s1_2)), (10, (xi s1_2)), (11, (xi s9_14)), (21, (xb true)), (12, (xi v1204)), (40, (xb v1208))]
theorem zHj (k : Nat) (p0 : zd) (p1 : zt0) (p2 : Int) (p3 : zi) (v1 : zt0) (s1_2 s9_14 : Int) (s9_27 : zt0) (v1204 : Int) (v1208 : Bool) (r : (Bool × (Nat → Bool))) (h : zQc k p0 p1 p2 p3 v1 s1_2 s9_14 s9_27 v1204 v1208 = some r) : ev TE 93 (cnd TE 93 40) ⟨(zMo p0 p1 p2 p3 v1 s1_2 s9_14 v1204 v1208), ⟨[], [[(zc 4 (zm p0)), (zc 5 (aB 61 p1)), (6, (.cells [(xi p2)])), (7, (.cells [(xi p3.Low), (xi p3.High)])), (zc 8 (aB 61 (fun _ => false))), (zc 9 (aB 61 s9_27))], []]⟩, [⟨(zKg p0 p1 p2 p3 v1), 0, rfP (blk TE 93 0), rfA (blk TE 93 0), rfB (blk TE 93 0), 93, .busy⟩]⟩ = some (.nor, zqd p0 p1 p2 p3 v1 s1_2 s9_14 s9_27 v1204 v1208 r) := by
 unfold zQc at h
 refine cond_ok h (fun h1401 g1 => ?_) (fun h1401 g1 => ?_)
 ·subst h1401
  refine guard_ok g1 (fun h1402 g2 => ?_)
  exact fin2_ok (g := fun r => (Ex.nor, zqd p0 p1 p2 p3 v1 s1_2 s9_14 s9_27 v1204 true r)) g2 (zqe [(93, 9, 1, .q (.ptr 0 9 (v1204.toNat))), (93, 9, 2, .st ((aB 61 (upd s9_27 v1204.toNat true)).map .d))] [] (ob (o_aptr (m := 61) 0 9 0 1 v1204.toNat h1402 (by omega)) (ob (o_stB 61 s9_27 v1204.toNat true (by have := h1402; simp only [Bool.and_eq_true, decide_eq_true_eq] at this; omega)) ob0)) (by kernel_rfl))
 ·subst h1401
  exact fin2_ok (g := fun r => (Ex.nor, zqd p0 p1 p2 p3 v1 s1_2 s9_14 s9_27 v1204 false r)) g1 (zqe [] [] ob0 (by kernel_rfl))
noncomputable def zDk (p0 : zd) (p1 : zt0) (p2 : Int) (p3 : zi) (v1 : zt0) (s1_2 s9_14 : Int) (s9_27 : zt0) : St := ⟨(zKg p0 p1 p2 p3 v1 ++ [(15, (xi s1_2)), (10, (xi s1_2)), (11, (xi s9_14))]), ⟨[], [[(zc 4 (zm p0)), (zc 5 (aB 61 p1)), (6, (.cells [(xi p2)])), (7, (.cells [(xi p3.Low), (xi p3.High)])), (zc 8 (aB 61 (fun _ => false))), (zc 9 (aB 61 s9_27))], []]⟩, [⟨(zKg p0 p1 p2 p3 v1), 0, rfP (blk TE 93 0), rfA (blk TE 93 0), rfB (blk TE 93 0), 93, .busy⟩]⟩
noncomputable def zSe (p0 : zd) (p1 : zt0) (p2 : Int) (p3 : zi) (v1 : zt0) (s1_2 : Int) (r : zt12) : St := ⟨(zKg p0 p1 p2 p3 v1 ++ [(15, (xi s1_2)), (10, (xi s1_2)), (11, (xi r.1)), (21, (xb false))]), ⟨[], [[(zc 4 (zm p0)), (zc 5 (aB 61 p1)), (6, (.cells [(xi p2)])), (7, (.cells [(xi p3.Low), (xi p3.High)])), (zc 8 (aB 61 (fun _ => false))), (zc 9 (aB 61 r.2))], []]⟩, [⟨(zKg p0 p1 p2 p3 v1), 0, rfP (blk TE 93 0), rfA (blk TE 93 0), rfB (blk TE 93 0), 93, .busy⟩]⟩
noncomputable def zrk (p0 : zd) (p1 : zt0) (p2 : Int) (p3 : zi) (v1 : zt0) (s1_2 : Int) : (Int × (Nat → Bool)) → Ex × St := fun r => ((.exit 2), zSe p0 p1 p2 p3 v1 s1_2 r)
theorem z0j (k : Nat) (p0 : zd) (p1 : zt0) (p2 : Int) (p3 : zi) (v1 : zt0) (s1_2 s9_14 : Int) (s9_27 : zt0) (x : (Int × (Nat → Bool)) ⊕ (Int × (Nat → Bool))) (h : zMb k p0 p1 p2 p3 v1 s1_2 s9_14 s9_27 = some x) : LoopOK TE 93 (blk TE 93 2) (fun s : (Int × (Nat → Bool)) => zDk p0 p1 p2 p3 v1 s1_2 s.1 s.2) (zrk p0 p1 p2 p3 v1 s1_2) (s9_14, s9_27) x := by
 unfold zMb at h
 refine cond_ok h (fun h1201 g1 => ?_) (fun h1201 g1 => ?_)
 ·refine cond_ok g1 (fun h1202 g2 => ?_) (fun h1202 g2 => ?_)
  ·refine bind_ok g2 (fun v1203 h1204 g3 => ?_)
   refine bind_ok g3 (fun v1205 h1206 g4 => ?_)
   refine bind_ok g4 (fun v1207 h1208 g5 => ?_)
   refine bind_ok g5 (fun v1209 h1210 g6 => ?_)
   exact zqn ((w64 (s9_14 + 1)), v1209.2) [] [(93, 5, 3, .q (xb true)), (93, 7, 1, .q (.d (.pin [(.fn 114 [] []), (.fn 115 [] [])]))), (93, 7, 6, .c (di v1203)), (93, 8, 6, .q (.d (.pin (zk v1205)))), (93, 8, 9, .c (db v1207))] [(93, 2000040, (.nor, zpd p0 p1 p2 p3 v1 s1_2 s9_14 s9_27 v1203 v1207 v1209))] g6 (ob (o_b h1201) (ob (o_apin [(.fn 114 [] []), (.fn 115 [] [])] 2 1 (j := 0) (eq_of_beq h1202) (by decide)) (ob (z5k k p0 s1_2 s9_14 _ h1204) (ob (o_ia (e := zk) 3 h1206 rfl) (ob (zC k v1203 0 v1205.Room _ h1208) (ob (zIj k p0 p1 p2 p3 v1 s1_2 s9_14 s9_27 v1203 v1207 _ h1210) ob0)))))) (by kernel_rfl)
  ·refine cond_ok g2 (fun h1203 g3 => ?_) (fun h1203 g3 => ?_)
   ·refine bind_ok g3 (fun v1204 h1205 g4 => ?_)
    refine bind_ok g4 (fun v1206 h1207 g5 => ?_)
    refine bind_ok g5 (fun v1208 h1209 g6 => ?_)
    refine bind_ok g6 (fun v1210 h1211 g7 => ?_)
    exact zqn ((w64 (s9_14 + 1)), v1210.2) [] [(93, 5, 3, .q (xb true)), (93, 7, 1, .q (.d (.pin [(.fn 115 [] [])]))), (93, 7, 6, .c (di v1204)), (93, 8, 6, .q (.d (.pin (zk v1206)))), (93, 8, 9, .c (db v1208))] [(93, 2000040, (.nor, zqd p0 p1 p2 p3 v1 s1_2 s9_14 s9_27 v1204 v1208 v1210))] g7 (ob (o_b h1201) (ob (o_apin [(.fn 114 [] []), (.fn 115 [] [])] 2 1 (j := 1) (eq_of_beq h1203) (by decide)) (ob (z4k k p0 s1_2 s9_14 _ h1205) (ob (o_ia (e := zk) 3 h1207 rfl) (ob (zC k v1204 0 v1206.Room _ h1209) (ob (zHj k p0 p1 p2 p3 v1 s1_2 s9_14 s9_27 v1204 v1208 _ h1211) ob0)))))) (by kernel_rfl)
   ·cases g3
 ·exact zqo [(93, 5, 3, .q (xb false))] [] g1 (ob (o_b h1201) ob0) (by kernel_rfl)
noncomputable def zvo (v1 : zt0) (s1_2 : Int) : TM := [(0, (.yld 0)), (1, (.d (.pin (aB 61 v1)))), (5, (.d (.agg (aB 61 v1)))), (6, (xi s1_2)), (7, (xb true)), (3, (xi s1_2)), (4, (xb (v1 s1_2.toNat))), (16, (xb false))]
noncomputable def zCd (p0 : zd) (p1 : zt0) (p2 : Int) (p3 : zi) (v1 : zt0) (s1_2 : Int) (s1_15 r : zt0) : St := ⟨(zvo v1 s1_2), ⟨[], [[(zc 4 (zm p0)), (zc 5 (aB 61 p1)), (6, (.cells [(xi p2)])), (7, (.cells [(xi p3.Low), (xi p3.High)])), (zc 8 (aB 61 (fun _ => false))), (zc 9 (aB 61 r))]]⟩, [⟨(zKg p0 p1 p2 p3 v1), 0, rfP (blk TE 93 0), rfA (blk TE 93 0), rfB (blk TE 93 0), 93, .rdy⟩]⟩
noncomputable def z2o (v1 : zt0) (s1_2 : Int) : TM := [(0, (.yld 0)), (1, (.d (.pin (aB 61 v1)))), (5, (.d (.agg (aB 61 v1)))), (6, (xi s1_2)), (7, (xb true)), (3, (xi s1_2)), (4, (xb (v1 s1_2.toNat)))]
theorem zek (k : Nat) (p0 : zd) (p1 : zt0) (p2 : Int) (p3 : zi) (v1 : zt0) (s1_2 : Int) (s1_15 r : zt0) (h : zje k p0 p1 p2 p3 v1 s1_2 s1_15 = some r) : ev TE 96 (rgn TE 96 3) ⟨(z2o v1 s1_2), ⟨[], [[(zc 4 (zm p0)), (zc 5 (aB 61 p1)), (6, (.cells [(xi p2)])), (7, (.cells [(xi p3.Low), (xi p3.High)])), (zc 8 (aB 61 (fun _ => false))), (zc 9 (aB 61 s1_15))]]⟩, [⟨(zKg p0 p1 p2 p3 v1), 0, rfP (blk TE 93 0), rfA (blk TE 93 0), rfB (blk TE 93 0), 93, .rdy⟩]⟩ = some (.nor, zCd p0 p1 p2 p3 v1 s1_2 s1_15 r) := by
 unfold zje at h
 refine cond_ok h (fun h901 g1 => ?_) (fun h901 g1 => ?_)
 ·refine bind_ok g1 (fun v902 h903 g2 => ?_)
  exact fin2_ok (g := fun r => (Ex.nor, zCd p0 p1 p2 p3 v1 s1_2 s1_15 r)) g2 (zqe [(96, 3, 1, .q (xb true))] [(93, 2, (.nor, zSe p0 p1 p2 p3 v1 s1_2 v902))] (ob (o_b h901) (ob (block_ok (id := 2) (r' := (.nor, zSe p0 p1 p2 p3 v1 s1_2 v902)) (zR (z0j k p0 p1 p2 p3 v1 s1_2) k _ _ h903) rfl) ob0)) (by kernel_rfl))
 ·exact fin2_ok (g := fun r => (Ex.nor, zCd p0 p1 p2 p3 v1 s1_2 s1_15 r)) g1 (zqe [(96, 3, 1, .q (xb false))] [] (ob (o_b h901) ob0) (by kernel_rfl))
noncomputable def zno (v1 : zt0) (s1_2 : Int) : TM := [(0, (.yld 0)), (1, (.d (.pin (aB 61 v1)))), (5, (.d (.agg (aB 61 v1)))), (6, (xi s1_2))]
noncomputable def zFk (p0 : zd) (p1 : zt0) (p2 : Int) (p3 : zi) (v1 : zt0) (s1_2 : Int) (s1_15 : zt0) : St := ⟨(zno v1 s1_2), ⟨[], [[(zc 4 (zm p0)), (zc 5 (aB 61 p1)), (6, (.cells [(xi p2)])), (7, (.cells [(xi p3.Low), (xi p3.High)])), (zc 8 (aB 61 (fun _ => false))), (zc 9 (aB 61 s1_15))]]⟩, [⟨(zKg p0 p1 p2 p3 v1), 0, rfP (blk TE 93 0), rfA (blk TE 93 0), rfB (blk TE 93 0), 93, .rdy⟩]⟩
noncomputable def zBo (v1 : zt0) (r : zt12) : TM := [(0, (.yld 0)), (1, (.d (.pin (aB 61 v1)))), (5, (.d (.agg (aB 61 v1)))), (6, (xi r.1)), (7, (xb false))]
noncomputable def zIe (p0 : zd) (p1 : zt0) (p2 : Int) (p3 : zi) (v1 : zt0) (r : zt12) : St := ⟨(zBo v1 r), ⟨[], [[(zc 4 (zm p0)), (zc 5 (aB 61 p1)), (6, (.cells [(xi p2)])), (7, (.cells [(xi p3.Low), (xi p3.High)])), (zc 8 (aB 61 (fun _ => false))), (zc 9 (aB 61 r.2))]]⟩, [⟨(zKg p0 p1 p2 p3 v1), 0, rfP (blk TE 93 0), rfA (blk TE 93 0), rfB (blk TE 93 0), 93, .rdy⟩]⟩
noncomputable def zyk (p0 : zd) (p1 : zt0) (p2 : Int) (p3 : zi) (v1 : zt0) : (Int × (Nat → Bool)) → Ex × St := fun r => ((.exit 0), zIe p0 p1 p2 p3 v1 r)
theorem z3j (k : Nat) (p0 : zd) (p1 : zt0) (p2 : Int) (p3 : zi) (v1 : zt0) (s1_2 : Int) (s1_15 : zt0) (x : (Int × (Nat → Bool)) ⊕ (Int × (Nat → Bool))) (h : z8c k p0 p1 p2 p3 v1 s1_2 s1_15 = some x) : LoopOK TE 96 (blk TE 96 0) (fun s : (Int × (Nat → Bool)) => zFk p0 p1 p2 p3 v1 s.1 s.2) (zyk p0 p1 p2 p3 v1) (s1_2, s1_15) x := by
 unfold z8c at h
 refine cond_ok h (fun h801 g1 => ?_) (fun h801 g1 => ?_)
 ·refine guard_ok g1 (fun h802 g2 => ?_)
  refine bind_ok g2 (fun v803 h804 g3 => ?_)
  exact zqn ((w64 (s1_2 + 1)), v803) [] [(96, 1, 0, .q (xb true)), (96, 2, 1, .q (xb (v1 s1_2.toNat)))] [(96, 1000003, (.nor, zCd p0 p1 p2 p3 v1 s1_2 s1_15 v803))] g3 (ob (o_b h801) (ob (o_ixB 61 v1 s1_2 h802) (ob (zek k p0 p1 p2 p3 v1 s1_2 s1_15 _ h804) ob0))) (by kernel_rfl)
 ·exact zqo [(96, 1, 0, .q (xb false))] [] g1 (ob (o_b h801) ob0) (by kernel_rfl)
theorem zeh (k : Nat) (p0 : zd) (p1 : zt0) (p2 : Int) (p3 : zi) (r : zt0) (h : zCc k p0 p1 p2 p3 = some r) : callP TE (ev TE) 93 [(.agg (zm p0)), (.agg (aB 61 p1)), (di p2), (.agg [(di p3.Low), (di p3.High)])] = some (zWh r) := by
 unfold zCc at h
 refine bind_ok h (fun v1 h2 g1 => ?_)
 refine bind_ok g1 (fun v3 h4 g2 => ?_)
 exact fin_ok (g := zWh) g2 (zqc [(93, 2, 1, .c (.fn 96 [] [(.pin (aB 61 v1))]))] [(96, 0, (.nor, zIe p0 p1 p2 p3 v1 v3))] (ob (z6c k p1 _ h2) (ob (block_ok (id := 0) (r' := (.nor, zIe p0 p1 p2 p3 v1 v3)) (zR (z3j k p0 p1 p2 p3 v1) k _ _ h4) rfl) ob0)) (by kernel_rfl))
noncomputable def zXo (p0 : zd) (p1 : zt0) (p2 s1_11 : Int) (r : Bool) : TM := [(0, (.d (.agg (zm p0)))), (1, (.d (.agg (aB 61 p1)))), (2, (xi p2)), (zsp 3), (zsp 4), (zsp 6), (12, (.d (dl zj p0.ShelfBook.Counts.1 p0.ShelfBook.Counts.2))), (13, (xi (p0.ShelfBook.Counts.1.length : Int))), (14, (xi s1_11)), (15, (xb true)), (zsp 8), (7, (xi s1_11)), (37, (xb r))]
noncomputable def zyb (p0 : zd) (p1 : zt0) (p2 s1_11 : Int) (s1_19 : zt0) (v602 : zp) (r : Bool) : St := ⟨(zXo p0 p1 p2 s1_11 r), ⟨[(zc 3 (zm p0)), (zc 4 (aB 61 s1_19)), (zc 6 (aB 61 (fun _ => false))), (zc 8 (zj v602))], []⟩, []⟩
noncomputable def z8l (p0 : zd) (p1 : zt0) (p2 s1_11 : Int) : TM := [(0, (.d (.agg (zm p0)))), (1, (.d (.agg (aB 61 p1)))), (2, (xi p2)), (zsp 3), (zsp 4), (zsp 6), (12, (.d (dl zj p0.ShelfBook.Counts.1 p0.ShelfBook.Counts.2))), (13, (xi (p0.ShelfBook.Counts.1.length : Int))), (14, (xi s1_11)), (15, (xb true)), (zsp 8), (7, (xi s1_11))]
theorem z1f (k : Nat) (p0 : zd) (p1 : zt0) (p2 s1_11 : Int) (s1_19 : zt0) (v602 : zp) (r : Bool) (h : zEd k p0 p1 p2 s1_11 s1_19 v602 = some r) : ev TE 95 (rgn TE 95 4) ⟨(z8l p0 p1 p2 s1_11), ⟨[(zc 3 (zm p0)), (zc 4 (aB 61 s1_19)), (zc 6 (aB 61 (fun _ => false))), (zc 8 (zj v602))], []⟩, []⟩ = some (.nor, zyb p0 p1 p2 s1_11 s1_19 v602 r) := by
 unfold zEd at h
 refine cond_ok h (fun h701 g1 => ?_) (fun h701 g1 => ?_)
 ·exact fin2_ok (g := fun r => (Ex.nor, zyb p0 p1 p2 s1_11 s1_19 v602 r)) g1 (zqe [(95, 4, 4, .q (xb true))] [] (ob (o_b h701) ob0) (by kernel_rfl))
 ·refine cond_ok g1 (fun h702 g2 => ?_) (fun h702 g2 => ?_)
  ·exact fin2_ok (g := fun r => (Ex.nor, zyb p0 p1 p2 s1_11 s1_19 v602 r)) g2 (zqe [(95, 4, 4, .q (xb false)), (95, 4, 11, .q (xb true))] [] (ob (o_b h701) (ob (o_b h702) ob0)) (by kernel_rfl))
  ·refine cond_ok g2 (fun h703 g3 => ?_) (fun h703 g3 => ?_)
   ·cases g3
   ·exact fin2_ok (g := fun r => (Ex.nor, zyb p0 p1 p2 s1_11 s1_19 v602 r)) g3 (zqe [(95, 4, 4, .q (xb false)), (95, 4, 11, .q (xb false)), (95, 4, 15, .q (xi (shr64 p0.left s1_11)))] [] (ob (o_b h701) (ob (o_b h702) (ob (o_shr (x := p0.left) h703) ob0))) (by kernel_rfl))
noncomputable def z1c (p0 : zd) (p1 : zt0) (p2 s1_11 : Int) (v602 : zp) (s7_15 : Int) (s7_23 r : zt0) : St := ⟨(z8l p0 p1 p2 s1_11 ++ [(37, (xb false)), (38, (xi s7_15)), (39, (xb true)), (9, (xi s7_15))]), ⟨[(zc 3 (zm p0)), (zc 4 (aB 61 r)), (zc 6 (aB 61 (fun _ => false))), (zc 8 (zj v602))], []⟩, []⟩
theorem z5i (k : Nat) (p0 : zd) (p1 : zt0) (p2 s1_11 : Int) (v602 : zp) (s7_15 : Int) (s7_23 r : zt0) (h : zBd k p0 p1 p2 s1_11 v602 s7_15 s7_23 = some r) : ev TE 95 (rgn TE 95 8) ⟨(z8l p0 p1 p2 s1_11 ++ [(37, (xb false)), (38, (xi s7_15)), (39, (xb true)), (9, (xi s7_15))]), ⟨[(zc 3 (zm p0)), (zc 4 (aB 61 s7_23)), (zc 6 (aB 61 (fun _ => false))), (zc 8 (zj v602))], []⟩, []⟩ = some (.nor, z1c p0 p1 p2 s1_11 v602 s7_15 s7_23 r) := by
 unfold zBd at h
 refine guard_ok h (fun h1001 g1 => ?_)
 refine cond_ok g1 (fun h1002 g2 => ?_) (fun h1002 g2 => ?_)
 ·refine bind_ok g2 (fun v1003 h1004 g3 => ?_)
  exact fin2_ok (g := fun r => (Ex.nor, z1c p0 p1 p2 s1_11 v602 s7_15 s7_23 r)) g3 (zqe [(95, 8, 2, .q (.ptr 0 4 (s7_15.toNat))), (95, 8, 3, .q (xb (s7_23 s7_15.toNat))), (95, 8, 4, .q (xb true)), (95, 8, 16, .c (db v1003)), (95, 8, 18, .q (.ptr 0 4 (s7_15.toNat))), (95, 8, 19, .st ((aB 61 (upd s7_23 s7_15.toNat v1003)).map .d))] [] (ob (o_aptr (m := 61) 0 4 0 1 s7_15.toNat h1001 (by omega)) (ob (o_ldB 61 s7_23 s7_15.toNat (by have := h1001; simp only [Bool.and_eq_true, decide_eq_true_eq] at this; omega)) (ob (o_b h1002) (ob (zC k s7_15 (w64 (v602.Read - v602.Err)) (w64 (v602.Read + v602.Err)) _ h1004) (ob (o_aptr (m := 61) 0 4 0 1 s7_15.toNat h1001 (by omega)) (ob (o_stB 61 s7_23 s7_15.toNat v1003 (by have := h1001; simp only [Bool.and_eq_true, decide_eq_true_eq] at this; omega)) ob0)))))) (by kernel_rfl))
 ·exact fin2_ok (g := fun r => (Ex.nor, z1c p0 p1 p2 s1_11 v602 s7_15 s7_23 r)) g2 (zqe [(95, 8, 2, .q (.ptr 0 4 (s7_15.toNat))), (95, 8, 3, .q (xb (s7_23 s7_15.toNat))), (95, 8, 4, .q (xb false)), (95, 8, 18, .q (.ptr 0 4 (s7_15.toNat))), (95, 8, 19, .st ((aB 61 (upd s7_23 s7_15.toNat false)).map .d))] [] (ob (o_aptr (m := 61) 0 4 0 1 s7_15.toNat h1001 (by omega)) (ob (o_ldB 61 s7_23 s7_15.toNat (by have := h1001; simp only [Bool.and_eq_true, decide_eq_true_eq] at this; omega)) (ob (o_b h1002) (ob (o_aptr (m := 61) 0 4 0 1 s7_15.toNat h1001 (by omega)) (ob (o_stB 61 s7_23 s7_15.toNat false (by have := h1001; simp only [Bool.and_eq_true, decide_eq_true_eq] at this; omega)) ob0))))) (by kernel_rfl))
noncomputable def zyj (p0 : zd) (p1 : zt0) (p2 s1_11 : Int) (v602 : zp) (s7_15 : Int) (s7_23 : zt0) : St := ⟨(z8l p0 p1 p2 s1_11 ++ [(37, (xb false)), (38, (xi s7_15))]), ⟨[(zc 3 (zm p0)), (zc 4 (aB 61 s7_23)), (zc 6 (aB 61 (fun _ => false))), (zc 8 (zj v602))], []⟩, []⟩
noncomputable def z3d (p0 : zd) (p1 : zt0) (p2 s1_11 : Int) (v602 : zp) (r : zt12) : St := ⟨(z8l p0 p1 p2 s1_11 ++ [(37, (xb false)), (38, (xi r.1)), (39, (xb false))]), ⟨[(zc 3 (zm p0)), (zc 4 (aB 61 r.2)), (zc 6 (aB 61 (fun _ => false))), (zc 8 (zj v602))], []⟩, []⟩
noncomputable def zrj (p0 : zd) (p1 : zt0) (p2 s1_11 : Int) (v602 : zp) : (Int × (Nat → Bool)) → Ex × St := fun r => ((.exit 2), z3d p0 p1 p2 s1_11 v602 r)
theorem zXi (k : Nat) (p0 : zd) (p1 : zt0) (p2 s1_11 : Int) (v602 : zp) (s7_15 : Int) (s7_23 : zt0) (x : (Int × (Nat → Bool)) ⊕ (Int × (Nat → Bool))) (h : zXb k p0 p1 p2 s1_11 v602 s7_15 s7_23 = some x) : LoopOK TE 95 (blk TE 95 2) (fun s : (Int × (Nat → Bool)) => zyj p0 p1 p2 s1_11 v602 s.1 s.2) (zrj p0 p1 p2 s1_11 v602) (s7_15, s7_23) x := by
 unfold zXb at h
 refine cond_ok h (fun h901 g1 => ?_) (fun h901 g1 => ?_)
 ·refine bind_ok g1 (fun v902 h903 g2 => ?_)
  exact zqn ((w64 (s7_15 + 1)), v902) [] [(95, 6, 0, .q (xb true))] [(95, 1000008, (.nor, z1c p0 p1 p2 s1_11 v602 s7_15 s7_23 v902))] g2 (ob (o_b h901) (ob (z5i k p0 p1 p2 s1_11 v602 s7_15 s7_23 _ h903) ob0)) (by kernel_rfl)
 ·exact zqo [(95, 6, 0, .q (xb false))] [] g1 (ob (o_b h901) ob0) (by kernel_rfl)
noncomputable def zpo (p0 : zd) (p1 : zt0) (p2 s1_11 : Int) : TM := [(0, (.d (.agg (zm p0)))), (1, (.d (.agg (aB 61 p1)))), (2, (xi p2)), (zsp 3), (zsp 4), (zsp 6), (12, (.d (dl zj p0.ShelfBook.Counts.1 p0.ShelfBook.Counts.2))), (13, (xi (p0.ShelfBook.Counts.1.length : Int))), (14, (xi s1_11))]
noncomputable def zJj (p0 : zd) (p1 : zt0) (p2 s1_11 : Int) (s1_19 : zt0) : St := ⟨(zpo p0 p1 p2 s1_11), ⟨[(zc 3 (zm p0)), (zc 4 (aB 61 s1_19)), (zc 6 (aB 61 (fun _ => false)))], []⟩, []⟩
noncomputable def z4o (p0 : zd) (p1 : zt0) (p2 : Int) (r : zt12) : TM := [(0, (.d (.agg (zm p0)))), (1, (.d (.agg (aB 61 p1)))), (2, (xi p2)), (zsp 3), (zsp 4), (zsp 6), (12, (.d (dl zj p0.ShelfBook.Counts.1 p0.ShelfBook.Counts.2))), (13, (xi (p0.ShelfBook.Counts.1.length : Int))), (14, (xi r.1)), (15, (xb false))]
noncomputable def z4d (p0 : zd) (p1 : zt0) (p2 : Int) (r : zt12) : St := ⟨(z4o p0 p1 p2 r), ⟨[(zc 3 (zm p0)), (zc 4 (aB 61 r.2)), (zc 6 (aB 61 (fun _ => false)))], []⟩, []⟩
noncomputable def zsj (p0 : zd) (p1 : zt0) (p2 : Int) : (Int × (Nat → Bool)) → Ex × St := fun r => ((.exit 0), z4d p0 p1 p2 r)
theorem zUi (k : Nat) (p0 : zd) (p1 : zt0) (p2 s1_11 : Int) (s1_19 : zt0) (x : (Int × (Nat → Bool)) ⊕ (Int × (Nat → Bool))) (h : zKc k p0 p1 p2 s1_11 s1_19 = some x) : LoopOK TE 95 (blk TE 95 0) (fun s : (Int × (Nat → Bool)) => zJj p0 p1 p2 s.1 s.2) (zsj p0 p1 p2) (s1_11, s1_19) x := by
 unfold zKc at h
 refine cond_ok h (fun h601 g1 => ?_) (fun h601 g1 => ?_)
 ·refine bind_ok g1 (fun v602 h603 g2 => ?_)
  refine bind_ok g2 (fun v604 h605 g3 => ?_)
  refine cond_ok g3 (fun h606 g4 => ?_) (fun h606 g4 => ?_)
  ·subst h606
   exact zqn ((w64 (s1_11 + 1)), s1_19) [] [(95, 2, 0, .q (xb true)), (95, 3, 1, .q (.d (.pin (zj v602))))] [(95, 1000004, (.nor, zyb p0 p1 p2 s1_11 s1_19 v602 true))] g4 (ob (o_b h601) (ob (o_ia (e := zj) 4 h603 rfl) (ob (z1f k p0 p1 p2 s1_11 s1_19 v602 _ h605) ob0))) (by kernel_rfl)
  ·subst h606
   refine bind_ok g4 (fun v607 h608 g5 => ?_)
   exact zqn ((w64 (s1_11 + 1)), v607.2) [] [(95, 2, 0, .q (xb true)), (95, 3, 1, .q (.d (.pin (zj v602))))] [(95, 1000004, (.nor, zyb p0 p1 p2 s1_11 s1_19 v602 false)), (95, 2, (.nor, z3d p0 p1 p2 s1_11 v602 v607))] g5 (ob (o_b h601) (ob (o_ia (e := zj) 4 h603 rfl) (ob (z1f k p0 p1 p2 s1_11 s1_19 v602 _ h605) (ob (block_ok (id := 2) (r' := (.nor, z3d p0 p1 p2 s1_11 v602 v607)) (zR (zXi k p0 p1 p2 s1_11 v602) k _ _ h608) rfl) ob0)))) (by kernel_rfl)
 ·exact zqo [(95, 2, 0, .q (xb false))] [] g1 (ob (o_b h601) ob0) (by kernel_rfl)
theorem zPg (k : Nat) (p0 : zd) (p1 : zt0) (p2 : Int) (r : zt0) (h : zGc k p0 p1 p2 = some r) : callP TE (ev TE) 95 [(.agg (zm p0)), (.agg (aB 61 p1)), (di p2)] = some (z6g r) := by
 unfold zGc at h
 refine bind_ok h (fun v1 h2 g1 => ?_)
 exact fin_ok (g := z6g) g1 (zqc [(95, 1, 3, .q (xi (p0.ShelfBook.Counts.1.length : Int)))] [(95, 0, (.nor, z4d p0 p1 p2 v1))] (ob (o_len zj p0.ShelfBook.Counts.1) (ob (block_ok (id := 0) (r' := (.nor, z4d p0 p1 p2 v1)) (zR (zUi k p0 p1 p2) k _ _ h2) rfl) ob0)) (by kernel_rfl))
noncomputable def z3o (v1 : zt0) (s1_2 : Int) : TM := [(0, (.yld 0)), (1, (.d (.pin (aB 61 v1)))), (5, (.d (.agg (aB 61 v1)))), (6, (xi s1_2)), (7, (xb true)), (3, (xi s1_2)), (4, (xb (v1 s1_2.toNat))), (16, (xb false))]
noncomputable def zam (p0 p1 v1 : zt0) : TM := [(0, (.d (.agg (aB 61 p0)))), (1, (.d (.agg (aB 61 p1)))), (zsp 2), (zsp 3), (zsp 4), (7, (.d (.fn 96 [] [(.pin (aB 61 v1))])))]
noncomputable def zFf (p0 p1 v1 : zt0) (s1_2 : Int) (s1_3 r : zt0) : St := ⟨(z3o v1 s1_2), ⟨[], [[(zc 2 (aB 61 r)), (zc 3 (aB 61 p1)), (zc 4 (aB 61 (fun _ => false)))]]⟩, [⟨(zam p0 p1 v1), 0, rfP (blk TE 94 0), rfA (blk TE 94 0), rfB (blk TE 94 0), 94, .rdy⟩]⟩
noncomputable def zRo (v1 : zt0) (s1_2 : Int) : TM := [(0, (.yld 0)), (1, (.d (.pin (aB 61 v1)))), (5, (.d (.agg (aB 61 v1)))), (6, (xi s1_2)), (7, (xb true)), (3, (xi s1_2)), (4, (xb (v1 s1_2.toNat)))]
theorem zFl (k : Nat) (p0 p1 v1 : zt0) (s1_2 : Int) (s1_3 r : zt0) (h : zEg k p0 p1 v1 s1_2 s1_3 = some r) : ev TE 96 (rgn TE 96 3) ⟨(zRo v1 s1_2), ⟨[], [[(zc 2 (aB 61 s1_3)), (zc 3 (aB 61 p1)), (zc 4 (aB 61 (fun _ => false)))]]⟩, [⟨(zam p0 p1 v1), 0, rfP (blk TE 94 0), rfA (blk TE 94 0), rfB (blk TE 94 0), 94, .rdy⟩]⟩ = some (.nor, zFf p0 p1 v1 s1_2 s1_3 r) := by
 unfold zEg at h
 refine cond_ok h (fun h401 g1 => ?_) (fun h401 g1 => ?_)
 ·refine guard_ok g1 (fun h402 g2 => ?_)
  exact fin2_ok (g := fun r => (Ex.nor, zFf p0 p1 v1 s1_2 s1_3 r)) g2 (zqe [(96, 3, 1, .q (xb true)), (94, 3, 1, .q (.ptr 0 2 (s1_2.toNat))), (94, 3, 2, .st ((aB 61 (upd s1_3 s1_2.toNat true)).map .d))] [] (ob (o_b h401) (ob (o_aptr (m := 61) 0 2 0 1 s1_2.toNat h402 (by omega)) (ob (o_stB 61 s1_3 s1_2.toNat true (by have := h402; simp only [Bool.and_eq_true, decide_eq_true_eq] at this; omega)) ob0))) (by kernel_rfl))
 ·exact fin2_ok (g := fun r => (Ex.nor, zFf p0 p1 v1 s1_2 s1_3 r)) g1 (zqe [(96, 3, 1, .q (xb false))] [] (ob (o_b h401) ob0) (by kernel_rfl))
noncomputable def zJo (v1 : zt0) (s1_2 : Int) : TM := [(0, (.yld 0)), (1, (.d (.pin (aB 61 v1)))), (5, (.d (.agg (aB 61 v1)))), (6, (xi s1_2))]
noncomputable def zYl (p0 p1 v1 : zt0) (s1_2 : Int) (s1_3 : zt0) : St := ⟨(zJo v1 s1_2), ⟨[], [[(zc 2 (aB 61 s1_3)), (zc 3 (aB 61 p1)), (zc 4 (aB 61 (fun _ => false)))]]⟩, [⟨(zam p0 p1 v1), 0, rfP (blk TE 94 0), rfA (blk TE 94 0), rfB (blk TE 94 0), 94, .rdy⟩]⟩
noncomputable def z8n (v1 : zt0) (r : zt12) : TM := [(0, (.yld 0)), (1, (.d (.pin (aB 61 v1)))), (5, (.d (.agg (aB 61 v1)))), (6, (xi r.1)), (7, (xb false))]
noncomputable def zIg (p0 p1 v1 : zt0) (r : zt12) : St := ⟨(z8n v1 r), ⟨[], [[(zc 2 (aB 61 r.2)), (zc 3 (aB 61 p1)), (zc 4 (aB 61 (fun _ => false)))]]⟩, [⟨(zam p0 p1 v1), 0, rfP (blk TE 94 0), rfA (blk TE 94 0), rfB (blk TE 94 0), 94, .rdy⟩]⟩
noncomputable def zUl (p0 p1 v1 : zt0) : (Int × (Nat → Bool)) → Ex × St := fun r => ((.exit 0), zIg p0 p1 v1 r)
theorem zAl (k : Nat) (p0 p1 v1 : zt0) (s1_2 : Int) (s1_3 : zt0) (x : (Int × (Nat → Bool)) ⊕ (Int × (Nat → Bool))) (h : zsf k p0 p1 v1 s1_2 s1_3 = some x) : LoopOK TE 96 (blk TE 96 0) (fun s : (Int × (Nat → Bool)) => zYl p0 p1 v1 s.1 s.2) (zUl p0 p1 v1) (s1_2, s1_3) x := by
 unfold zsf at h
 refine cond_ok h (fun h301 g1 => ?_) (fun h301 g1 => ?_)
 ·refine guard_ok g1 (fun h302 g2 => ?_)
  refine bind_ok g2 (fun v303 h304 g3 => ?_)
  exact zqn ((w64 (s1_2 + 1)), v303) [] [(96, 1, 0, .q (xb true)), (96, 2, 1, .q (xb (v1 s1_2.toNat)))] [(96, 1000003, (.nor, zFf p0 p1 v1 s1_2 s1_3 v303))] g3 (ob (o_b h301) (ob (o_ixB 61 v1 s1_2 h302) (ob (zFl k p0 p1 v1 s1_2 s1_3 _ h304) ob0))) (by kernel_rfl)
 ·exact zqo [(96, 1, 0, .q (xb false))] [] g1 (ob (o_b h301) ob0) (by kernel_rfl)
theorem zSk (k : Nat) (p0 p1 r : zt0) (h : z7f k p0 p1 = some r) : callP TE (ev TE) 94 [(.agg (aB 61 p0)), (.agg (aB 61 p1))] = some (zXk r) := by
 unfold z7f at h
 refine bind_ok h (fun v1 h2 g1 => ?_)
 refine bind_ok g1 (fun v3 h4 g2 => ?_)
 exact fin_ok (g := zXk) g2 (zqc [(94, 1, 1, .c (.fn 96 [] [(.pin (aB 61 v1))]))] [(96, 0, (.nor, zIg p0 p1 v1 v3))] (ob (z6c k p1 _ h2) (ob (block_ok (id := 0) (r' := (.nor, zIg p0 p1 v1 v3)) (zR (zAl k p0 p1 v1) k _ _ h4) rfl) ob0)) (by kernel_rfl))
noncomputable def z7n (v3105 : zt5) (s31_10 s36_15 : Int) (r : Bool) : TM := [(0, (.yld 0)), (1, (.d (.pin [(di v3105.1), (dl zk v3105.2.1.1 v3105.2.1.2), (dl zl v3105.2.2.1.1 v3105.2.2.1.2), (dl zh v3105.2.2.2.1.1 v3105.2.2.2.1.2), (dl zj v3105.2.2.2.2.1.1 v3105.2.2.2.2.1.2), (di v3105.2.2.2.2.2.1), (di v3105.2.2.2.2.2.2.1)]))), (2, (.d (.pin [(di v3105.2.2.2.2.2.2.2.1)]))), (3, (.d (.pin [(di v3105.2.2.2.2.2.2.2.2)]))), (14, (xi (shl64 1 (v3105.2.2.2.1.1.length : Int)))), (15, (xi s31_10)), (16, (xb true)), (5, (xi s31_10)), (20, (.d (dl zh v3105.2.2.2.1.1 v3105.2.2.2.1.2))), (21, (xi (v3105.2.2.2.1.1.length : Int))), (22, (xi s36_15)), (23, (xb true)), (7, (.ptr 1 7 0)), (6, (xi s36_15)), (8, (xb ((and64 (shr64 v3105.2.2.2.2.2.2.2.1 s36_15) 1) == 1))), (9, (xb ((and64 (shr64 s31_10 s36_15) 1) == 1))), (41, (xb false)), (76, (xb r))]
noncomputable def z2h (p0 : zd) (s1_8 s21_11 : Int) (v3105 : zt5) : TM := [(0, (.d (.agg (zm p0)))), (zsp 1), (2, (.d .nilm)), (zsp 3), (18, (xi p0.ShelfBook.Days)), (19, (xi s1_8)), (20, (xb true)), (zsp 4), (26, (xi (shl64 1 (p0.ShelfBook.Deliveries.1.length : Int)))), (27, (xi s21_11)), (28, (xb true)), (zsp 5), (zsp 6), (38, (xb false)), (42, (.d (.fn 97 [] [(.pin [(di v3105.1), (dl zk v3105.2.1.1 v3105.2.1.2), (dl zl v3105.2.2.1.1 v3105.2.2.1.2), (dl zh v3105.2.2.2.1.1 v3105.2.2.2.1.2), (dl zj v3105.2.2.2.2.1.1 v3105.2.2.2.2.1.2), (di v3105.2.2.2.2.2.1), (di v3105.2.2.2.2.2.2.1)]), (.pin [(di v3105.2.2.2.2.2.2.2.1)]), (.pin [(di v3105.2.2.2.2.2.2.2.2)])])))]
noncomputable def zL (p0 : zd) (s1_8 s21_11 : Int) (s21_19 : zt2) (v3105 : zt5) (s31_10 : Int) (s31_18 : zt2) (s36_15 : Int) (v3802 : zn) (r : Bool) : St := ⟨(z7n v3105 s31_10 s36_15 r), ⟨[(zc 7 (zh v3802))], [[(zc 1 (zm p0)), (11, (.map (em (fun k => D.agg (zB k)) (fun v => D.agg ((aB 61) v)) s31_18))), (3, (.cells [(.map 0 11)])), (4, (.cells [(xi s1_8)])), (5, (.cells [(xi s21_11)])), (zc 6 (aB 61 ((mfind zA (⟨(w64 (s1_8 - 1)), s21_11⟩ : zq) s21_19).getD (fun _ => false))))]]⟩, [⟨(z2h p0 s1_8 s21_11 v3105), 0, rfP (blk TE 81 4), rfA (blk TE 81 4), rfB (blk TE 81 4), 81, .rdy⟩]⟩
noncomputable def zho (v3105 : zt5) (s31_10 s36_15 : Int) : TM := [(0, (.yld 0)), (1, (.d (.pin [(di v3105.1), (dl zk v3105.2.1.1 v3105.2.1.2), (dl zl v3105.2.2.1.1 v3105.2.2.1.2), (dl zh v3105.2.2.2.1.1 v3105.2.2.2.1.2), (dl zj v3105.2.2.2.2.1.1 v3105.2.2.2.2.1.2), (di v3105.2.2.2.2.2.1), (di v3105.2.2.2.2.2.2.1)]))), (2, (.d (.pin [(di v3105.2.2.2.2.2.2.2.1)]))), (3, (.d (.pin [(di v3105.2.2.2.2.2.2.2.2)]))), (14, (xi (shl64 1 (v3105.2.2.2.1.1.length : Int)))), (15, (xi s31_10)), (16, (xb true)), (5, (xi s31_10)), (20, (.d (dl zh v3105.2.2.2.1.1 v3105.2.2.2.1.2))), (21, (xi (v3105.2.2.2.1.1.length : Int))), (22, (xi s36_15)), (23, (xb true)), (7, (.ptr 1 7 0)), (6, (xi s36_15)), (8, (xb ((and64 (shr64 v3105.2.2.2.2.2.2.2.1 s36_15) 1) == 1))), (9, (xb ((and64 (shr64 s31_10 s36_15) 1) == 1))), (41, (xb false))]
theorem zbg (k : Nat) (p0 : zd) (s1_8 s21_11 : Int) (s21_19 : zt2) (v3105 : zt5) (s31_10 : Int) (s31_18 : zt2) (s36_15 : Int) (v3802 : zn) (r : Bool) (h : zYd k p0 s1_8 s21_11 s21_19 v3105 s31_10 s31_18 s36_15 v3802 = some r) : ev TE 97 (rgn TE 97 9) ⟨(zho v3105 s31_10 s36_15), ⟨[(zc 7 (zh v3802))], [[(zc 1 (zm p0)), (11, (.map (em (fun k => D.agg (zB k)) (fun v => D.agg ((aB 61) v)) s31_18))), (3, (.cells [(.map 0 11)])), (4, (.cells [(xi s1_8)])), (5, (.cells [(xi s21_11)])), (zc 6 (aB 61 ((mfind zA (⟨(w64 (s1_8 - 1)), s21_11⟩ : zq) s21_19).getD (fun _ => false))))]]⟩, [⟨(z2h p0 s1_8 s21_11 v3105), 0, rfP (blk TE 81 4), rfA (blk TE 81 4), rfB (blk TE 81 4), 81, .rdy⟩]⟩ = some (.nor, zL p0 s1_8 s21_11 s21_19 v3105 s31_10 s31_18 s36_15 v3802 r) := by
 unfold zYd at h
 refine cond_ok h (fun h3901 g1 => ?_) (fun h3901 g1 => ?_)
 ·refine cond_ok g1 (fun h3902 g2 => ?_) (fun h3902 g2 => ?_)
  ·exact fin2_ok (g := fun r => (Ex.nor, zL p0 s1_8 s21_11 s21_19 v3105 s31_10 s31_18 s36_15 v3802 r)) g2 (zqe [(97, 9, 1, .q (xb true)), (97, 9, 5, .q (xb true))] [] (ob (o_b h3901) (ob (o_b h3902) ob0)) (by kernel_rfl))
  ·refine cond_ok g2 (fun h3903 g3 => ?_) (fun h3903 g3 => ?_)
   ·refine cond_ok g3 (fun h3904 g4 => ?_) (fun h3904 g4 => ?_)
    ·refine bind_ok g4 (fun v3905 h3906 g5 => ?_)
     refine cond_ok g5 (fun h3907 g6 => ?_) (fun h3907 g6 => ?_)
     ·exact fin2_ok (g := fun r => (Ex.nor, zL p0 s1_8 s21_11 s21_19 v3105 s31_10 s31_18 s36_15 v3802 r)) g6 (zqe [(97, 9, 1, .q (xb true)), (97, 9, 5, .q (xb false)), (97, 9, 7, .q (xb true)), (97, 9, 11, .q (xb true)), (97, 9, 19, .c (db v3905)), (97, 9, 23, .q (xb true))] [] (ob (o_b h3901) (ob (o_b h3902) (ob (o_b h3903) (ob (o_b h3904) (ob (zC k v3105.2.2.2.2.2.2.2.2 v3802.Days.Low v3802.Days.High _ h3906) (ob (o_b h3907) ob0)))))) (by kernel_rfl))
     ·exact fin2_ok (g := fun r => (Ex.nor, zL p0 s1_8 s21_11 s21_19 v3105 s31_10 s31_18 s36_15 v3802 r)) g6 (zqe [(97, 9, 1, .q (xb true)), (97, 9, 5, .q (xb false)), (97, 9, 7, .q (xb true)), (97, 9, 11, .q (xb true)), (97, 9, 19, .c (db v3905)), (97, 9, 23, .q (xb false)), (97, 9, 26, .q (xb false))] [] (ob (o_b h3901) (ob (o_b h3902) (ob (o_b h3903) (ob (o_b h3904) (ob (zC k v3105.2.2.2.2.2.2.2.2 v3802.Days.Low v3802.Days.High _ h3906) (ob (o_b h3907) (ob (o_b h3902) ob0))))))) (by kernel_rfl))
    ·exact fin2_ok (g := fun r => (Ex.nor, zL p0 s1_8 s21_11 s21_19 v3105 s31_10 s31_18 s36_15 v3802 r)) g4 (zqe [(97, 9, 1, .q (xb true)), (97, 9, 5, .q (xb false)), (97, 9, 7, .q (xb true)), (97, 9, 11, .q (xb false)), (97, 9, 26, .q (xb false))] [] (ob (o_b h3901) (ob (o_b h3902) (ob (o_b h3903) (ob (o_b h3904) (ob (o_b h3902) ob0))))) (by kernel_rfl))
   ·exact fin2_ok (g := fun r => (Ex.nor, zL p0 s1_8 s21_11 s21_19 v3105 s31_10 s31_18 s36_15 v3802 r)) g3 (zqe [(97, 9, 1, .q (xb true)), (97, 9, 5, .q (xb false)), (97, 9, 7, .q (xb false)), (97, 9, 26, .q (xb false))] [] (ob (o_b h3901) (ob (o_b h3902) (ob (o_b h3903) (ob (o_b h3902) ob0)))) (by kernel_rfl))
 ·refine cond_ok g1 (fun h3902 g2 => ?_) (fun h3902 g2 => ?_)
  ·refine cond_ok g2 (fun h3903 g3 => ?_) (fun h3903 g3 => ?_)
   ·refine bind_ok g3 (fun v3904 h3905 g4 => ?_)
    refine cond_ok g4 (fun h3906 g5 => ?_) (fun h3906 g5 => ?_)
    ·exact fin2_ok (g := fun r => (Ex.nor, zL p0 s1_8 s21_11 s21_19 v3105 s31_10 s31_18 s36_15 v3802 r)) g5 (zqe [(97, 9, 1, .q (xb false)), (97, 9, 7, .q (xb true)), (97, 9, 11, .q (xb true)), (97, 9, 19, .c (db v3904)), (97, 9, 23, .q (xb true))] [] (ob (o_b h3901) (ob (o_b h3902) (ob (o_b h3903) (ob (zC k v3105.2.2.2.2.2.2.2.2 v3802.Days.Low v3802.Days.High _ h3905) (ob (o_b h3906) ob0))))) (by kernel_rfl))
    ·refine cond_ok g5 (fun h3907 g6 => ?_) (fun h3907 g6 => ?_)
     ·exact fin2_ok (g := fun r => (Ex.nor, zL p0 s1_8 s21_11 s21_19 v3105 s31_10 s31_18 s36_15 v3802 r)) g6 (zqe [(97, 9, 1, .q (xb false)), (97, 9, 7, .q (xb true)), (97, 9, 11, .q (xb true)), (97, 9, 19, .c (db v3904)), (97, 9, 23, .q (xb false)), (97, 9, 26, .q (xb true))] [] (ob (o_b h3901) (ob (o_b h3902) (ob (o_b h3903) (ob (zC k v3105.2.2.2.2.2.2.2.2 v3802.Days.Low v3802.Days.High _ h3905) (ob (o_b h3906) (ob (o_b h3907) ob0)))))) (by kernel_rfl))
     ·exact fin2_ok (g := fun r => (Ex.nor, zL p0 s1_8 s21_11 s21_19 v3105 s31_10 s31_18 s36_15 v3802 r)) g6 (zqe [(97, 9, 1, .q (xb false)), (97, 9, 7, .q (xb true)), (97, 9, 11, .q (xb true)), (97, 9, 19, .c (db v3904)), (97, 9, 23, .q (xb false)), (97, 9, 26, .q (xb false))] [] (ob (o_b h3901) (ob (o_b h3902) (ob (o_b h3903) (ob (zC k v3105.2.2.2.2.2.2.2.2 v3802.Days.Low v3802.Days.High _ h3905) (ob (o_b h3906) (ob (o_b h3907) ob0)))))) (by kernel_rfl))
   ·refine cond_ok g3 (fun h3904 g4 => ?_) (fun h3904 g4 => ?_)
    ·exact fin2_ok (g := fun r => (Ex.nor, zL p0 s1_8 s21_11 s21_19 v3105 s31_10 s31_18 s36_15 v3802 r)) g4 (zqe [(97, 9, 1, .q (xb false)), (97, 9, 7, .q (xb true)), (97, 9, 11, .q (xb false)), (97, 9, 26, .q (xb true))] [] (ob (o_b h3901) (ob (o_b h3902) (ob (o_b h3903) (ob (o_b h3904) ob0)))) (by kernel_rfl))
    ·exact fin2_ok (g := fun r => (Ex.nor, zL p0 s1_8 s21_11 s21_19 v3105 s31_10 s31_18 s36_15 v3802 r)) g4 (zqe [(97, 9, 1, .q (xb false)), (97, 9, 7, .q (xb true)), (97, 9, 11, .q (xb false)), (97, 9, 26, .q (xb false))] [] (ob (o_b h3901) (ob (o_b h3902) (ob (o_b h3903) (ob (o_b h3904) ob0)))) (by kernel_rfl))
  ·refine cond_ok g2 (fun h3903 g3 => ?_) (fun h3903 g3 => ?_)
   ·exact fin2_ok (g := fun r => (Ex.nor, zL p0 s1_8 s21_11 s21_19 v3105 s31_10 s31_18 s36_15 v3802 r)) g3 (zqe [(97, 9, 1, .q (xb false)), (97, 9, 7, .q (xb false)), (97, 9, 26, .q (xb true))] [] (ob (o_b h3901) (ob (o_b h3902) (ob (o_b h3903) ob0))) (by kernel_rfl))
   ·exact fin2_ok (g := fun r => (Ex.nor, zL p0 s1_8 s21_11 s21_19 v3105 s31_10 s31_18 s36_15 v3802 r)) g3 (zqe [(97, 9, 1, .q (xb false)), (97, 9, 7, .q (xb false)), (97, 9, 26, .q (xb false))] [] (ob (o_b h3901) (ob (o_b h3902) (ob (o_b h3903) ob0))) (by kernel_rfl))
noncomputable def zSo (v3105 : zt5) (s31_10 s36_15 : Int) : TM := [(0, (.yld 0)), (1, (.d (.pin [(di v3105.1), (dl zk v3105.2.1.1 v3105.2.1.2), (dl zl v3105.2.2.1.1 v3105.2.2.1.2), (dl zh v3105.2.2.2.1.1 v3105.2.2.2.1.2), (dl zj v3105.2.2.2.2.1.1 v3105.2.2.2.2.1.2), (di v3105.2.2.2.2.2.1), (di v3105.2.2.2.2.2.2.1)]))), (2, (.d (.pin [(di v3105.2.2.2.2.2.2.2.1)]))), (3, (.d (.pin [(di v3105.2.2.2.2.2.2.2.2)]))), (14, (xi (shl64 1 (v3105.2.2.2.1.1.length : Int)))), (15, (xi s31_10)), (16, (xb true)), (5, (xi s31_10)), (20, (.d (dl zh v3105.2.2.2.1.1 v3105.2.2.2.1.2))), (21, (xi (v3105.2.2.2.1.1.length : Int))), (22, (xi s36_15))]
noncomputable def zOj (p0 : zd) (s1_8 s21_11 : Int) (s21_19 : zt2) (v3105 : zt5) (s31_10 : Int) (s31_18 : zt2) (s36_15 : Int) : St := ⟨(zSo v3105 s31_10 s36_15), ⟨[], [[(zc 1 (zm p0)), (11, (.map (em (fun k => D.agg (zB k)) (fun v => D.agg ((aB 61) v)) s31_18))), (3, (.cells [(.map 0 11)])), (4, (.cells [(xi s1_8)])), (5, (.cells [(xi s21_11)])), (zc 6 (aB 61 ((mfind zA (⟨(w64 (s1_8 - 1)), s21_11⟩ : zq) s21_19).getD (fun _ => false))))]]⟩, [⟨(z2h p0 s1_8 s21_11 v3105), 0, rfP (blk TE 81 4), rfA (blk TE 81 4), rfB (blk TE 81 4), 81, .rdy⟩]⟩
noncomputable def zbo (v3105 : zt5) (s31_10 : Int) (r : (Int × Bool × Bool × Int × Int × Int × Int × Int)) : TM := [(0, (.yld 0)), (1, (.d (.pin [(di v3105.1), (dl zk v3105.2.1.1 v3105.2.1.2), (dl zl v3105.2.2.1.1 v3105.2.2.1.2), (dl zh v3105.2.2.2.1.1 v3105.2.2.2.1.2), (dl zj v3105.2.2.2.2.1.1 v3105.2.2.2.2.1.2), (di v3105.2.2.2.2.2.1), (di v3105.2.2.2.2.2.2.1)]))), (2, (.d (.pin [(di v3105.2.2.2.2.2.2.2.1)]))), (3, (.d (.pin [(di v3105.2.2.2.2.2.2.2.2)]))), (14, (xi (shl64 1 (v3105.2.2.2.1.1.length : Int)))), (15, (xi s31_10)), (16, (xb true)), (5, (xi s31_10)), (20, (.d (dl zh v3105.2.2.2.1.1 v3105.2.2.2.1.2))), (21, (xi (v3105.2.2.2.1.1.length : Int))), (22, (xi r.1)), (23, (xb true)), (7, (.ptr 1 7 0)), (6, (xi r.1)), (8, (xb r.2.1)), (9, (xb r.2.2.1)), (41, (xb true)), (42, (xb true))]
noncomputable def zne (p0 : zd) (s1_8 s21_11 : Int) (s21_19 : zt2) (v3105 : zt5) (s31_10 : Int) (s31_18 : zt2) (r : (Int × Bool × Bool × Int × Int × Int × Int × Int)) : St := ⟨(zbo v3105 s31_10 r), ⟨[(7, (.cells [(xi r.2.2.2.1), (xi r.2.2.2.2.1), (xi r.2.2.2.2.2.1), (xi r.2.2.2.2.2.2.1), (xi r.2.2.2.2.2.2.2)]))], [[(zc 1 (zm p0)), (11, (.map (em (fun k => D.agg (zB k)) (fun v => D.agg ((aB 61) v)) s31_18))), (3, (.cells [(.map 0 11)])), (4, (.cells [(xi s1_8)])), (5, (.cells [(xi s21_11)])), (zc 6 (aB 61 ((mfind zA (⟨(w64 (s1_8 - 1)), s21_11⟩ : zq) s21_19).getD (fun _ => false))))]]⟩, [⟨(z2h p0 s1_8 s21_11 v3105), 0, rfP (blk TE 81 4), rfA (blk TE 81 4), rfB (blk TE 81 4), 81, .rdy⟩]⟩
noncomputable def z6o (v3105 : zt5) (s31_10 : Int) (r : (Int × Bool × Bool × Int × Int × Int × Int × Int)) : TM := [(0, (.yld 0)), (1, (.d (.pin [(di v3105.1), (dl zk v3105.2.1.1 v3105.2.1.2), (dl zl v3105.2.2.1.1 v3105.2.2.1.2), (dl zh v3105.2.2.2.1.1 v3105.2.2.2.1.2), (dl zj v3105.2.2.2.2.1.1 v3105.2.2.2.2.1.2), (di v3105.2.2.2.2.2.1), (di v3105.2.2.2.2.2.2.1)]))), (2, (.d (.pin [(di v3105.2.2.2.2.2.2.2.1)]))), (3, (.d (.pin [(di v3105.2.2.2.2.2.2.2.2)]))), (14, (xi (shl64 1 (v3105.2.2.2.1.1.length : Int)))), (15, (xi s31_10)), (16, (xb true)), (5, (xi s31_10)), (20, (.d (dl zh v3105.2.2.2.1.1 v3105.2.2.2.1.2))), (21, (xi (v3105.2.2.2.1.1.length : Int))), (22, (xi r.1)), (23, (xb true)), (7, (.ptr 1 7 0)), (6, (xi r.1)), (8, (xb r.2.1)), (9, (xb r.2.2.1)), (41, (xb false)), (76, (xb true))]
noncomputable def zue (p0 : zd) (s1_8 s21_11 : Int) (s21_19 : zt2) (v3105 : zt5) (s31_10 : Int) (s31_18 : zt2) (r : (Int × Bool × Bool × Int × Int × Int × Int × Int)) : St := ⟨(z6o v3105 s31_10 r), ⟨[(7, (.cells [(xi r.2.2.2.1), (xi r.2.2.2.2.1), (xi r.2.2.2.2.2.1), (xi r.2.2.2.2.2.2.1), (xi r.2.2.2.2.2.2.2)]))], [[(zc 1 (zm p0)), (11, (.map (em (fun k => D.agg (zB k)) (fun v => D.agg ((aB 61) v)) s31_18))), (3, (.cells [(.map 0 11)])), (4, (.cells [(xi s1_8)])), (5, (.cells [(xi s21_11)])), (zc 6 (aB 61 ((mfind zA (⟨(w64 (s1_8 - 1)), s21_11⟩ : zq) s21_19).getD (fun _ => false))))]]⟩, [⟨(z2h p0 s1_8 s21_11 v3105), 0, rfP (blk TE 81 4), rfA (blk TE 81 4), rfB (blk TE 81 4), 81, .rdy⟩]⟩
noncomputable def zVo (v3105 : zt5) (s31_10 r : Int) : TM := [(0, (.yld 0)), (1, (.d (.pin [(di v3105.1), (dl zk v3105.2.1.1 v3105.2.1.2), (dl zl v3105.2.2.1.1 v3105.2.2.1.2), (dl zh v3105.2.2.2.1.1 v3105.2.2.2.1.2), (dl zj v3105.2.2.2.2.1.1 v3105.2.2.2.2.1.2), (di v3105.2.2.2.2.2.1), (di v3105.2.2.2.2.2.2.1)]))), (2, (.d (.pin [(di v3105.2.2.2.2.2.2.2.1)]))), (3, (.d (.pin [(di v3105.2.2.2.2.2.2.2.2)]))), (14, (xi (shl64 1 (v3105.2.2.2.1.1.length : Int)))), (15, (xi s31_10)), (16, (xb true)), (5, (xi s31_10)), (20, (.d (dl zh v3105.2.2.2.1.1 v3105.2.2.2.1.2))), (21, (xi (v3105.2.2.2.1.1.length : Int))), (22, (xi r)), (23, (xb false))]
noncomputable def zxe (p0 : zd) (s1_8 s21_11 : Int) (s21_19 : zt2) (v3105 : zt5) (s31_10 : Int) (s31_18 : zt2) (r : Int) : St := ⟨(zVo v3105 s31_10 r), ⟨[], [[(zc 1 (zm p0)), (11, (.map (em (fun k => D.agg (zB k)) (fun v => D.agg ((aB 61) v)) s31_18))), (3, (.cells [(.map 0 11)])), (4, (.cells [(xi s1_8)])), (5, (.cells [(xi s21_11)])), (zc 6 (aB 61 ((mfind zA (⟨(w64 (s1_8 - 1)), s21_11⟩ : zq) s21_19).getD (fun _ => false))))]]⟩, [⟨(z2h p0 s1_8 s21_11 v3105), 0, rfP (blk TE 81 4), rfA (blk TE 81 4), rfB (blk TE 81 4), 81, .rdy⟩]⟩
noncomputable def z2j (p0 : zd) (s1_8 s21_11 : Int) (s21_19 : zt2) (v3105 : zt5) (s31_10 : Int) (s31_18 : zt2) : ((Int × Bool × Bool × Int × Int × Int × Int × Int) ⊕ ((Int × Bool × Bool × Int × Int × Int × Int × Int) ⊕ Int)) → Ex × St := Sum.elim (fun r => ((.exit 1), zne p0 s1_8 s21_11 s21_19 v3105 s31_10 s31_18 r)) (Sum.elim (fun r => ((.exit 1), zue p0 s1_8 s21_11 s21_19 v3105 s31_10 s31_18 r)) (fun r => ((.exit 2), zxe p0 s1_8 s21_11 s21_19 v3105 s31_10 s31_18 r)))
theorem zre (k : Nat) (p0 : zd) (s1_8 s21_11 : Int) (s21_19 : zt2) (v3105 : zt5) (s31_10 : Int) (s31_18 : zt2) (s36_15 : Int) (x : Int ⊕ ((Int × Bool × Bool × Int × Int × Int × Int × Int) ⊕ ((Int × Bool × Bool × Int × Int × Int × Int × Int) ⊕ Int))) (h : z9b k p0 s1_8 s21_11 s21_19 v3105 s31_10 s31_18 s36_15 = some x) : LoopOK TE 97 (blk TE 97 2) (fun s : Int => zOj p0 s1_8 s21_11 s21_19 v3105 s31_10 s31_18 s) (z2j p0 s1_8 s21_11 s21_19 v3105 s31_10 s31_18) s36_15 x := by
 unfold z9b at h
 refine cond_ok h (fun h3801 g1 => ?_) (fun h3801 g1 => ?_)
 ·refine bind_ok g1 (fun v3802 h3803 g2 => ?_)
  refine cond_ok g2 (fun h3804 g3 => ?_) (fun h3804 g3 => ?_)
  ·cases g3
  ·refine cond_ok g3 (fun h3805 g4 => ?_) (fun h3805 g4 => ?_)
   ·refine cond_ok g4 (fun h3806 g5 => ?_) (fun h3806 g5 => ?_)
    ·exact zqo [(97, 4, 0, .q (xb true)), (97, 5, 1, .q (.d (.pin (zh v3802)))), (97, 6, 2, .q (xi (shr64 v3105.2.2.2.2.2.2.2.1 s36_15))), (97, 6, 7, .q (xi (shr64 s31_10 s36_15))), (97, 7, 4, .q (xb true)), (97, 8, 0, .q (xb true))] [] g5 (ob (o_b h3801) (ob (o_ia (e := zh) 5 h3803 rfl) (ob (o_shr (x := v3105.2.2.2.2.2.2.2.1) h3804) (ob (o_shr (x := s31_10) h3804) (ob (o_b h3805) (ob (o_b h3806) ob0)))))) (by kernel_rfl)
    ·exact zqn (w64 (s36_15 + 1)) [] [(97, 4, 0, .q (xb true)), (97, 5, 1, .q (.d (.pin (zh v3802)))), (97, 6, 2, .q (xi (shr64 v3105.2.2.2.2.2.2.2.1 s36_15))), (97, 6, 7, .q (xi (shr64 s31_10 s36_15))), (97, 7, 4, .q (xb true)), (97, 8, 0, .q (xb false))] [] g5 (ob (o_b h3801) (ob (o_ia (e := zh) 5 h3803 rfl) (ob (o_shr (x := v3105.2.2.2.2.2.2.2.1) h3804) (ob (o_shr (x := s31_10) h3804) (ob (o_b h3805) (ob (o_b h3806) ob0)))))) (by kernel_rfl)
   ·refine bind_ok g4 (fun v3806 h3807 g5 => ?_)
    refine cond_ok g5 (fun h3808 g6 => ?_) (fun h3808 g6 => ?_)
    ·subst h3808
     exact zqo [(97, 4, 0, .q (xb true)), (97, 5, 1, .q (.d (.pin (zh v3802)))), (97, 6, 2, .q (xi (shr64 v3105.2.2.2.2.2.2.2.1 s36_15))), (97, 6, 7, .q (xi (shr64 s31_10 s36_15))), (97, 7, 4, .q (xb false))] [(97, 1000009, (.nor, zL p0 s1_8 s21_11 s21_19 v3105 s31_10 s31_18 s36_15 v3802 true))] g6 (ob (o_b h3801) (ob (o_ia (e := zh) 5 h3803 rfl) (ob (o_shr (x := v3105.2.2.2.2.2.2.2.1) h3804) (ob (o_shr (x := s31_10) h3804) (ob (o_b h3805) (ob (zbg k p0 s1_8 s21_11 s21_19 v3105 s31_10 s31_18 s36_15 v3802 _ h3807) ob0)))))) (by kernel_rfl)
    ·subst h3808
     exact zqn (w64 (s36_15 + 1)) [] [(97, 4, 0, .q (xb true)), (97, 5, 1, .q (.d (.pin (zh v3802)))), (97, 6, 2, .q (xi (shr64 v3105.2.2.2.2.2.2.2.1 s36_15))), (97, 6, 7, .q (xi (shr64 s31_10 s36_15))), (97, 7, 4, .q (xb false))] [(97, 1000009, (.nor, zL p0 s1_8 s21_11 s21_19 v3105 s31_10 s31_18 s36_15 v3802 false))] g6 (ob (o_b h3801) (ob (o_ia (e := zh) 5 h3803 rfl) (ob (o_shr (x := v3105.2.2.2.2.2.2.2.1) h3804) (ob (o_shr (x := s31_10) h3804) (ob (o_b h3805) (ob (zbg k p0 s1_8 s21_11 s21_19 v3105 s31_10 s31_18 s36_15 v3802 _ h3807) ob0)))))) (by kernel_rfl)
 ·exact zqo [(97, 4, 0, .q (xb false))] [] g1 (ob (o_b h3801) ob0) (by kernel_rfl)
noncomputable def zto (p0 : zd) (s1_8 s21_11 : Int) (v3105 : zt5) (s31_10 : Int) (v3606 : (SL zD)) (s39_27 : Int) : TM := z2h p0 s1_8 s21_11 v3105 ++ [(43, (xi s31_10)), (7, (xi s31_10)), (8, (.ptr 2 8 0)), (50, (.d (dl zH v3606.1 v3606.2))), (51, (xi (v3606.1.length : Int))), (52, (xi s39_27))]
noncomputable def zPj (p0 : zd) (s1_8 s21_11 : Int) (s21_19 : zt2) (v3105 : zt5) (s31_10 : Int) (s31_18 : zt2) (v3606 : (SL zD)) (s39_27 : Int) (s39_28 : zt0) : St := ⟨(zto p0 s1_8 s21_11 v3105 s31_10 v3606 s39_27), ⟨[(zc 8 (aB 61 s39_28))], [[(zc 1 (zm p0)), (11, (.map (em (fun k => D.agg (zB k)) (fun v => D.agg ((aB 61) v)) s31_18))), (3, (.cells [(.map 0 11)])), (4, (.cells [(xi s1_8)])), (5, (.cells [(xi s21_11)])), (zc 6 (aB 61 ((mfind zA (⟨(w64 (s1_8 - 1)), s21_11⟩ : zq) s21_19).getD (fun _ => false))))], []]⟩, [⟨(z2h p0 s1_8 s21_11 v3105), 0, rfP (blk TE 81 4), rfA (blk TE 81 4), rfB (blk TE 81 4), 81, .busy⟩]⟩
noncomputable def zxo (p0 : zd) (s1_8 s21_11 : Int) (v3105 : zt5) (s31_10 : Int) (v3606 : (SL zD)) (r : zt12) : TM := z2h p0 s1_8 s21_11 v3105 ++ [(43, (xi s31_10)), (7, (xi s31_10)), (8, (.ptr 2 8 0)), (50, (.d (dl zH v3606.1 v3606.2))), (51, (xi (v3606.1.length : Int))), (52, (xi r.1)), (53, (xb false))]
noncomputable def zve (p0 : zd) (s1_8 s21_11 : Int) (s21_19 : zt2) (v3105 : zt5) (s31_10 : Int) (s31_18 : zt2) (v3606 : (SL zD)) (r : zt12) : St := ⟨(zxo p0 s1_8 s21_11 v3105 s31_10 v3606 r), ⟨[(zc 8 (aB 61 r.2))], [[(zc 1 (zm p0)), (11, (.map (em (fun k => D.agg (zB k)) (fun v => D.agg ((aB 61) v)) s31_18))), (3, (.cells [(.map 0 11)])), (4, (.cells [(xi s1_8)])), (5, (.cells [(xi s21_11)])), (zc 6 (aB 61 ((mfind zA (⟨(w64 (s1_8 - 1)), s21_11⟩ : zq) s21_19).getD (fun _ => false))))], []]⟩, [⟨(z2h p0 s1_8 s21_11 v3105), 0, rfP (blk TE 81 4), rfA (blk TE 81 4), rfB (blk TE 81 4), 81, .busy⟩]⟩
noncomputable def zYj (p0 : zd) (s1_8 s21_11 : Int) (s21_19 : zt2) (v3105 : zt5) (s31_10 : Int) (s31_18 : zt2) (v3606 : (SL zD)) : (Int × (Nat → Bool)) → Ex × St := fun r => ((.exit 6), zve p0 s1_8 s21_11 s21_19 v3105 s31_10 s31_18 v3606 r)
theorem zoj (k : Nat) (p0 : zd) (s1_8 s21_11 : Int) (s21_19 : zt2) (v3105 : zt5) (s31_10 : Int) (s31_18 : zt2) (v3606 : (SL zD)) (s39_27 : Int) (s39_28 : zt0) (x : (Int × (Nat → Bool)) ⊕ (Int × (Nat → Bool))) (h : zac k p0 s1_8 s21_11 s21_19 v3105 s31_10 s31_18 v3606 s39_27 s39_28 = some x) : LoopOK TE 81 (blk TE 81 6) (fun s : (Int × (Nat → Bool)) => zPj p0 s1_8 s21_11 s21_19 v3105 s31_10 s31_18 v3606 s.1 s.2) (zYj p0 s1_8 s21_11 s21_19 v3105 s31_10 s31_18 v3606) (s39_27, s39_28) x := by
 unfold zac at h
 refine cond_ok h (fun h4001 g1 => ?_) (fun h4001 g1 => ?_)
 ·refine bind_ok g1 (fun v4002 h4003 g2 => ?_)
  refine bind_ok g2 (fun v4004 h4005 g3 => ?_)
  exact zqn ((w64 (s39_27 + 1)), v4004) [] [(81, 14, 0, .q (xb true)), (81, 15, 0, .q (.d (.pin (zH v4002)))), (81, 16, 6, .c (.agg (aB 61 v4004)))] [] g3 (ob (o_b h4001) (ob (o_ia (e := zH) 3 h4003 rfl) (ob (zeh k p0 s39_28 v4002.way v4002.by_ _ h4005) ob0))) (by kernel_rfl)
 ·exact zqo [(81, 14, 0, .q (xb false))] [] g1 (ob (o_b h4001) ob0) (by kernel_rfl)
noncomputable def zao (v3105 : zt5) (s31_10 : Int) : TM := [(0, (.yld 0)), (1, (.d (.pin [(di v3105.1), (dl zk v3105.2.1.1 v3105.2.1.2), (dl zl v3105.2.2.1.1 v3105.2.2.1.2), (dl zh v3105.2.2.2.1.1 v3105.2.2.2.1.2), (dl zj v3105.2.2.2.2.1.1 v3105.2.2.2.2.1.2), (di v3105.2.2.2.2.2.1), (di v3105.2.2.2.2.2.2.1)]))), (2, (.d (.pin [(di v3105.2.2.2.2.2.2.2.1)]))), (3, (.d (.pin [(di v3105.2.2.2.2.2.2.2.2)]))), (14, (xi (shl64 1 (v3105.2.2.2.1.1.length : Int)))), (15, (xi s31_10))]
noncomputable def zSj (p0 : zd) (s1_8 s21_11 : Int) (s21_19 : zt2) (v3105 : zt5) (s31_10 : Int) (s31_18 : zt2) : St := ⟨(zao v3105 s31_10), ⟨[], [[(zc 1 (zm p0)), (11, (.map (em (fun k => D.agg (zB k)) (fun v => D.agg ((aB 61) v)) s31_18))), (3, (.cells [(.map 0 11)])), (4, (.cells [(xi s1_8)])), (5, (.cells [(xi s21_11)])), (zc 6 (aB 61 ((mfind zA (⟨(w64 (s1_8 - 1)), s21_11⟩ : zq) s21_19).getD (fun _ => false))))]]⟩, [⟨(z2h p0 s1_8 s21_11 v3105), 0, rfP (blk TE 81 4), rfA (blk TE 81 4), rfB (blk TE 81 4), 81, .rdy⟩]⟩
noncomputable def zLo (v3105 : zt5) (r : zt6) : TM := [(0, (.yld 0)), (1, (.d (.pin [(di v3105.1), (dl zk v3105.2.1.1 v3105.2.1.2), (dl zl v3105.2.2.1.1 v3105.2.2.1.2), (dl zh v3105.2.2.2.1.1 v3105.2.2.2.1.2), (dl zj v3105.2.2.2.2.1.1 v3105.2.2.2.2.1.2), (di v3105.2.2.2.2.2.1), (di v3105.2.2.2.2.2.2.1)]))), (2, (.d (.pin [(di v3105.2.2.2.2.2.2.2.1)]))), (3, (.d (.pin [(di v3105.2.2.2.2.2.2.2.2)]))), (14, (xi (shl64 1 (v3105.2.2.2.1.1.length : Int)))), (15, (xi r.1)), (16, (xb false))]
noncomputable def zoe (p0 : zd) (s1_8 s21_11 : Int) (s21_19 : zt2) (v3105 : zt5) (r : zt6) : St := ⟨(zLo v3105 r), ⟨[], [[(zc 1 (zm p0)), (11, (.map (em (fun k => D.agg (zB k)) (fun v => D.agg ((aB 61) v)) r.2))), (3, (.cells [(.map 0 11)])), (4, (.cells [(xi s1_8)])), (5, (.cells [(xi s21_11)])), (zc 6 (aB 61 ((mfind zA (⟨(w64 (s1_8 - 1)), s21_11⟩ : zq) s21_19).getD (fun _ => false))))]]⟩, [⟨(z2h p0 s1_8 s21_11 v3105), 0, rfP (blk TE 81 4), rfA (blk TE 81 4), rfB (blk TE 81 4), 81, .rdy⟩]⟩
noncomputable def zUj (p0 : zd) (s1_8 s21_11 : Int) (s21_19 : zt2) (v3105 : zt5) : (Int × (List (zq × (Nat → Bool)))) → Ex × St := fun r => ((.exit 0), zoe p0 s1_8 s21_11 s21_19 v3105 r)
theorem zmj (k : Nat) (p0 : zd) (s1_8 s21_11 : Int) (s21_19 : zt2) (v3105 : zt5) (s31_10 : Int) (s31_18 : zt2) (x : (Int × (List (zq × (Nat → Bool)))) ⊕ (Int × (List (zq × (Nat → Bool))))) (h : z6b k p0 s1_8 s21_11 s21_19 v3105 s31_10 s31_18 = some x) : LoopOK TE 97 (blk TE 97 0) (fun s : (Int × (List (zq × (Nat → Bool)))) => zSj p0 s1_8 s21_11 s21_19 v3105 s.1 s.2) (zUj p0 s1_8 s21_11 s21_19 v3105) (s31_10, s31_18) x := by
 unfold z6b at h
 refine cond_ok h (fun h3601 g1 => ?_) (fun h3601 g1 => ?_)
 ·refine bind_ok g1 (fun v3602 h3603 g2 => ?_)
  refine sum_ok g2 (fun v3605 hh g3_0 => ?_) (fun w2_0 hh g3_0 => ?_)
  ·subst hh
   exact zqn ((w64 (s31_10 + 1)), s31_18) [] [(97, 1, 0, .q (xb true)), (97, 3, 3, .q (xi (v3105.2.2.2.1.1.length : Int)))] [(97, 2, ((.exit 1), zne p0 s1_8 s21_11 s21_19 v3105 s31_10 s31_18 v3605))] g3_0 (ob (o_b h3601) (ob (o_len zh v3105.2.2.2.1.1) (ob (block_ok (id := 2) (r' := ((.exit 1), zne p0 s1_8 s21_11 s21_19 v3105 s31_10 s31_18 v3605)) (zvc (zre k p0 s1_8 s21_11 s21_19 v3105 s31_10 s31_18) k _ _ h3603) rfl) ob0))) (by kernel_rfl)
  ·subst hh
   refine sum_ok g3_0 (fun v3605 hh g3_1 => ?_) (fun v3605 hh g3_1 => ?_)
   ·subst hh
    exact zqn ((w64 (s31_10 + 1)), s31_18) [] [(97, 1, 0, .q (xb true)), (97, 3, 3, .q (xi (v3105.2.2.2.1.1.length : Int)))] [(97, 2, ((.exit 1), zue p0 s1_8 s21_11 s21_19 v3105 s31_10 s31_18 v3605))] g3_1 (ob (o_b h3601) (ob (o_len zh v3105.2.2.2.1.1) (ob (block_ok (id := 2) (r' := ((.exit 1), zue p0 s1_8 s21_11 s21_19 v3105 s31_10 s31_18 v3605)) (zvc (zre k p0 s1_8 s21_11 s21_19 v3105 s31_10 s31_18) k _ _ h3603) rfl) ob0))) (by kernel_rfl)
   ·subst hh
    refine bind_ok g3_1 (fun v3606 h3607 g4 => ?_)
    refine bind_ok g4 (fun v3608 h3609 g5 => ?_)
    refine bind_ok g5 (fun v3610 h3611 g6 => ?_)
    refine bind_ok g6 (fun v3612 h3613 g7 => ?_)
    exact zqn ((w64 (s31_10 + 1)), (mset zA (⟨s1_8, s31_10⟩ : zq) v3612 s31_18)) [] [(97, 1, 0, .q (xb true)), (97, 3, 3, .q (xi (v3105.2.2.2.1.1.length : Int))), (81, 13, 5, .c (dl zH v3606.1 v3606.2)), (81, 13, 6, .q (xi (v3606.1.length : Int))), (81, 18, 8, .q (.d (.agg (aB 61 ((mfind zA (⟨s1_8, s31_10⟩ : zq) s31_18).getD (fun _ => false)))))), (81, 18, 12, .c (.agg (aB 61 v3610))), (81, 18, 13, .c (.agg (aB 61 v3612))), (81, 18, 14, .mp (em (fun k => D.agg (zB k)) (fun v => D.agg ((aB 61) v)) (mset zA (⟨s1_8, s31_10⟩ : zq) v3612 s31_18)))] [(97, 2, (.nor, zxe p0 s1_8 s21_11 s21_19 v3105 s31_10 s31_18 v3605)), (81, 6, (.nor, zve p0 s1_8 s21_11 s21_19 v3105 s31_10 s31_18 v3606 v3608))] g7 (ob (o_b h3601) (ob (o_len zh v3105.2.2.2.1.1) (ob (block_ok (id := 2) (r' := (.nor, zxe p0 s1_8 s21_11 s21_19 v3105 s31_10 s31_18 v3605)) (zvc (zre k p0 s1_8 s21_11 s21_19 v3105 s31_10 s31_18) k _ _ h3603) rfl) (ob (zdh k p0 s1_8 (andNot64 s31_10 s21_11) _ h3607) (ob (o_len zH v3606.1) (ob (block_ok (id := 6) (r' := (.nor, zve p0 s1_8 s21_11 s21_19 v3105 s31_10 s31_18 v3606 v3608)) (zR (zoj k p0 s1_8 s21_11 s21_19 v3105 s31_10 s31_18 v3606) k _ _ h3609) rfl) (ob (o_look (ek := (fun k => D.agg (zB k))) (evl := (fun v => D.agg ((aB 61) v))) (q := zA) (fun _ _ => rfl) (⟨s1_8, s31_10⟩ : zq) s31_18 (fun _ => false)) (ob (zPg k p0 v3608.2 s1_8 _ h3611) (ob (zSk k ((mfind zA (⟨s1_8, s31_10⟩ : zq) s31_18).getD (fun _ => false)) v3610 _ h3613) (ob (set_em (ek := (fun k => D.agg (zB k))) (evl := (fun v => D.agg ((aB 61) v))) (q := zA) (fun _ _ => rfl) (⟨s1_8, s31_10⟩ : zq) v3612 s31_18) ob0)))))))))) (by kernel_rfl)
 ·exact zqo [(97, 1, 0, .q (xb false))] [] g1 (ob (o_b h3601) ob0) (by kernel_rfl)
noncomputable def zip (p0 : zd) (s1_8 s21_11 : Int) : TM := [(0, (.d (.agg (zm p0)))), (zsp 1), (2, (.d .nilm)), (zsp 3), (18, (xi p0.ShelfBook.Days)), (19, (xi s1_8)), (20, (xb true)), (zsp 4), (26, (xi (shl64 1 (p0.ShelfBook.Deliveries.1.length : Int)))), (27, (xi s21_11))]
noncomputable def zRj (p0 : zd) (s1_8 s21_11 : Int) (s21_19 : zt2) : St := ⟨(zip p0 s1_8 s21_11), ⟨[(zc 1 (zm p0)), (11, (.map (em (fun k => D.agg (zB k)) (fun v => D.agg ((aB 61) v)) s21_19))), (3, (.cells [(.map 0 11)])), (4, (.cells [(xi s1_8)]))], []⟩, []⟩
noncomputable def zFo (p0 : zd) (s1_8 : Int) (r : zt6) : TM := [(0, (.d (.agg (zm p0)))), (zsp 1), (2, (.d .nilm)), (zsp 3), (18, (xi p0.ShelfBook.Days)), (19, (xi s1_8)), (20, (xb true)), (zsp 4), (26, (xi (shl64 1 (p0.ShelfBook.Deliveries.1.length : Int)))), (27, (xi r.1)), (28, (xb false))]
noncomputable def zte (p0 : zd) (s1_8 : Int) (r : zt6) : St := ⟨(zFo p0 s1_8 r), ⟨[(zc 1 (zm p0)), (11, (.map (em (fun k => D.agg (zB k)) (fun v => D.agg ((aB 61) v)) r.2))), (3, (.cells [(.map 0 11)])), (4, (.cells [(xi s1_8)]))], []⟩, []⟩
noncomputable def zbk (p0 : zd) (s1_8 : Int) : (Int × (List (zq × (Nat → Bool)))) → Ex × St := fun r => ((.exit 2), zte p0 s1_8 r)
theorem zvj (k : Nat) (p0 : zd) (s1_8 s21_11 : Int) (s21_19 : zt2) (x : (Int × (List (zq × (Nat → Bool)))) ⊕ (Int × (List (zq × (Nat → Bool))))) (h : z8b k p0 s1_8 s21_11 s21_19 = some x) : LoopOK TE 81 (blk TE 81 2) (fun s : (Int × (List (zq × (Nat → Bool)))) => zRj p0 s1_8 s.1 s.2) (zbk p0 s1_8) (s21_11, s21_19) x := by
 unfold z8b at h
 refine cond_ok h (fun h3101 g1 => ?_) (fun h3101 g1 => ?_)
 ·refine bind_ok g1 (fun v3102 h3103 g2 => ?_)
  refine cond_ok g2 (fun h3104 g3 => ?_) (fun h3104 g3 => ?_)
  ·exact zqn ((w64 (s21_11 + 1)), s21_19) [] [(81, 6, 0, .q (xb true)), (81, 8, 5, .q (.d (.agg (aB 61 ((mfind zA (⟨(w64 (s1_8 - 1)), s21_11⟩ : zq) s21_19).getD (fun _ => false)))))), (81, 9, 1, .c (.agg (aB 61 v3102))), (81, 9, 2, .q (xb true))] [] g3 (ob (o_b h3101) (ob (o_look (ek := (fun k => D.agg (zB k))) (evl := (fun v => D.agg ((aB 61) v))) (q := zA) (fun _ _ => rfl) (⟨(w64 (s1_8 - 1)), s21_11⟩ : zq) s21_19 (fun _ => false)) (ob (zff k _ h3103) (ob (o_b h3104) ob0)))) (by kernel_rfl)
  ·refine bind_ok g3 (fun v3105 h3106 g4 => ?_)
   refine cond_ok g4 (fun h3107 g5 => ?_) (fun h3107 g5 => ?_)
   ·cases g5
   ·refine bind_ok g5 (fun v3108 h3109 g6 => ?_)
    exact zqn ((w64 (s21_11 + 1)), v3108.2) [] [(81, 6, 0, .q (xb true)), (81, 8, 5, .q (.d (.agg (aB 61 ((mfind zA (⟨(w64 (s1_8 - 1)), s21_11⟩ : zq) s21_19).getD (fun _ => false)))))), (81, 9, 1, .c (.agg (aB 61 v3102))), (81, 9, 2, .q (xb false)), (81, 10, 3, .c (.fn 97 [] [(.pin [(di v3105.1), (dl zk v3105.2.1.1 v3105.2.1.2), (dl zl v3105.2.2.1.1 v3105.2.2.1.2), (dl zh v3105.2.2.2.1.1 v3105.2.2.2.1.2), (dl zj v3105.2.2.2.2.1.1 v3105.2.2.2.2.1.2), (di v3105.2.2.2.2.2.1), (di v3105.2.2.2.2.2.2.1)]), (.pin [(di v3105.2.2.2.2.2.2.2.1)]), (.pin [(di v3105.2.2.2.2.2.2.2.2)])])), (97, 0, 3, .q (xi (v3105.2.2.2.1.1.length : Int))), (97, 0, 4, .q (xi (shl64 1 (v3105.2.2.2.1.1.length : Int))))] [(97, 0, (.nor, zoe p0 s1_8 s21_11 s21_19 v3105 v3108))] g6 (ob (o_b h3101) (ob (o_look (ek := (fun k => D.agg (zB k))) (evl := (fun v => D.agg ((aB 61) v))) (q := zA) (fun _ _ => rfl) (⟨(w64 (s1_8 - 1)), s21_11⟩ : zq) s21_19 (fun _ => false)) (ob (zff k _ h3103) (ob (o_b h3104) (ob (zSh k p0 s1_8 s21_11 _ h3106) (ob (o_len zh v3105.2.2.2.1.1) (ob (o_shl (x := 1) h3107) (ob (block_ok (id := 0) (r' := (.nor, zoe p0 s1_8 s21_11 s21_19 v3105 v3108)) (zR (zmj k p0 s1_8 s21_11 s21_19 v3105) k _ _ h3109) rfl) ob0)))))))) (by kernel_rfl)
 ·exact zqo [(81, 6, 0, .q (xb false))] [] g1 (ob (o_b h3101) ob0) (by kernel_rfl)
noncomputable def z9o (p0 : zd) (s1_8 : Int) : TM := [(0, (.d (.agg (zm p0)))), (zsp 1), (2, (.d .nilm)), (zsp 3), (18, (xi p0.ShelfBook.Days)), (19, (xi s1_8))]
noncomputable def zvk (p0 : zd) (s1_8 : Int) (s1_16 : zt2) : St := ⟨(z9o p0 s1_8), ⟨[(zc 1 (zm p0)), (11, (.map (em (fun k => D.agg (zB k)) (fun v => D.agg ((aB 61) v)) s1_16))), (3, (.cells [(.map 0 11)]))], []⟩, []⟩
noncomputable def zWo (p0 : zd) (r : zt6) : TM := [(0, (.d (.agg (zm p0)))), (zsp 1), (2, (.d .nilm)), (zsp 3), (18, (xi p0.ShelfBook.Days)), (19, (xi r.1)), (20, (xb false))]
noncomputable def zJe (p0 : zd) (r : zt6) : St := ⟨(zWo p0 r), ⟨[(zc 1 (zm p0)), (11, (.map (em (fun k => D.agg (zB k)) (fun v => D.agg ((aB 61) v)) r.2))), (3, (.cells [(.map 0 11)]))], []⟩, []⟩
noncomputable def zkk (p0 : zd) : (Int × (List (zq × (Nat → Bool)))) → Ex × St := fun r => ((.exit 0), zJe p0 r)
theorem zck (k : Nat) (p0 : zd) (s1_8 : Int) (s1_16 : zt2) (x : (Int × (List (zq × (Nat → Bool)))) ⊕ (Int × (List (zq × (Nat → Bool))))) (h : zcd k p0 s1_8 s1_16 = some x) : LoopOK TE 81 (blk TE 81 0) (fun s : (Int × (List (zq × (Nat → Bool)))) => zvk p0 s.1 s.2) (zkk p0) (s1_8, s1_16) x := by
 unfold zcd at h
 refine cond_ok h (fun h2101 g1 => ?_) (fun h2101 g1 => ?_)
 ·refine cond_ok g1 (fun h2102 g2 => ?_) (fun h2102 g2 => ?_)
  ·cases g2
  ·refine bind_ok g2 (fun v2103 h2104 g3 => ?_)
   exact zqn ((w64 (s1_8 + 1)), v2103.2) [] [(81, 3, 0, .q (xb true)), (81, 5, 3, .q (xi (p0.ShelfBook.Deliveries.1.length : Int))), (81, 5, 4, .q (xi (shl64 1 (p0.ShelfBook.Deliveries.1.length : Int))))] [(81, 2, (.nor, zte p0 s1_8 v2103))] g3 (ob (o_b h2101) (ob (o_len zh p0.ShelfBook.Deliveries.1) (ob (o_shl (x := 1) h2102) (ob (block_ok (id := 2) (r' := (.nor, zte p0 s1_8 v2103)) (zR (zvj k p0 s1_8) k _ _ h2104) rfl) ob0)))) (by kernel_rfl)
 ·exact zqo [(81, 3, 0, .q (xb false))] [] g1 (ob (o_b h2101) ob0) (by kernel_rfl)
theorem zAf (k : Nat) (p0 : zd) (r : zt2) (h : zid k p0 = some r) : callP TE (ev TE) 81 [(.agg (zm p0))] = some (zHh r) := by
 unfold zid at h
 refine bind_ok h (fun v1 h2 g1 => ?_)
 refine bind_ok g1 (fun v3 h4 g2 => ?_)
 exact fin_ok (g := zHh) g2 (zqc [(81, 1, 3, .c (.agg (aB 61 v1)))] [(81, 0, (.nor, zJe p0 v3))] (ob (zTk k p0 _ h2) (ob (block_ok (id := 0) (r' := (.nor, zJe p0 v3)) (zR (zck k p0) k _ _ h4) rfl) ob0)) (by kernel_rfl))
noncomputable def zeo (p0 : zd) (v1 : zt2) (s1_10 : Int) : TM := [(0, (.d (.agg (zm p0)))), (zsp 1), (2, (xb false)), (3, (.d (.mp (em (fun k => D.agg (zB k)) (fun v => D.agg ((aB 61) v)) v1)))), (11, (xi (shl64 1 (p0.ShelfBook.Deliveries.1.length : Int)))), (12, (xi s1_10))]
noncomputable def zVk (p0 : zd) (v1 : zt2) (s1_10 : Int) : St := ⟨(zeo p0 v1 s1_10), ⟨[(zc 1 (zm p0))], []⟩, []⟩
noncomputable def zio (p0 : zd) (v1 : zt2) (r : Int) : TM := [(0, (.d (.agg (zm p0)))), (zsp 1), (2, (xb true)), (3, (.d (.mp (em (fun k => D.agg (zB k)) (fun v => D.agg ((aB 61) v)) v1)))), (11, (xi (shl64 1 (p0.ShelfBook.Deliveries.1.length : Int)))), (12, (xi r)), (13, (xb true)), (4, (xi r)), (24, (xb true))]
noncomputable def zhf (p0 : zd) (v1 : zt2) (r : Int) : St := ⟨(zio p0 v1 r), ⟨[(zc 1 (zm p0))], []⟩, []⟩
noncomputable def zep (p0 : zd) (v1 : zt2) (r : Int) : TM := [(0, (.d (.agg (zm p0)))), (zsp 1), (2, (xb false)), (3, (.d (.mp (em (fun k => D.agg (zB k)) (fun v => D.agg ((aB 61) v)) v1)))), (11, (xi (shl64 1 (p0.ShelfBook.Deliveries.1.length : Int)))), (12, (xi r)), (13, (xb false))]
noncomputable def zif (p0 : zd) (v1 : zt2) (r : Int) : St := ⟨(zep p0 v1 r), ⟨[(zc 1 (zm p0))], []⟩, []⟩
noncomputable def zWk (p0 : zd) (v1 : zt2) : (Int ⊕ Int) → Ex × St := Sum.elim (fun r => (.ret, zhf p0 v1 r)) (fun r => ((.exit 0), zif p0 v1 r))
theorem z1g (k : Nat) (p0 : zd) (v1 : zt2) (s1_10 : Int) (x : Int ⊕ (Int ⊕ Int)) (h : zMd k p0 v1 s1_10 = some x) : LoopOK TE 67 (blk TE 67 0) (fun s : Int => zVk p0 v1 s) (zWk p0 v1) s1_10 x := by
 unfold zMd at h
 refine cond_ok h (fun h201 g1 => ?_) (fun h201 g1 => ?_)
 ·refine bind_ok g1 (fun v202 h203 g2 => ?_)
  refine cond_ok g2 (fun h204 g3 => ?_) (fun h204 g3 => ?_)
  ·exact zqo [(67, 3, 0, .q (xb true)), (67, 5, 7, .q (.d (.agg (aB 61 ((mfind zA (⟨(w64 (p0.ShelfBook.Days - 1)), s1_10⟩ : zq) v1).getD (fun _ => false)))))), (67, 5, 8, .c (.agg (aB 61 v202))), (67, 5, 9, .q (xb true))] [] g3 (ob (o_b h201) (ob (o_look (ek := (fun k => D.agg (zB k))) (evl := (fun v => D.agg ((aB 61) v))) (q := zA) (fun _ _ => rfl) (⟨(w64 (p0.ShelfBook.Days - 1)), s1_10⟩ : zq) v1 (fun _ => false)) (ob (zff k _ h203) (ob (o_b h204) ob0)))) (by kernel_rfl)
  ·exact zqn (w64 (s1_10 + 1)) [] [(67, 3, 0, .q (xb true)), (67, 5, 7, .q (.d (.agg (aB 61 ((mfind zA (⟨(w64 (p0.ShelfBook.Days - 1)), s1_10⟩ : zq) v1).getD (fun _ => false)))))), (67, 5, 8, .c (.agg (aB 61 v202))), (67, 5, 9, .q (xb false))] [] g3 (ob (o_b h201) (ob (o_look (ek := (fun k => D.agg (zB k))) (evl := (fun v => D.agg ((aB 61) v))) (q := zA) (fun _ _ => rfl) (⟨(w64 (p0.ShelfBook.Days - 1)), s1_10⟩ : zq) v1 (fun _ => false)) (ob (zff k _ h203) (ob (o_b h204) ob0)))) (by kernel_rfl)
 ·exact zqo [(67, 3, 0, .q (xb false))] [] g1 (ob (o_b h201) ob0) (by kernel_rfl)
theorem zRd (k : Nat) (p0 : zd) (r : Bool) (h : zkd k p0 = some r) : callP TE (ev TE) 67 [(.agg (zm p0))] = some (zMg r) := by
 unfold zkd at h
 refine bind_ok h (fun v1 h2 g1 => ?_)
 refine cond_ok g1 (fun h3 g2 => ?_) (fun h3 g2 => ?_)
 ·cases g2
 ·refine bind_ok g2 (fun v4 h5 g3 => ?_)
  refine sum_ok g3 (fun v7 hh g4_0 => ?_) (fun v7 hh g4_0 => ?_)
  ·subst hh
   exact fin_ok (g := zMg) g4_0 (zqc [(67, 1, 1, .c (.mp (em (fun k => D.agg (zB k)) (fun v => D.agg ((aB 61) v)) v1))), (67, 2, 3, .q (xi (p0.ShelfBook.Deliveries.1.length : Int))), (67, 2, 4, .q (xi (shl64 1 (p0.ShelfBook.Deliveries.1.length : Int))))] [(67, 0, (.ret, zhf p0 v1 v7))] (ob (zAf k p0 _ h2) (ob (o_len zh p0.ShelfBook.Deliveries.1) (ob (o_shl (x := 1) h3) (ob (block_ok (id := 0) (r' := (.ret, zhf p0 v1 v7)) (zvc (z1g k p0 v1) k _ _ h5) rfl) ob0)))) (by kernel_rfl))
  ·subst hh
   exact fin_ok (g := zMg) g4_0 (zqc [(67, 1, 1, .c (.mp (em (fun k => D.agg (zB k)) (fun v => D.agg ((aB 61) v)) v1))), (67, 2, 3, .q (xi (p0.ShelfBook.Deliveries.1.length : Int))), (67, 2, 4, .q (xi (shl64 1 (p0.ShelfBook.Deliveries.1.length : Int))))] [(67, 0, (.nor, zif p0 v1 v7))] (ob (zAf k p0 _ h2) (ob (o_len zh p0.ShelfBook.Deliveries.1) (ob (o_shl (x := 1) h3) (ob (block_ok (id := 0) (r' := (.nor, zif p0 v1 v7)) (zvc (z1g k p0 v1) k _ _ h5) rfl) ob0)))) (by kernel_rfl))
noncomputable def zso (p0 : za) (p1 s1_8 : Int) : TM := [(0, (.d (.agg (zb p0)))), (1, (xi p1)), (zsp 2), (4, (xb false)), (9, (xi (p0.Shelves.1.length : Int))), (10, (xi s1_8))]
noncomputable def ztl (p0 : za) (p1 s1_8 : Int) : St := ⟨(zso p0 p1 s1_8), ⟨[(zc 2 (zb p0))], []⟩, []⟩
noncomputable def z6n (p0 : za) (p1 r : Int) : TM := [(0, (.d (.agg (zb p0)))), (1, (xi p1)), (zsp 2), (4, (xb false)), (9, (xi (p0.Shelves.1.length : Int))), (10, (xi r)), (11, (xb true)), (5, (xi r)), (6, (.d (.fn 67 [(.agg ((zb p0) ++ [(di r), (di p1)]))] []))), (20, (xb true))]
noncomputable def z3f (p0 : za) (p1 r : Int) : St := ⟨(z6n p0 p1 r), ⟨[(zc 2 (zb p0))], []⟩, []⟩
noncomputable def zhp (p0 : za) (p1 r : Int) : TM := [(0, (.d (.agg (zb p0)))), (1, (xi p1)), (zsp 2), (4, (xb false)), (9, (xi (p0.Shelves.1.length : Int))), (10, (xi r)), (11, (xb false))]
noncomputable def zRf (p0 : za) (p1 r : Int) : St := ⟨(zhp p0 p1 r), ⟨[(zc 2 (zb p0))], []⟩, []⟩
noncomputable def zrl (p0 : za) (p1 : Int) : (Int ⊕ Int) → Ex × St := Sum.elim (fun r => (.ret, z3f p0 p1 r)) (fun r => ((.exit 0), zRf p0 p1 r))
theorem zOh (k : Nat) (p0 : za) (p1 s1_8 : Int) (x : Int ⊕ (Int ⊕ Int)) (h : zDe k p0 p1 s1_8 = some x) : LoopOK TE 76 (blk TE 76 0) (fun s : Int => ztl p0 p1 s) (zrl p0 p1) s1_8 x := by
 unfold zDe at h
 refine cond_ok h (fun h201 g1 => ?_) (fun h201 g1 => ?_)
 ·refine bind_ok g1 (fun v202 h203 g2 => ?_)
  refine cond_ok g2 (fun h204 g3 => ?_) (fun h204 g3 => ?_)
  ·exact zqo [(76, 2, 0, .q (xb true)), (76, 5, 1, .c (db v202)), (76, 5, 2, .q (xb true))] [] g3 (ob (o_b h201) (ob (zRd k (⟨p0, s1_8, p1⟩ : zd) _ h203) (ob (o_b h204) ob0))) (by kernel_rfl)
  ·exact zqn (w64 (s1_8 + 1)) [] [(76, 2, 0, .q (xb true)), (76, 5, 1, .c (db v202)), (76, 5, 2, .q (xb false))] [] g3 (ob (o_b h201) (ob (zRd k (⟨p0, s1_8, p1⟩ : zd) _ h203) (ob (o_b h204) ob0))) (by kernel_rfl)
 ·exact zqo [(76, 2, 0, .q (xb false))] [] g1 (ob (o_b h201) ob0) (by kernel_rfl)
theorem zkb (k : Nat) (p0 : za) (p1 : Int) (r : Bool) (h : zcb k p0 p1 = some r) : callP TE (ev TE) 76 [(.agg (zb p0)), (di p1)] = some (zhh r) := by
 unfold zcb at h
 refine bind_ok h (fun v1 h2 g1 => ?_)
 refine sum_ok g1 (fun v4 hh g2_0 => ?_) (fun v4 hh g2_0 => ?_)
 ·subst hh
  exact fin_ok (g := zhh) g2_0 (zqc [(76, 1, 2, .q (xi (p0.Shelves.1.length : Int)))] [(76, 0, (.ret, z3f p0 p1 v4))] (ob (o_len zk p0.Shelves.1) (ob (block_ok (id := 0) (r' := (.ret, z3f p0 p1 v4)) (zvc (zOh k p0 p1) k _ _ h2) rfl) ob0)) (by kernel_rfl))
 ·subst hh
  exact fin_ok (g := zhh) g2_0 (zqc [(76, 1, 2, .q (xi (p0.Shelves.1.length : Int)))] [(76, 0, (.nor, zRf p0 p1 v4))] (ob (o_len zk p0.Shelves.1) (ob (block_ok (id := 0) (r' := (.nor, zRf p0 p1 v4)) (zvc (zOh k p0 p1) k _ _ h2) rfl) ob0)) (by kernel_rfl))
theorem zab (k : Nat) (p0 : za) (p1 : Bool) (r : Int) (h : zpc k p0 p1 = some r) : callP TE (ev TE) 51 [(.agg (zb p0)), (db p1)] = some (znf r) := by
 unfold zpc at h
 refine bind_ok h (fun v1 h2 g1 => ?_)
 refine cond_ok g1 (fun h3 g2 => ?_) (fun h3 g2 => ?_)
 ·exact fin_ok (g := znf) g2 (zqc [(51, 1, 1, .c (di v1)), (51, 2, 1, .q (xb true))] [] (ob (zhd k p0 _ h2) (ob (o_b h3) ob0)) (by kernel_rfl))
 ·refine cond_ok g2 (fun h4 g3 => ?_) (fun h4 g3 => ?_)
  ·exact fin_ok (g := znf) g3 (zqc [(51, 1, 1, .c (di v1)), (51, 2, 1, .q (xb false)), (51, 4, 1, .q (xb true))] [] (ob (zhd k p0 _ h2) (ob (o_b h3) (ob (o_b h4) ob0))) (by kernel_rfl))
  ·refine bind_ok g3 (fun v5 h6 g4 => ?_)
   refine cond_ok g4 (fun h7 g5 => ?_) (fun h7 g5 => ?_)
   ·exact fin_ok (g := znf) g5 (zqc [(51, 1, 1, .c (di v1)), (51, 2, 1, .q (xb false)), (51, 4, 1, .q (xb false)), (51, 6, 1, .c (db v5)), (51, 6, 2, .q (xb true))] [] (ob (zhd k p0 _ h2) (ob (o_b h3) (ob (o_b h4) (ob (zkb k p0 0 _ h6) (ob (o_b h7) ob0))))) (by kernel_rfl))
   ·exact fin_ok (g := znf) g5 (zqc [(51, 1, 1, .c (di v1)), (51, 2, 1, .q (xb false)), (51, 4, 1, .q (xb false)), (51, 6, 1, .c (db v5)), (51, 6, 2, .q (xb false))] [] (ob (zhd k p0 _ h2) (ob (o_b h3) (ob (o_b h4) (ob (zkb k p0 0 _ h6) (ob (o_b h7) ob0))))) (by kernel_rfl))
noncomputable def zuo (p0 : za) (p1 v3 : Int) (s1_16 : (List Int)) (s1_10 : Int) : TM := [(0, (.d (.agg (zb p0)))), (1, (xi p1)), (zsp 2), (4, (.d (.sl [] .nil))), (5, (xi 0)), (6, (xi v3)), (20, (xb false)), (7, (.row 0 7 s1_16.length)), (zsp 8), (9, (xi s1_10))]
noncomputable def z4l (p0 : za) (p1 v3 : Int) (v6 : zn) (s1_10 : Int) (s1_16 : (List Int)) : St := ⟨(zuo p0 p1 v3 s1_16 s1_10), ⟨[(zc 2 (zb p0)), (7, (rowO true 1 eI s1_16 true)), (zc 8 (zh v6))], []⟩, []⟩
noncomputable def zTo (p0 : za) (p1 v3 : Int) (r : (Int × (List Int))) : TM := [(0, (.d (.agg (zb p0)))), (1, (xi p1)), (zsp 2), (4, (.d (.sl [] .nil))), (5, (xi 0)), (6, (xi v3)), (20, (xb false)), (7, (.row 0 7 r.2.length)), (zsp 8), (9, (xi r.1)), (34, (xb false))]
noncomputable def z8g (p0 : za) (p1 v3 : Int) (v6 : zn) (r : (Int × (List Int))) : St := ⟨(zTo p0 p1 v3 r), ⟨[(zc 2 (zb p0)), (7, (rowO true 1 eI r.2 true)), (zc 8 (zh v6))], []⟩, []⟩
noncomputable def z5l (p0 : za) (p1 v3 : Int) (v6 : zn) : (Int × (List Int)) → Ex × St := fun r => ((.exit 0), z8g p0 p1 v3 v6 r)
theorem zWl (k : Nat) (p0 : za) (p1 v3 : Int) (v6 : zn) (s1_10 : Int) (s1_16 : (List Int)) (x : (Int × (List Int)) ⊕ (Int × (List Int))) (h : zXf k p0 p1 v3 v6 s1_10 s1_16 = some x) : LoopOK TE 25 (blk TE 25 0) (fun s : (Int × (List Int)) => z4l p0 p1 v3 v6 s.1 s.2) (z5l p0 p1 v3 v6) (s1_10, s1_16) x := by
 unfold zXf at h
 refine cond_ok h (fun h301 g1 => ?_) (fun h301 g1 => ?_)
 ·refine cond_ok g1 (fun h302 g2 => ?_) (fun h302 g2 => ?_)
  ·cases g2
  ·refine guard_ok g2 (fun h303 g3 => ?_)
   refine bind_ok g3 (fun v304 h305 g4 => ?_)
   refine bind_ok g4 (fun v306 h307 g5 => ?_)
   refine cond_ok g5 (fun h308 g6 => ?_) (fun h308 g6 => ?_)
   ·subst h308
    refine guard_ok g6 (fun h309 g7 => ?_)
    exact zqn ((w64 (s1_10 + 1)), (s1_16 ++ [s1_10])) [7] [(25, 7, 4, .q (xb true)), (66, 1, 1, .q (xb false)), (66, 3, 2, .ns (p0.Deliveries.1.map zh) p0.Deliveries.1.length), (25, 11, 6, .q (.rp 0 40 p0.Deliveries.1.length p1.toNat 0)), (25, 11, 7, .q (.rp 0 40 p0.Deliveries.1.length p1.toNat 1)), (25, 11, 8, .rs (rowO false 5 zh (p0.Deliveries.1.set p1.toNat (⟨v304.Shelf, (⟨s1_10, s1_10⟩ : zi), v304.By⟩ : zn)) true)), (25, 11, 999, .nm [] [(10, 3, (p0.Deliveries.1.set p1.toNat (⟨v304.Shelf, (⟨s1_10, s1_10⟩ : zi), v304.By⟩ : zn)).length)]), (25, 12, 4, .cr [((dl zh (p0.Deliveries.1.set p1.toNat (⟨v304.Shelf, (⟨s1_10, s1_10⟩ : zi), v304.By⟩ : zn)) (rcap false (p0.Deliveries.1.set p1.toNat (⟨v304.Shelf, (⟨s1_10, s1_10⟩ : zi), v304.By⟩ : zn)))), (rowO false 5 zh (p0.Deliveries.1.set p1.toNat (⟨v304.Shelf, (⟨s1_10, s1_10⟩ : zi), v304.By⟩ : zn)) false))] (db true)), (25, 13, 3, .ap (s1_16 ++ [s1_10]).length (rowO true 1 eI (s1_16 ++ [s1_10]) true))] [] g7 (ob (o_b h301) (ob (o_b h302) (ob (o_nsl p0.Deliveries.1 zh) (ob (o_ns (P := TE.P) (φ := fun _ _ => none) (T := 24) (q := (5, [(di 0), (di 0), (di 0), (di 0), (di 0)])) (c := p0.Deliveries.2) (e := zh) p0.Deliveries.1 (by kernel_rfl) (fun _ => rfl) h303) (ob (rfl : (([] : List (List D)).isEmpty || !(p0.Deliveries.1.map zh).isEmpty) = true) (ob (o_nsl p0.Deliveries.1 zh) (ob (zqa 24 40 0 40 p1 false 5 zh p0.Deliveries.1 true (by kernel_rfl) (by kernel_rfl) h305) (ob (zqf 75 (1, 2, true) 0 40 0 1 p1 false 5 zh p0.Deliveries.1 true (by kernel_rfl) (by decide) h305) (ob (o_rs (b := false) (z := 5) (e := zh) (l := p0.Deliveries.1) (o := 1) (n := 2) (ds := [(di s1_10), (di s1_10)]) (i := p1) (y' := (⟨v304.Shelf, (⟨s1_10, s1_10⟩ : zi), v304.By⟩ : zn)) h305 (Nat.le_of_ble_eq_true rfl) rfl) (ob (show p0.Deliveries.1.length = (p0.Deliveries.1.set p1.toNat (⟨v304.Shelf, (⟨s1_10, s1_10⟩ : zi), v304.By⟩ : zn)).length by simp) (ob (o_cr false 5 zh (p0.Deliveries.1.set p1.toNat (⟨v304.Shelf, (⟨s1_10, s1_10⟩ : zi), v304.By⟩ : zn)) true 0 40) (ob (zRd k (⟨(⟨p0.Days, p0.Shelves, p0.Moves, ((p0.Deliveries.1.set p1.toNat (⟨v304.Shelf, (⟨s1_10, s1_10⟩ : zi), v304.By⟩ : zn)), (rcap false (p0.Deliveries.1.set p1.toNat (⟨v304.Shelf, (⟨s1_10, s1_10⟩ : zi), v304.By⟩ : zn)))), p0.Counts⟩ : za), v6.Shelf, 0⟩ : zd) _ h307) (ob (o_ap (b := true) (z := 1) (e := eI) (l := s1_16) (w := true) s1_10 (fun _ => rfl) h309) (ob (o_ref true 1 eI (s1_16 ++ [s1_10]) true) ob0)))))))))))))) (by kernel_rfl)
   ·subst h308
    exact zqn ((w64 (s1_10 + 1)), s1_16) [7] [(25, 7, 4, .q (xb true)), (66, 1, 1, .q (xb false)), (66, 3, 2, .ns (p0.Deliveries.1.map zh) p0.Deliveries.1.length), (25, 11, 6, .q (.rp 0 40 p0.Deliveries.1.length p1.toNat 0)), (25, 11, 7, .q (.rp 0 40 p0.Deliveries.1.length p1.toNat 1)), (25, 11, 8, .rs (rowO false 5 zh (p0.Deliveries.1.set p1.toNat (⟨v304.Shelf, (⟨s1_10, s1_10⟩ : zi), v304.By⟩ : zn)) true)), (25, 11, 999, .nm [] [(10, 3, (p0.Deliveries.1.set p1.toNat (⟨v304.Shelf, (⟨s1_10, s1_10⟩ : zi), v304.By⟩ : zn)).length)]), (25, 12, 4, .cr [((dl zh (p0.Deliveries.1.set p1.toNat (⟨v304.Shelf, (⟨s1_10, s1_10⟩ : zi), v304.By⟩ : zn)) (rcap false (p0.Deliveries.1.set p1.toNat (⟨v304.Shelf, (⟨s1_10, s1_10⟩ : zi), v304.By⟩ : zn)))), (rowO false 5 zh (p0.Deliveries.1.set p1.toNat (⟨v304.Shelf, (⟨s1_10, s1_10⟩ : zi), v304.By⟩ : zn)) false))] (db false))] [] g6 (ob (o_b h301) (ob (o_b h302) (ob (o_nsl p0.Deliveries.1 zh) (ob (o_ns (P := TE.P) (φ := fun _ _ => none) (T := 24) (q := (5, [(di 0), (di 0), (di 0), (di 0), (di 0)])) (c := p0.Deliveries.2) (e := zh) p0.Deliveries.1 (by kernel_rfl) (fun _ => rfl) h303) (ob (rfl : (([] : List (List D)).isEmpty || !(p0.Deliveries.1.map zh).isEmpty) = true) (ob (o_nsl p0.Deliveries.1 zh) (ob (zqa 24 40 0 40 p1 false 5 zh p0.Deliveries.1 true (by kernel_rfl) (by kernel_rfl) h305) (ob (zqf 75 (1, 2, true) 0 40 0 1 p1 false 5 zh p0.Deliveries.1 true (by kernel_rfl) (by decide) h305) (ob (o_rs (b := false) (z := 5) (e := zh) (l := p0.Deliveries.1) (o := 1) (n := 2) (ds := [(di s1_10), (di s1_10)]) (i := p1) (y' := (⟨v304.Shelf, (⟨s1_10, s1_10⟩ : zi), v304.By⟩ : zn)) h305 (Nat.le_of_ble_eq_true rfl) rfl) (ob (show p0.Deliveries.1.length = (p0.Deliveries.1.set p1.toNat (⟨v304.Shelf, (⟨s1_10, s1_10⟩ : zi), v304.By⟩ : zn)).length by simp) (ob (o_cr false 5 zh (p0.Deliveries.1.set p1.toNat (⟨v304.Shelf, (⟨s1_10, s1_10⟩ : zi), v304.By⟩ : zn)) true 0 40) (ob (zRd k (⟨(⟨p0.Days, p0.Shelves, p0.Moves, ((p0.Deliveries.1.set p1.toNat (⟨v304.Shelf, (⟨s1_10, s1_10⟩ : zi), v304.By⟩ : zn)), (rcap false (p0.Deliveries.1.set p1.toNat (⟨v304.Shelf, (⟨s1_10, s1_10⟩ : zi), v304.By⟩ : zn)))), p0.Counts⟩ : za), v6.Shelf, 0⟩ : zd) _ h307) (ob (o_ref true 1 eI s1_16 true) ob0))))))))))))) (by kernel_rfl)
 ·exact zqo [(25, 7, 4, .q (xb false))] [] g1 (ob (o_b h301) ob0) (by kernel_rfl)
theorem zib (k : Nat) (p0 : za) (p1 : Int) (r : zt8) (h : zOg k p0 p1 = some r) : callP TE (ev TE) 25 [(.agg (zb p0)), (di p1)] = some (zak r) := by
 unfold zOg at h
 refine bind_ok h (fun v1 h2 g1 => ?_)
 refine bind_ok g1 (fun v3 h4 g2 => ?_)
 refine cond_ok g2 (fun h5 g3 => ?_) (fun h5 g3 => ?_)
 ·exact fin_ok (g := zak) g3 (zqc [(25, 1, 4, .q (xi (p0.Deliveries.1.length : Int))), (25, 1, 6, .c (db v1)), (25, 1, 7, .c (di v3)), (25, 2, 1, .q (xb true))] [] (ob (o_len zh p0.Deliveries.1) (ob (zC k p1 0 (w64 ((p0.Deliveries.1.length : Int) - 1)) _ h2) (ob (zab k p0 v1 _ h4) (ob (o_b h5) ob0)))) (by kernel_rfl))
 ·refine bind_ok g3 (fun v6 h7 g4 => ?_)
  refine bind_ok g4 (fun v8 h9 g5 => ?_)
  exact fin_ok (g := zak) g5 (zqc [(25, 1, 4, .q (xi (p0.Deliveries.1.length : Int))), (25, 1, 6, .c (db v1)), (25, 1, 7, .c (di v3)), (25, 2, 1, .q (xb false)), (25, 5, 3, .q (.d (.pin (zh v6)))), (25, 14, 2, .q (xi (v8.2.length : Int))), (25, 14, 4, .q (xi (v8.2.length : Int))), (25, 14, 5, .sr (.d (dl eI v8.2 (xcap true v8.2))) (rowO true 1 eI v8.2 false))] [(25, 0, (.nor, z8g p0 p1 v3 v6 v8))] (ob (o_len zh p0.Deliveries.1) (ob (zC k p1 0 (w64 ((p0.Deliveries.1.length : Int) - 1)) _ h2) (ob (zab k p0 v1 _ h4) (ob (o_b h5) (ob (o_ia (e := zh) 5 h7 rfl) (ob (block_ok (id := 0) (r' := (.nor, z8g p0 p1 v3 v6 v8)) (zR (zWl k p0 p1 v3 v6) k _ _ h9) rfl) (ob (o_rlen true 1 eI v8.2 true) (ob (o_rlen true 1 eI v8.2 true) (ob (o_sr (P := TE.P) (T := 42) (U := 3) (by' := 8) (ρ := fun _ => xi (v8.2.length : Int)) (lv := 0) (s := 7) (lo := none) (hi := some (.tmp 0)) (mx := some (.tmp 0)) true 1 eI v8.2 true (by kernel_rfl) (by kernel_rfl) rfl rfl rfl) ob0))))))))) (by kernel_rfl))
theorem zE (k : Nat) (p0 p1 p2 : Int) (r : Bool) (h : zP k p0 p1 p2 = some r) : callP TE (ev TE) 62 [(di p0), (di p1), (di p2)] = some (z9e r) := by
 unfold zP at h
 refine cond_ok h (fun h1 g1 => ?_) (fun h1 g1 => ?_)
 ·exact fin_ok (g := z9e) g1 (zqc [(62, 1, 3, .q (xb true))] [] (ob (o_b h1) ob0) (by kernel_rfl))
 ·exact fin_ok (g := z9e) g1 (zqc [(62, 1, 3, .q (xb false))] [] (ob (o_b h1) ob0) (by kernel_rfl))
theorem zgc (k : Nat) (p0 : zi) (p1 p2 : Int) (r : Bool) (h : zhb k p0 p1 p2 = some r) : callP TE (ev TE) 43 [(.agg [(di p0.Low), (di p0.High)]), (di p1), (di p2)] = some (zld r) := by
 unfold zhb at h
 refine cond_ok h (fun h1 g1 => ?_) (fun h1 g1 => ?_)
 ·refine cond_ok g1 (fun h2 g2 => ?_) (fun h2 g2 => ?_)
  ·exact fin_ok (g := zld) g2 (zqc [(43, 1, 4, .q (xb true)), (43, 1, 11, .q (xb true))] [] (ob (o_b h1) (ob (o_b h2) ob0)) (by kernel_rfl))
  ·exact fin_ok (g := zld) g2 (zqc [(43, 1, 4, .q (xb true)), (43, 1, 11, .q (xb false))] [] (ob (o_b h1) (ob (o_b h2) ob0)) (by kernel_rfl))
 ·exact fin_ok (g := zld) g1 (zqc [(43, 1, 4, .q (xb false))] [] (ob (o_b h1) ob0) (by kernel_rfl))
theorem zT (k : Nat) (p0 : za) (p1 : Int) (r : Bool) (h : zrb k p0 p1 = some r) : callP TE (ev TE) 63 [(.agg (zb p0)), (di p1)] = some (z9f r) := by
 unfold zrb at h
 refine bind_ok h (fun v1 h2 g1 => ?_)
 exact fin_ok (g := z9f) g1 (zqc [(63, 1, 3, .q (xi (p0.Shelves.1.length : Int))), (63, 1, 5, .c (db v1))] [] (ob (o_len zk p0.Shelves.1) (ob (zE k p1 0 (w64 ((p0.Shelves.1.length : Int) - 1)) _ h2) ob0)) (by kernel_rfl))
noncomputable def z9l (p0 : za) (r : Bool) : TM := [(0, (.d (.agg (zb p0)))), (zsp 1), (2, (xi 0)), (3, (xb r))]
noncomputable def zU (p0 : za) (r : Bool) : St := ⟨(z9l p0 r), ⟨[(zc 1 (zb p0))], []⟩, []⟩
theorem zKf (k : Nat) (p0 : za) (r : Bool) (h : ztc k p0 = some r) : ev TE 19 (rgn TE 19 1) ⟨[(0, (.d (.agg (zb p0)))), (zsp 1), (2, (xi 0))], ⟨[(zc 1 (zb p0))], []⟩, []⟩ = some (.nor, zU p0 r) := by
 unfold ztc at h
 refine bind_ok h (fun v201 h202 g1 => ?_)
 refine cond_ok g1 (fun h203 g2 => ?_) (fun h203 g2 => ?_)
 ·refine bind_ok g2 (fun v204 h205 g3 => ?_)
  refine cond_ok g3 (fun h206 g4 => ?_) (fun h206 g4 => ?_)
  ·refine cond_ok g4 (fun h207 g5 => ?_) (fun h207 g5 => ?_)
   ·refine cond_ok g5 (fun h208 g6 => ?_) (fun h208 g6 => ?_)
    ·exact fin2_ok (g := fun r => (Ex.nor, zU p0 r)) g6 (zqe [(19, 1, 2, .c (db v201)), (19, 1, 3, .q (xb true)), (19, 1, 6, .q (xi (p0.Shelves.1.length : Int))), (19, 1, 7, .c (db v204)), (19, 1, 9, .q (xb true)), (19, 1, 12, .q (xi (p0.Moves.1.length : Int))), (19, 1, 15, .q (xb true)), (19, 1, 18, .q (xi (p0.Deliveries.1.length : Int))), (19, 1, 21, .q (xb true)), (19, 1, 24, .q (xi (p0.Counts.1.length : Int)))] [] (ob (zE k p0.Days 1 12 _ h202) (ob (o_b h203) (ob (o_len zk p0.Shelves.1) (ob (zE k (p0.Shelves.1.length : Int) 1 4 _ h205) (ob (o_b h206) (ob (o_len zl p0.Moves.1) (ob (o_b h207) (ob (o_len zh p0.Deliveries.1) (ob (o_b h208) (ob (o_len zj p0.Counts.1) ob0)))))))))) (by kernel_rfl))
    ·exact fin2_ok (g := fun r => (Ex.nor, zU p0 r)) g6 (zqe [(19, 1, 2, .c (db v201)), (19, 1, 3, .q (xb true)), (19, 1, 6, .q (xi (p0.Shelves.1.length : Int))), (19, 1, 7, .c (db v204)), (19, 1, 9, .q (xb true)), (19, 1, 12, .q (xi (p0.Moves.1.length : Int))), (19, 1, 15, .q (xb true)), (19, 1, 18, .q (xi (p0.Deliveries.1.length : Int))), (19, 1, 21, .q (xb false))] [] (ob (zE k p0.Days 1 12 _ h202) (ob (o_b h203) (ob (o_len zk p0.Shelves.1) (ob (zE k (p0.Shelves.1.length : Int) 1 4 _ h205) (ob (o_b h206) (ob (o_len zl p0.Moves.1) (ob (o_b h207) (ob (o_len zh p0.Deliveries.1) (ob (o_b h208) ob0))))))))) (by kernel_rfl))
   ·exact fin2_ok (g := fun r => (Ex.nor, zU p0 r)) g5 (zqe [(19, 1, 2, .c (db v201)), (19, 1, 3, .q (xb true)), (19, 1, 6, .q (xi (p0.Shelves.1.length : Int))), (19, 1, 7, .c (db v204)), (19, 1, 9, .q (xb true)), (19, 1, 12, .q (xi (p0.Moves.1.length : Int))), (19, 1, 15, .q (xb false))] [] (ob (zE k p0.Days 1 12 _ h202) (ob (o_b h203) (ob (o_len zk p0.Shelves.1) (ob (zE k (p0.Shelves.1.length : Int) 1 4 _ h205) (ob (o_b h206) (ob (o_len zl p0.Moves.1) (ob (o_b h207) ob0))))))) (by kernel_rfl))
  ·exact fin2_ok (g := fun r => (Ex.nor, zU p0 r)) g4 (zqe [(19, 1, 2, .c (db v201)), (19, 1, 3, .q (xb true)), (19, 1, 6, .q (xi (p0.Shelves.1.length : Int))), (19, 1, 7, .c (db v204)), (19, 1, 9, .q (xb false))] [] (ob (zE k p0.Days 1 12 _ h202) (ob (o_b h203) (ob (o_len zk p0.Shelves.1) (ob (zE k (p0.Shelves.1.length : Int) 1 4 _ h205) (ob (o_b h206) ob0))))) (by kernel_rfl))
 ·exact fin2_ok (g := fun r => (Ex.nor, zU p0 r)) g2 (zqe [(19, 1, 2, .c (db v201)), (19, 1, 3, .q (xb false))] [] (ob (zE k p0.Days 1 12 _ h202) (ob (o_b h203) ob0)) (by kernel_rfl))
noncomputable def zro (p0 : za) (s2_6 : Bool) (s2_7 : Int) (r : Bool) : TM := [(0, (.d (.agg (zb p0)))), (zsp 1), (2, (xi 0)), (3, (xb s2_6)), (4, (xi s2_7)), (46, (xb r))]
noncomputable def zZb (p0 : za) (s2_6 : Bool) (s2_7 : Int) (r : Bool) : St := ⟨(zro p0 s2_6 s2_7 r), ⟨[(zc 1 (zb p0))], []⟩, []⟩
noncomputable def zim (p0 : za) (s2_6 : Bool) (s2_7 : Int) : TM := [(0, (.d (.agg (zb p0)))), (zsp 1), (2, (xi 0)), (3, (xb s2_6)), (4, (xi s2_7))]
theorem zHf (k : Nat) (p0 : za) (s2_6 : Bool) (s2_7 : Int) (r : Bool) (h : zlb k p0 s2_6 s2_7 = some r) : ev TE 19 (rgn TE 19 3) ⟨(zim p0 s2_6 s2_7), ⟨[(zc 1 (zb p0))], []⟩, []⟩ = some (.nor, zZb p0 s2_6 s2_7 r) := by
 unfold zlb at h
 refine cond_ok h (fun h601 g1 => ?_) (fun h601 g1 => ?_)
 ·exact fin2_ok (g := fun r => (Ex.nor, zZb p0 s2_6 s2_7 r)) g1 (zqe [(19, 3, 1, .q (xb true)), (19, 3, 5, .q (xi (p0.Shelves.1.length : Int)))] [] (ob (o_b h601) (ob (o_len zk p0.Shelves.1) ob0)) (by kernel_rfl))
 ·exact fin2_ok (g := fun r => (Ex.nor, zZb p0 s2_6 s2_7 r)) g1 (zqe [(19, 3, 1, .q (xb false))] [] (ob (o_b h601) ob0) (by kernel_rfl))
noncomputable def zYc (p0 : za) (s2_6 : Bool) (s2_7 : Int) (v504 : zJ) (r : Bool) : St := ⟨(z9l p0 r ++ [(4, (xi s2_7)), (46, (xb true)), (zsp 5)]), ⟨[(zc 1 (zb p0)), (zc 5 (zk v504))], []⟩, []⟩
theorem zAi (k : Nat) (p0 : za) (s2_6 : Bool) (s2_7 : Int) (v504 : zJ) (r : Bool) (h : zrc k p0 s2_6 s2_7 v504 = some r) : ev TE 19 (rgn TE 19 6) ⟨(zim p0 s2_6 s2_7 ++ [(46, (xb true)), (zsp 5)]), ⟨[(zc 1 (zb p0)), (zc 5 (zk v504))], []⟩, []⟩ = some (.nor, zYc p0 s2_6 s2_7 v504 r) := by
 unfold zrc at h
 refine bind_ok h (fun v701 h702 g1 => ?_)
 refine cond_ok g1 (fun h703 g2 => ?_) (fun h703 g2 => ?_)
 ·refine bind_ok g2 (fun v704 h705 g3 => ?_)
  exact fin2_ok (g := fun r => (Ex.nor, zYc p0 s2_6 s2_7 v504 r)) g3 (zqe [(19, 6, 2, .c (db v701)), (19, 6, 3, .q (xb true)), (19, 6, 8, .c (db v704))] [] (ob (zE k v504.Room 1 60 _ h702) (ob (o_b h703) (ob (zgc k v504.Begin 0 v504.Room _ h705) ob0))) (by kernel_rfl))
 ·exact fin2_ok (g := fun r => (Ex.nor, zYc p0 s2_6 s2_7 v504 r)) g2 (zqe [(19, 6, 2, .c (db v701)), (19, 6, 3, .q (xb false))] [] (ob (zE k v504.Room 1 60 _ h702) (ob (o_b h703) ob0)) (by kernel_rfl))
noncomputable def zaj (p0 : za) (s2_6 : Bool) (s2_7 : Int) : St := ⟨(zim p0 s2_6 s2_7), ⟨[(zc 1 (zb p0))], []⟩, []⟩
noncomputable def zfp (p0 : za) (r : zt1) : TM := [(0, (.d (.agg (zb p0)))), (zsp 1), (2, (xi 0)), (3, (xb r.1)), (4, (xi r.2)), (46, (xb false))]
noncomputable def zPb (p0 : za) (r : zt1) : St := ⟨(zfp p0 r), ⟨[(zc 1 (zb p0))], []⟩, []⟩
noncomputable def z3i (p0 : za) : (Bool × Int) → Ex × St := fun r => ((.exit 0), zPb p0 r)
theorem zIf (k : Nat) (p0 : za) (s2_6 : Bool) (s2_7 : Int) (x : (Bool × Int) ⊕ (Bool × Int)) (h : zZ k p0 s2_6 s2_7 = some x) : LoopOK TE 19 (blk TE 19 0) (fun s : (Bool × Int) => zaj p0 s.1 s.2) (z3i p0) (s2_6, s2_7) x := by
 unfold zZ at h
 refine bind_ok h (fun v501 h502 g1 => ?_)
 refine cond_ok g1 (fun h503 g2 => ?_) (fun h503 g2 => ?_)
 ·subst h503
  refine bind_ok g2 (fun v504 h505 g3 => ?_)
  refine bind_ok g3 (fun v506 h507 g4 => ?_)
  exact zqn (v506, (w64 (s2_7 + 1))) [] [(19, 5, 3, .q (.d (.pin (zk v504))))] [(19, 1000003, (.nor, zZb p0 s2_6 s2_7 true)), (19, 1000006, (.nor, zYc p0 s2_6 s2_7 v504 v506))] g4 (ob (zHf k p0 s2_6 s2_7 _ h502) (ob (o_ia (e := zk) 3 h505 rfl) (ob (zAi k p0 s2_6 s2_7 v504 _ h507) ob0))) (by kernel_rfl)
 ·subst h503
  exact zqo [] [(19, 1000003, (.nor, zZb p0 s2_6 s2_7 false))] g2 (ob (zHf k p0 s2_6 s2_7 _ h502) ob0) (by kernel_rfl)
noncomputable def zco (p0 : za) (s7_6 : Bool) (v3 : zt1) (s7_9 : Int) (r : Bool) : TM := [(0, (.d (.agg (zb p0)))), (zsp 1), (2, (xi 0)), (3, (xb s7_6)), (4, (xi v3.2)), (46, (xb false)), (6, (xi s7_9)), (71, (xb r))]
noncomputable def zUb (p0 : za) (v3 : zt1) (s7_6 : Bool) (s7_9 : Int) (r : Bool) : St := ⟨(zco p0 s7_6 v3 s7_9 r), ⟨[(zc 1 (zb p0))], []⟩, []⟩
noncomputable def zem (p0 : za) (s7_6 : Bool) (v3 : zt1) (s7_9 : Int) : TM := [(0, (.d (.agg (zb p0)))), (zsp 1), (2, (xi 0)), (3, (xb s7_6)), (4, (xi v3.2)), (46, (xb false)), (6, (xi s7_9))]
theorem zof (k : Nat) (p0 : za) (v3 : zt1) (s7_6 : Bool) (s7_9 : Int) (r : Bool) (h : zdb k p0 v3 s7_6 s7_9 = some r) : ev TE 19 (rgn TE 19 8) ⟨(zem p0 s7_6 v3 s7_9), ⟨[(zc 1 (zb p0))], []⟩, []⟩ = some (.nor, zUb p0 v3 s7_6 s7_9 r) := by
 unfold zdb at h
 refine cond_ok h (fun h1101 g1 => ?_) (fun h1101 g1 => ?_)
 ·exact fin2_ok (g := fun r => (Ex.nor, zUb p0 v3 s7_6 s7_9 r)) g1 (zqe [(19, 8, 1, .q (xb true)), (19, 8, 5, .q (xi (p0.Moves.1.length : Int)))] [] (ob (o_b h1101) (ob (o_len zl p0.Moves.1) ob0)) (by kernel_rfl))
 ·exact fin2_ok (g := fun r => (Ex.nor, zUb p0 v3 s7_6 s7_9 r)) g1 (zqe [(19, 8, 1, .q (xb false))] [] (ob (o_b h1101) ob0) (by kernel_rfl))
noncomputable def zCo (p0 : za) (r : Bool) (v3 : zt1) (s7_9 : Int) : TM := z9l p0 r ++ [(4, (xi v3.2)), (46, (xb false)), (6, (xi s7_9)), (71, (xb true)), (zsp 7)]
noncomputable def zOb (p0 : za) (v3 : zt1) (s7_6 : Bool) (s7_9 : Int) (v1004 : zy) (r : Bool) : St := ⟨(zCo p0 r v3 s7_9), ⟨[(zc 1 (zb p0)), (zc 7 (zl v1004))], []⟩, []⟩
theorem z3h (k : Nat) (p0 : za) (v3 : zt1) (s7_6 : Bool) (s7_9 : Int) (v1004 : zy) (r : Bool) (h : zic k p0 v3 s7_6 s7_9 v1004 = some r) : ev TE 19 (rgn TE 19 11) ⟨(zem p0 s7_6 v3 s7_9 ++ [(71, (xb true)), (zsp 7)]), ⟨[(zc 1 (zb p0)), (zc 7 (zl v1004))], []⟩, []⟩ = some (.nor, zOb p0 v3 s7_6 s7_9 v1004 r) := by
 unfold zic at h
 refine bind_ok h (fun v1201 h1202 g1 => ?_)
 refine cond_ok g1 (fun h1203 g2 => ?_) (fun h1203 g2 => ?_)
 ·refine bind_ok g2 (fun v1204 h1205 g3 => ?_)
  refine cond_ok g3 (fun h1206 g4 => ?_) (fun h1206 g4 => ?_)
  ·refine bind_ok g4 (fun v1207 h1208 g5 => ?_)
   exact fin2_ok (g := fun r => (Ex.nor, zOb p0 v3 s7_6 s7_9 v1004 r)) g5 (zqe [(19, 11, 5, .c (db v1201)), (19, 11, 6, .q (xb true)), (19, 11, 10, .c (db v1204)), (19, 11, 12, .q (xb true)), (19, 11, 15, .c (db v1207))] [] (ob (zE k v1004.Day 0 (w64 (p0.Days - 1)) _ h1202) (ob (o_b h1203) (ob (zT k p0 v1004.Shelf _ h1205) (ob (o_b h1206) (ob (zgc k v1004.By 0 60 _ h1208) ob0))))) (by kernel_rfl))
  ·exact fin2_ok (g := fun r => (Ex.nor, zOb p0 v3 s7_6 s7_9 v1004 r)) g4 (zqe [(19, 11, 5, .c (db v1201)), (19, 11, 6, .q (xb true)), (19, 11, 10, .c (db v1204)), (19, 11, 12, .q (xb false))] [] (ob (zE k v1004.Day 0 (w64 (p0.Days - 1)) _ h1202) (ob (o_b h1203) (ob (zT k p0 v1004.Shelf _ h1205) (ob (o_b h1206) ob0)))) (by kernel_rfl))
 ·exact fin2_ok (g := fun r => (Ex.nor, zOb p0 v3 s7_6 s7_9 v1004 r)) g2 (zqe [(19, 11, 5, .c (db v1201)), (19, 11, 6, .q (xb false))] [] (ob (zE k v1004.Day 0 (w64 (p0.Days - 1)) _ h1202) (ob (o_b h1203) ob0)) (by kernel_rfl))
noncomputable def zfj (p0 : za) (v3 : zt1) (s7_6 : Bool) (s7_9 : Int) : St := ⟨(zem p0 s7_6 v3 s7_9), ⟨[(zc 1 (zb p0))], []⟩, []⟩
noncomputable def zlo (p0 : za) (r v3 : zt1) : TM := [(0, (.d (.agg (zb p0)))), (zsp 1), (2, (xi 0)), (3, (xb r.1)), (4, (xi v3.2)), (46, (xb false)), (6, (xi r.2)), (71, (xb false))]
noncomputable def zTb (p0 : za) (v3 r : zt1) : St := ⟨(zlo p0 r v3), ⟨[(zc 1 (zb p0))], []⟩, []⟩
noncomputable def zjj (p0 : za) (v3 : zt1) : (Bool × Int) → Ex × St := fun r => ((.exit 2), zTb p0 v3 r)
theorem zGf (k : Nat) (p0 : za) (v3 : zt1) (s7_6 : Bool) (s7_9 : Int) (x : (Bool × Int) ⊕ (Bool × Int)) (h : z6 k p0 v3 s7_6 s7_9 = some x) : LoopOK TE 19 (blk TE 19 2) (fun s : (Bool × Int) => zfj p0 v3 s.1 s.2) (zjj p0 v3) (s7_6, s7_9) x := by
 unfold z6 at h
 refine bind_ok h (fun v1001 h1002 g1 => ?_)
 refine cond_ok g1 (fun h1003 g2 => ?_) (fun h1003 g2 => ?_)
 ·subst h1003
  refine bind_ok g2 (fun v1004 h1005 g3 => ?_)
  refine bind_ok g3 (fun v1006 h1007 g4 => ?_)
  exact zqn (v1006, (w64 (s7_9 + 1))) [] [(19, 10, 3, .q (.d (.pin (zl v1004))))] [(19, 1000008, (.nor, zUb p0 v3 s7_6 s7_9 true)), (19, 1000011, (.nor, zOb p0 v3 s7_6 s7_9 v1004 v1006))] g4 (ob (zof k p0 v3 s7_6 s7_9 _ h1002) (ob (o_ia (e := zl) 5 h1005 rfl) (ob (z3h k p0 v3 s7_6 s7_9 v1004 _ h1007) ob0))) (by kernel_rfl)
 ·subst h1003
  exact zqo [] [(19, 1000008, (.nor, zUb p0 v3 s7_6 s7_9 false))] g2 (ob (zof k p0 v3 s7_6 s7_9 _ h1002) ob0) (by kernel_rfl)
noncomputable def zDo (p0 : za) (s12_6 : Bool) (v3 v5 : zt1) (s12_11 : Int) (r : Bool) : TM := [(0, (.d (.agg (zb p0)))), (zsp 1), (2, (xi 0)), (3, (xb s12_6)), (4, (xi v3.2)), (46, (xb false)), (6, (xi v5.2)), (71, (xb false)), (8, (xi s12_11)), (103, (xb r))]
noncomputable def zRb (p0 : za) (v3 v5 : zt1) (s12_6 : Bool) (s12_11 : Int) (r : Bool) : St := ⟨(zDo p0 s12_6 v3 v5 s12_11 r), ⟨[(zc 1 (zb p0))], []⟩, []⟩
noncomputable def zdm (p0 : za) (s12_6 : Bool) (v3 v5 : zt1) (s12_11 : Int) : TM := [(0, (.d (.agg (zb p0)))), (zsp 1), (2, (xi 0)), (3, (xb s12_6)), (4, (xi v3.2)), (46, (xb false)), (6, (xi v5.2)), (71, (xb false)), (8, (xi s12_11))]
theorem zjf (k : Nat) (p0 : za) (v3 v5 : zt1) (s12_6 : Bool) (s12_11 : Int) (r : Bool) (h : zeb k p0 v3 v5 s12_6 s12_11 = some r) : ev TE 19 (rgn TE 19 13) ⟨(zdm p0 s12_6 v3 v5 s12_11), ⟨[(zc 1 (zb p0))], []⟩, []⟩ = some (.nor, zRb p0 v3 v5 s12_6 s12_11 r) := by
 unfold zeb at h
 refine cond_ok h (fun h1601 g1 => ?_) (fun h1601 g1 => ?_)
 ·exact fin2_ok (g := fun r => (Ex.nor, zRb p0 v3 v5 s12_6 s12_11 r)) g1 (zqe [(19, 13, 1, .q (xb true)), (19, 13, 5, .q (xi (p0.Deliveries.1.length : Int)))] [] (ob (o_b h1601) (ob (o_len zh p0.Deliveries.1) ob0)) (by kernel_rfl))
 ·exact fin2_ok (g := fun r => (Ex.nor, zRb p0 v3 v5 s12_6 s12_11 r)) g1 (zqe [(19, 13, 1, .q (xb false))] [] (ob (o_b h1601) ob0) (by kernel_rfl))
noncomputable def z8o (p0 : za) (r : Bool) (v3 v5 : zt1) (s12_11 : Int) : TM := z9l p0 r ++ [(4, (xi v3.2)), (46, (xb false)), (6, (xi v5.2)), (71, (xb false)), (8, (xi s12_11)), (103, (xb true)), (zsp 9)]
noncomputable def zVb (p0 : za) (v3 v5 : zt1) (s12_6 : Bool) (s12_11 : Int) (v1504 : zn) (r : Bool) : St := ⟨(z8o p0 r v3 v5 s12_11), ⟨[(zc 1 (zb p0)), (zc 9 (zh v1504))], []⟩, []⟩
theorem z7h (k : Nat) (p0 : za) (v3 v5 : zt1) (s12_6 : Bool) (s12_11 : Int) (v1504 : zn) (r : Bool) (h : zhc k p0 v3 v5 s12_6 s12_11 v1504 = some r) : ev TE 19 (rgn TE 19 16) ⟨(zdm p0 s12_6 v3 v5 s12_11 ++ [(103, (xb true)), (zsp 9)]), ⟨[(zc 1 (zb p0)), (zc 9 (zh v1504))], []⟩, []⟩ = some (.nor, zVb p0 v3 v5 s12_6 s12_11 v1504 r) := by
 unfold zhc at h
 refine bind_ok h (fun v1701 h1702 g1 => ?_)
 refine cond_ok g1 (fun h1703 g2 => ?_) (fun h1703 g2 => ?_)
 ·refine bind_ok g2 (fun v1704 h1705 g3 => ?_)
  refine cond_ok g3 (fun h1706 g4 => ?_) (fun h1706 g4 => ?_)
  ·refine bind_ok g4 (fun v1707 h1708 g5 => ?_)
   exact fin2_ok (g := fun r => (Ex.nor, zVb p0 v3 v5 s12_6 s12_11 v1504 r)) g5 (zqe [(19, 16, 3, .c (db v1701)), (19, 16, 4, .q (xb true)), (19, 16, 10, .c (db v1704)), (19, 16, 12, .q (xb true)), (19, 16, 15, .c (db v1707))] [] (ob (zT k p0 v1504.Shelf _ h1702) (ob (o_b h1703) (ob (zgc k v1504.Days 0 (w64 (p0.Days - 1)) _ h1705) (ob (o_b h1706) (ob (zgc k v1504.By 0 60 _ h1708) ob0))))) (by kernel_rfl))
  ·exact fin2_ok (g := fun r => (Ex.nor, zVb p0 v3 v5 s12_6 s12_11 v1504 r)) g4 (zqe [(19, 16, 3, .c (db v1701)), (19, 16, 4, .q (xb true)), (19, 16, 10, .c (db v1704)), (19, 16, 12, .q (xb false))] [] (ob (zT k p0 v1504.Shelf _ h1702) (ob (o_b h1703) (ob (zgc k v1504.Days 0 (w64 (p0.Days - 1)) _ h1705) (ob (o_b h1706) ob0)))) (by kernel_rfl))
 ·exact fin2_ok (g := fun r => (Ex.nor, zVb p0 v3 v5 s12_6 s12_11 v1504 r)) g2 (zqe [(19, 16, 3, .c (db v1701)), (19, 16, 4, .q (xb false))] [] (ob (zT k p0 v1504.Shelf _ h1702) (ob (o_b h1703) ob0)) (by kernel_rfl))
noncomputable def zEi (p0 : za) (v3 v5 : zt1) (s12_6 : Bool) (s12_11 : Int) : St := ⟨(zdm p0 s12_6 v3 v5 s12_11), ⟨[(zc 1 (zb p0))], []⟩, []⟩
noncomputable def zEo (p0 : za) (r v3 v5 : zt1) : TM := [(0, (.d (.agg (zb p0)))), (zsp 1), (2, (xi 0)), (3, (xb r.1)), (4, (xi v3.2)), (46, (xb false)), (6, (xi v5.2)), (71, (xb false)), (8, (xi r.2)), (103, (xb false))]
noncomputable def zFb (p0 : za) (v3 v5 r : zt1) : St := ⟨(zEo p0 r v3 v5), ⟨[(zc 1 (zb p0))], []⟩, []⟩
noncomputable def zGi (p0 : za) (v3 v5 : zt1) : (Bool × Int) → Ex × St := fun r => ((.exit 4), zFb p0 v3 v5 r)
theorem zpf (k : Nat) (p0 : za) (v3 v5 : zt1) (s12_6 : Bool) (s12_11 : Int) (x : (Bool × Int) ⊕ (Bool × Int)) (h : zW k p0 v3 v5 s12_6 s12_11 = some x) : LoopOK TE 19 (blk TE 19 4) (fun s : (Bool × Int) => zEi p0 v3 v5 s.1 s.2) (zGi p0 v3 v5) (s12_6, s12_11) x := by
 unfold zW at h
 refine bind_ok h (fun v1501 h1502 g1 => ?_)
 refine cond_ok g1 (fun h1503 g2 => ?_) (fun h1503 g2 => ?_)
 ·subst h1503
  refine bind_ok g2 (fun v1504 h1505 g3 => ?_)
  refine bind_ok g3 (fun v1506 h1507 g4 => ?_)
  exact zqn (v1506, (w64 (s12_11 + 1))) [] [(19, 15, 3, .q (.d (.pin (zh v1504))))] [(19, 1000013, (.nor, zRb p0 v3 v5 s12_6 s12_11 true)), (19, 1000016, (.nor, zVb p0 v3 v5 s12_6 s12_11 v1504 v1506))] g4 (ob (zjf k p0 v3 v5 s12_6 s12_11 _ h1502) (ob (o_ia (e := zh) 5 h1505 rfl) (ob (z7h k p0 v3 v5 s12_6 s12_11 v1504 _ h1507) ob0))) (by kernel_rfl)
 ·subst h1503
  exact zqo [] [(19, 1000013, (.nor, zRb p0 v3 v5 s12_6 s12_11 false))] g2 (ob (zjf k p0 v3 v5 s12_6 s12_11 _ h1502) ob0) (by kernel_rfl)
noncomputable def zKo (p0 : za) (s17_6 : Bool) (v3 v5 v7 : zt1) (s17_13 : Int) (r : Bool) : TM := [(0, (.d (.agg (zb p0)))), (zsp 1), (2, (xi 0)), (3, (xb s17_6)), (4, (xi v3.2)), (46, (xb false)), (6, (xi v5.2)), (71, (xb false)), (8, (xi v7.2)), (103, (xb false)), (10, (xi s17_13)), (135, (xb r))]
noncomputable def zQb (p0 : za) (v3 v5 v7 : zt1) (s17_6 : Bool) (s17_13 : Int) (r : Bool) : St := ⟨(zKo p0 s17_6 v3 v5 v7 s17_13 r), ⟨[(zc 1 (zb p0))], []⟩, []⟩
noncomputable def zcm (p0 : za) (s17_6 : Bool) (v3 v5 v7 : zt1) (s17_13 : Int) : TM := [(0, (.d (.agg (zb p0)))), (zsp 1), (2, (xi 0)), (3, (xb s17_6)), (4, (xi v3.2)), (46, (xb false)), (6, (xi v5.2)), (71, (xb false)), (8, (xi v7.2)), (103, (xb false)), (10, (xi s17_13))]
theorem zmf (k : Nat) (p0 : za) (v3 v5 v7 : zt1) (s17_6 : Bool) (s17_13 : Int) (r : Bool) (h : zfb k p0 v3 v5 v7 s17_6 s17_13 = some r) : ev TE 19 (rgn TE 19 18) ⟨(zcm p0 s17_6 v3 v5 v7 s17_13), ⟨[(zc 1 (zb p0))], []⟩, []⟩ = some (.nor, zQb p0 v3 v5 v7 s17_6 s17_13 r) := by
 unfold zfb at h
 refine cond_ok h (fun h2101 g1 => ?_) (fun h2101 g1 => ?_)
 ·exact fin2_ok (g := fun r => (Ex.nor, zQb p0 v3 v5 v7 s17_6 s17_13 r)) g1 (zqe [(19, 18, 1, .q (xb true)), (19, 18, 5, .q (xi (p0.Counts.1.length : Int)))] [] (ob (o_b h2101) (ob (o_len zj p0.Counts.1) ob0)) (by kernel_rfl))
 ·exact fin2_ok (g := fun r => (Ex.nor, zQb p0 v3 v5 v7 s17_6 s17_13 r)) g1 (zqe [(19, 18, 1, .q (xb false))] [] (ob (o_b h2101) ob0) (by kernel_rfl))
noncomputable def zjp (p0 : za) (r : Bool) (v3 v5 v7 : zt1) (s17_13 : Int) : TM := z9l p0 r ++ [(4, (xi v3.2)), (46, (xb false)), (6, (xi v5.2)), (71, (xb false)), (8, (xi v7.2)), (103, (xb false)), (10, (xi s17_13)), (135, (xb true)), (zsp 11)]
noncomputable def zmb (p0 : za) (v3 v5 v7 : zt1) (s17_6 : Bool) (s17_13 : Int) (v2004 : zp) (r : Bool) : St := ⟨(zjp p0 r v3 v5 v7 s17_13), ⟨[(zc 1 (zb p0)), (zc 11 (zj v2004))], []⟩, []⟩
theorem z0h (k : Nat) (p0 : za) (v3 v5 v7 : zt1) (s17_6 : Bool) (s17_13 : Int) (v2004 : zp) (r : Bool) (h : zdc k p0 v3 v5 v7 s17_6 s17_13 v2004 = some r) : ev TE 19 (rgn TE 19 21) ⟨(zcm p0 s17_6 v3 v5 v7 s17_13 ++ [(135, (xb true)), (zsp 11)]), ⟨[(zc 1 (zb p0)), (zc 11 (zj v2004))], []⟩, []⟩ = some (.nor, zmb p0 v3 v5 v7 s17_6 s17_13 v2004 r) := by
 unfold zdc at h
 refine bind_ok h (fun v2201 h2202 g1 => ?_)
 refine cond_ok g1 (fun h2203 g2 => ?_) (fun h2203 g2 => ?_)
 ·refine bind_ok g2 (fun v2204 h2205 g3 => ?_)
  refine cond_ok g3 (fun h2206 g4 => ?_) (fun h2206 g4 => ?_)
  ·refine bind_ok g4 (fun v2207 h2208 g5 => ?_)
   refine cond_ok g5 (fun h2209 g6 => ?_) (fun h2209 g6 => ?_)
   ·refine bind_ok g6 (fun v2210 h2211 g7 => ?_)
    exact fin2_ok (g := fun r => (Ex.nor, zmb p0 v3 v5 v7 s17_6 s17_13 v2004 r)) g7 (zqe [(19, 21, 5, .c (db v2201)), (19, 21, 6, .q (xb true)), (19, 21, 10, .c (db v2204)), (19, 21, 12, .q (xb true)), (19, 21, 15, .c (db v2207)), (19, 21, 17, .q (xb true)), (19, 21, 20, .c (db v2210))] [] (ob (zE k v2004.Day 0 (w64 (p0.Days - 1)) _ h2202) (ob (o_b h2203) (ob (zT k p0 v2004.Shelf _ h2205) (ob (o_b h2206) (ob (zE k v2004.Read 0 60 _ h2208) (ob (o_b h2209) (ob (zE k v2004.Err 0 20 _ h2211) ob0))))))) (by kernel_rfl))
   ·exact fin2_ok (g := fun r => (Ex.nor, zmb p0 v3 v5 v7 s17_6 s17_13 v2004 r)) g6 (zqe [(19, 21, 5, .c (db v2201)), (19, 21, 6, .q (xb true)), (19, 21, 10, .c (db v2204)), (19, 21, 12, .q (xb true)), (19, 21, 15, .c (db v2207)), (19, 21, 17, .q (xb false))] [] (ob (zE k v2004.Day 0 (w64 (p0.Days - 1)) _ h2202) (ob (o_b h2203) (ob (zT k p0 v2004.Shelf _ h2205) (ob (o_b h2206) (ob (zE k v2004.Read 0 60 _ h2208) (ob (o_b h2209) ob0)))))) (by kernel_rfl))
  ·exact fin2_ok (g := fun r => (Ex.nor, zmb p0 v3 v5 v7 s17_6 s17_13 v2004 r)) g4 (zqe [(19, 21, 5, .c (db v2201)), (19, 21, 6, .q (xb true)), (19, 21, 10, .c (db v2204)), (19, 21, 12, .q (xb false))] [] (ob (zE k v2004.Day 0 (w64 (p0.Days - 1)) _ h2202) (ob (o_b h2203) (ob (zT k p0 v2004.Shelf _ h2205) (ob (o_b h2206) ob0)))) (by kernel_rfl))
 ·exact fin2_ok (g := fun r => (Ex.nor, zmb p0 v3 v5 v7 s17_6 s17_13 v2004 r)) g2 (zqe [(19, 21, 5, .c (db v2201)), (19, 21, 6, .q (xb false))] [] (ob (zE k v2004.Day 0 (w64 (p0.Days - 1)) _ h2202) (ob (o_b h2203) ob0)) (by kernel_rfl))
noncomputable def zMi (p0 : za) (v3 v5 v7 : zt1) (s17_6 : Bool) (s17_13 : Int) : St := ⟨(zcm p0 s17_6 v3 v5 v7 s17_13), ⟨[(zc 1 (zb p0))], []⟩, []⟩
noncomputable def zgp (p0 : za) (r v3 v5 v7 : zt1) : TM := [(0, (.d (.agg (zb p0)))), (zsp 1), (2, (xi 0)), (3, (xb r.1)), (4, (xi v3.2)), (46, (xb false)), (6, (xi v5.2)), (71, (xb false)), (8, (xi v7.2)), (103, (xb false)), (10, (xi r.2)), (135, (xb false))]
noncomputable def zGb (p0 : za) (v3 v5 v7 r : zt1) : St := ⟨(zgp p0 r v3 v5 v7), ⟨[(zc 1 (zb p0))], []⟩, []⟩
noncomputable def zyi (p0 : za) (v3 v5 v7 : zt1) : (Bool × Int) → Ex × St := fun r => ((.exit 6), zGb p0 v3 v5 v7 r)
theorem zrf (k : Nat) (p0 : za) (v3 v5 v7 : zt1) (s17_6 : Bool) (s17_13 : Int) (x : (Bool × Int) ⊕ (Bool × Int)) (h : zV k p0 v3 v5 v7 s17_6 s17_13 = some x) : LoopOK TE 19 (blk TE 19 6) (fun s : (Bool × Int) => zMi p0 v3 v5 v7 s.1 s.2) (zyi p0 v3 v5 v7) (s17_6, s17_13) x := by
 unfold zV at h
 refine bind_ok h (fun v2001 h2002 g1 => ?_)
 refine cond_ok g1 (fun h2003 g2 => ?_) (fun h2003 g2 => ?_)
 ·subst h2003
  refine bind_ok g2 (fun v2004 h2005 g3 => ?_)
  refine bind_ok g3 (fun v2006 h2007 g4 => ?_)
  exact zqn (v2006, (w64 (s17_13 + 1))) [] [(19, 20, 3, .q (.d (.pin (zj v2004))))] [(19, 1000018, (.nor, zQb p0 v3 v5 v7 s17_6 s17_13 true)), (19, 1000021, (.nor, zmb p0 v3 v5 v7 s17_6 s17_13 v2004 v2006))] g4 (ob (zmf k p0 v3 v5 v7 s17_6 s17_13 _ h2002) (ob (o_ia (e := zj) 4 h2005 rfl) (ob (z0h k p0 v3 v5 v7 s17_6 s17_13 v2004 _ h2007) ob0))) (by kernel_rfl)
 ·subst h2003
  exact zqo [] [(19, 1000018, (.nor, zQb p0 v3 v5 v7 s17_6 s17_13 false))] g2 (ob (zmf k p0 v3 v5 v7 s17_6 s17_13 _ h2002) ob0) (by kernel_rfl)
theorem zmd (k : Nat) (p0 : za) (r : Int) (h : zmc k p0 = some r) : callP TE (ev TE) 19 [(.agg (zb p0))] = some (z3e r) := by
 unfold zmc at h
 refine bind_ok h (fun v1 h2 g1 => ?_)
 refine bind_ok g1 (fun v3 h4 g2 => ?_)
 refine bind_ok g2 (fun v5 h6 g3 => ?_)
 refine bind_ok g3 (fun v7 h8 g4 => ?_)
 refine bind_ok g4 (fun v9 h10 g5 => ?_)
 refine cond_ok g5 (fun h11 g6 => ?_) (fun h11 g6 => ?_)
 ·exact fin_ok (g := z3e) g6 (zqc [(19, 22, 1, .q (xb true))] [(19, 1000001, (.nor, zU p0 v1)), (19, 0, (.nor, zPb p0 v3)), (19, 2, (.nor, zTb p0 v3 v5)), (19, 4, (.nor, zFb p0 v3 v5 v7)), (19, 6, (.nor, zGb p0 v3 v5 v7 v9))] (ob (zKf k p0 _ h2) (ob (block_ok (id := 0) (r' := (.nor, zPb p0 v3)) (zR (zIf k p0) k _ _ h4) rfl) (ob (block_ok (id := 2) (r' := (.nor, zTb p0 v3 v5)) (zR (zGf k p0 v3) k _ _ h6) rfl) (ob (block_ok (id := 4) (r' := (.nor, zFb p0 v3 v5 v7)) (zR (zpf k p0 v3 v5) k _ _ h8) rfl) (ob (block_ok (id := 6) (r' := (.nor, zGb p0 v3 v5 v7 v9)) (zR (zrf k p0 v3 v5 v7) k _ _ h10) rfl) (ob (o_b h11) ob0)))))) (by kernel_rfl))
 ·exact fin_ok (g := z3e) g6 (zqc [(19, 22, 1, .q (xb false))] [(19, 1000001, (.nor, zU p0 v1)), (19, 0, (.nor, zPb p0 v3)), (19, 2, (.nor, zTb p0 v3 v5)), (19, 4, (.nor, zFb p0 v3 v5 v7)), (19, 6, (.nor, zGb p0 v3 v5 v7 v9))] (ob (zKf k p0 _ h2) (ob (block_ok (id := 0) (r' := (.nor, zPb p0 v3)) (zR (zIf k p0) k _ _ h4) rfl) (ob (block_ok (id := 2) (r' := (.nor, zTb p0 v3 v5)) (zR (zGf k p0 v3) k _ _ h6) rfl) (ob (block_ok (id := 4) (r' := (.nor, zFb p0 v3 v5 v7)) (zR (zpf k p0 v3 v5) k _ _ h8) rfl) (ob (block_ok (id := 6) (r' := (.nor, zGb p0 v3 v5 v7 v9)) (zR (zrf k p0 v3 v5 v7) k _ _ h10) rfl) (ob (o_b h11) ob0)))))) (by kernel_rfl))
theorem znk (k : Nat) (p0 : (SL Int)) (p1 : Int) (r : (SL Int)) (h : zyd k p0 p1 = some r) : callP TE (ev TE) 88 [(dl eI p0.1 p0.2), (di p1)] = some (z3g r) := by
 unfold zyd at h
 refine guard_ok h (fun h1 g1 => ?_)
 refine guard_ok g1 (fun h2 g2 => ?_)
 exact fin_ok (g := z3g) g2 (zqr [(88, 1, 2, .ns (p0.1.map eI) p0.1.length), (88, 1, 5, .ap (p0.1 ++ [p1]).length (rowO false 1 eI (p0.1 ++ [p1]) true))] [] [(dl eI (p0.1 ++ [p1]) (rcap false (p0.1 ++ [p1])))] (ob (o_nsl p0.1 eI) (ob (o_ns (P := TE.P) (φ := fun _ _ => none) (T := 42) (q := (1, [(di 0)])) (c := p0.2) (e := eI) p0.1 (by kernel_rfl) (fun _ => rfl) h1) (ob (rfl : (([] : List (List D)).isEmpty || !(p0.1.map eI).isEmpty) = true) (ob (o_ap (b := false) (z := 1) (e := eI) (l := p0.1) (w := true) p1 (fun _ => rfl) h2) (ob (show snaps ⟨[(7, (rowO false 1 eI (p0.1 ++ [p1]) true))], []⟩ _ = _ from (o_s1 (x := (.row 0 7 (p0.1 ++ [p1]).length)) (snap_rowR false 1 eI (p0.1 ++ [p1]) true rfl) o_s0)) ob0))))) (by kernel_rfl))
noncomputable def zIo (p0 : za) (p1 : Int) (s1_7 : (SL (SL Int))) (s1_8 : Int) (r : zt4) : TM := [(0, (.d (.agg (zb p0)))), (1, (xi p1)), (zsp 2), (4, (.d (.sl [] .nil))), (5, (.d (dl (eL eI) s1_7.1 s1_7.2))), (6, (xi s1_8)), (17, (xb true)), (zsp 7), (8, (xi r.1)), (31, (xb r.2))]
noncomputable def z4c (p0 : za) (p1 : Int) (s1_7 : (SL (SL Int))) (s1_8 : Int) (v702 : zn) (cb : Bool) (r : zt4) : St := ⟨(zIo p0 p1 s1_7 s1_8 r), ⟨[(zc 2 (zb p0)), (zc 7 (zh v702))], []⟩, []⟩
noncomputable def zmo (p0 : za) (p1 : Int) (s1_7 : (SL (SL Int))) (s1_8 : Int) (v702 : zn) (cb : Bool) : TM := [(0, (.d (.agg (zb p0)))), (1, (xi p1)), (zsp 2), (4, (.d (.sl [] .nil))), (5, (.d (dl (eL eI) s1_7.1 s1_7.2))), (6, (xi s1_8)), (17, (xb true)), (zsp 7), (8, (xi v702.Days.High)), (31, (xb cb))]
theorem zcj (k : Nat) (p0 : za) (p1 : Int) (s1_7 : (SL (SL Int))) (s1_8 : Int) (v702 : zn) (cb : Bool) (r : zt4) (h : zAd k p0 p1 s1_7 s1_8 v702 cb = some r) : ev TE 72 (cnd TE 72 31) ⟨(zmo p0 p1 s1_7 s1_8 v702 cb), ⟨[(zc 2 (zb p0)), (zc 7 (zh v702))], []⟩, []⟩ = some (.nor, z4c p0 p1 s1_7 s1_8 v702 cb r) := by
 unfold zAd at h
 refine cond_ok h (fun h801 g1 => ?_) (fun h801 g1 => ?_)
 ·subst h801
  exact fin2_ok (g := fun r => (Ex.nor, z4c p0 p1 s1_7 s1_8 v702 true r)) g1 (zqe [] [] ob0 (by kernel_rfl))
 ·subst h801
  exact fin2_ok (g := fun r => (Ex.nor, z4c p0 p1 s1_7 s1_8 v702 false r)) g1 (zqe [] [] ob0 (by kernel_rfl))
noncomputable def zzo (p0 : za) (p1 : Int) (s1_7 : (SL (SL Int))) (s1_8 : Int) (v704 : zt4) (s11_25 : (List (SL Int))) (s8_12 s11_14 : Int) : TM := [(0, (.d (.agg (zb p0)))), (1, (xi p1)), (zsp 2), (4, (.d (.sl [] .nil))), (5, (.d (dl (eL eI) s1_7.1 s1_7.2))), (6, (xi s1_8)), (17, (xb true)), (zsp 7), (8, (xi v704.1)), (31, (xb v704.2)), (9, (.row 0 9 s11_25.length)), (10, (xi s8_12)), (38, (xb true)), (11, (xi s11_14))]
noncomputable def z9i (p0 : za) (p1 : Int) (s1_7 : (SL (SL Int))) (s1_8 : Int) (v702 : zn) (v704 : zt4) (s8_12 s11_14 : Int) (s11_25 : (List (SL Int))) : St := ⟨(zzo p0 p1 s1_7 s1_8 v704 s11_25 s8_12 s11_14), ⟨[(zc 2 (zb p0)), (zc 7 (zh v702)), (9, (rowO true 1 (eL eI) s11_25 true))], []⟩, []⟩
noncomputable def zlp (p0 : za) (p1 : Int) (s1_7 : (SL (SL Int))) (s1_8 : Int) (v704 : zt4) (r : (Int × (List (SL Int)))) (s8_12 : Int) : TM := [(0, (.d (.agg (zb p0)))), (1, (xi p1)), (zsp 2), (4, (.d (.sl [] .nil))), (5, (.d (dl (eL eI) s1_7.1 s1_7.2))), (6, (xi s1_8)), (17, (xb true)), (zsp 7), (8, (xi v704.1)), (31, (xb v704.2)), (9, (.row 0 9 r.2.length)), (10, (xi s8_12)), (38, (xb true)), (11, (xi r.1)), (46, (xb false))]
noncomputable def zXd (p0 : za) (p1 : Int) (s1_7 : (SL (SL Int))) (s1_8 : Int) (v702 : zn) (v704 : zt4) (s8_12 : Int) (r : (Int × (List (SL Int)))) : St := ⟨(zlp p0 p1 s1_7 s1_8 v704 r s8_12), ⟨[(zc 2 (zb p0)), (zc 7 (zh v702)), (9, (rowO true 1 (eL eI) r.2 true))], []⟩, []⟩
noncomputable def zWi (p0 : za) (p1 : Int) (s1_7 : (SL (SL Int))) (s1_8 : Int) (v702 : zn) (v704 : zt4) (s8_12 : Int) : (Int × (List (SL Int))) → Ex × St := fun r => ((.exit 4), zXd p0 p1 s1_7 s1_8 v702 v704 s8_12 r)
theorem zPi (k : Nat) (p0 : za) (p1 : Int) (s1_7 : (SL (SL Int))) (s1_8 : Int) (v702 : zn) (v704 : zt4) (s8_12 s11_14 : Int) (s11_25 : (List (SL Int))) (x : (Int × (List (SL Int))) ⊕ (Int × (List (SL Int)))) (h : zKb k p0 p1 s1_7 s1_8 v702 v704 s8_12 s11_14 s11_25 = some x) : LoopOK TE 72 (blk TE 72 4) (fun s : (Int × (List (SL Int))) => z9i p0 p1 s1_7 s1_8 v702 v704 s8_12 s.1 s.2) (zWi p0 p1 s1_7 s1_8 v702 v704 s8_12) (s11_14, s11_25) x := by
 unfold zKb at h
 refine cond_ok h (fun h1201 g1 => ?_) (fun h1201 g1 => ?_)
 ·refine bind_ok g1 (fun v1202 h1203 g2 => ?_)
  refine bind_ok g2 (fun v1204 h1205 g3 => ?_)
  refine guard_ok g3 (fun h1206 g4 => ?_)
  exact zqn ((w64 (s11_14 + 1)), (s11_25 ++ [v1204])) [9] [(72, 14, 2, .q (xb true)), (72, 16, 3, .q (.d (.pin [(dl eI v1202.1 v1202.2)]))), (72, 16, 6, .c (dl eI v1204.1 v1204.2)), (72, 16, 8, .ap (s11_25 ++ [v1204]).length (rowO true 1 (eL eI) (s11_25 ++ [v1204]) true))] [] g4 (ob (o_b h1201) (ob (o_ia (e := (eL eI)) 1 h1203 rfl) (ob (znk k v1202 s11_14 _ h1205) (ob (o_ap (b := true) (z := 1) (e := (eL eI)) (l := s11_25) (w := true) v1204 (fun _ => rfl) h1206) (ob (o_ref true 1 (eL eI) (s11_25 ++ [v1204]) true) ob0))))) (by kernel_rfl)
 ·exact zqo [(72, 14, 2, .q (xb false))] [] g1 (ob (o_b h1201) ob0) (by kernel_rfl)
noncomputable def zUo (p0 : za) (p1 : Int) (s1_7 : (SL (SL Int))) (s1_8 : Int) (v704 : zt4) (s8_23 : (List (SL Int))) (s8_12 : Int) : TM := [(0, (.d (.agg (zb p0)))), (1, (xi p1)), (zsp 2), (4, (.d (.sl [] .nil))), (5, (.d (dl (eL eI) s1_7.1 s1_7.2))), (6, (xi s1_8)), (17, (xb true)), (zsp 7), (8, (xi v704.1)), (31, (xb v704.2)), (9, (.row 0 9 s8_23.length)), (10, (xi s8_12))]
noncomputable def zDj (p0 : za) (p1 : Int) (s1_7 : (SL (SL Int))) (s1_8 : Int) (v702 : zn) (v704 : zt4) (s8_12 : Int) (s8_23 : (List (SL Int))) : St := ⟨(zUo p0 p1 s1_7 s1_8 v704 s8_23 s8_12), ⟨[(zc 2 (zb p0)), (zc 7 (zh v702)), (9, (rowO true 1 (eL eI) s8_23 true))], []⟩, []⟩
noncomputable def zfo (p0 : za) (p1 : Int) (s1_7 : (SL (SL Int))) (s1_8 : Int) (v704 : zt4) (r : (Int × (List (SL Int)))) : TM := [(0, (.d (.agg (zb p0)))), (1, (xi p1)), (zsp 2), (4, (.d (.sl [] .nil))), (5, (.d (dl (eL eI) s1_7.1 s1_7.2))), (6, (xi s1_8)), (17, (xb true)), (zsp 7), (8, (xi v704.1)), (31, (xb v704.2)), (9, (.row 0 9 r.2.length)), (10, (xi r.1)), (38, (xb false))]
noncomputable def zie (p0 : za) (p1 : Int) (s1_7 : (SL (SL Int))) (s1_8 : Int) (v702 : zn) (v704 : zt4) (r : (Int × (List (SL Int)))) : St := ⟨(zfo p0 p1 s1_7 s1_8 v704 r), ⟨[(zc 2 (zb p0)), (zc 7 (zh v702)), (9, (rowO true 1 (eL eI) r.2 true))], []⟩, []⟩
noncomputable def zCj (p0 : za) (p1 : Int) (s1_7 : (SL (SL Int))) (s1_8 : Int) (v702 : zn) (v704 : zt4) : (Int × (List (SL Int))) → Ex × St := fun r => ((.exit 2), zie p0 p1 s1_7 s1_8 v702 v704 r)
theorem z6i (k : Nat) (p0 : za) (p1 : Int) (s1_7 : (SL (SL Int))) (s1_8 : Int) (v702 : zn) (v704 : zt4) (s8_12 : Int) (s8_23 : (List (SL Int))) (x : (Int × (List (SL Int))) ⊕ (Int × (List (SL Int)))) (h : zWb k p0 p1 s1_7 s1_8 v702 v704 s8_12 s8_23 = some x) : LoopOK TE 72 (blk TE 72 2) (fun s : (Int × (List (SL Int))) => zDj p0 p1 s1_7 s1_8 v702 v704 s.1 s.2) (zCj p0 p1 s1_7 s1_8 v702 v704) (s8_12, s8_23) x := by
 unfold zWb at h
 refine cond_ok h (fun h1101 g1 => ?_) (fun h1101 g1 => ?_)
 ·refine bind_ok g1 (fun v1102 h1103 g2 => ?_)
  exact zqn ((w64 (s8_12 + 1)), v1102.2) [9] [(72, 11, 2, .q (xi (s1_7.1.length : Int))), (72, 11, 3, .q (xb true))] [(72, 4, (.nor, zXd p0 p1 s1_7 s1_8 v702 v704 s8_12 v1102))] g2 (ob (o_len (eL eI) s1_7.1) (ob (o_b h1101) (ob (block_ok (id := 4) (r' := (.nor, zXd p0 p1 s1_7 s1_8 v702 v704 s8_12 v1102)) (zR (zPi k p0 p1 s1_7 s1_8 v702 v704 s8_12) k _ _ h1103) rfl) (ob (o_ref true 1 (eL eI) v1102.2 true) ob0)))) (by kernel_rfl)
 ·exact zqo [(72, 11, 2, .q (xi (s1_7.1.length : Int))), (72, 11, 3, .q (xb false))] [] g1 (ob (o_len (eL eI) s1_7.1) (ob (o_b h1101) ob0)) (by kernel_rfl)
noncomputable def zcp (p0 : za) (p1 : Int) (s1_7 : (SL (SL Int))) (s1_8 : Int) : TM := [(0, (.d (.agg (zb p0)))), (1, (xi p1)), (zsp 2), (4, (.d (.sl [] .nil))), (5, (.d (dl (eL eI) s1_7.1 s1_7.2))), (6, (xi s1_8))]
noncomputable def zqj (p0 : za) (p1 : Int) (s1_7 : (SL (SL Int))) (s1_8 : Int) : St := ⟨(zcp p0 p1 s1_7 s1_8), ⟨[(zc 2 (zb p0))], []⟩, []⟩
noncomputable def zgo (p0 : za) (p1 : Int) (r : ((SL (SL Int)) × Int)) : TM := [(0, (.d (.agg (zb p0)))), (1, (xi p1)), (zsp 2), (4, (.d (.sl [] .nil))), (5, (.d (dl (eL eI) r.1.1 r.1.2))), (6, (xi r.2)), (17, (xb false))]
noncomputable def zae (p0 : za) (p1 : Int) (r : ((SL (SL Int)) × Int)) : St := ⟨(zgo p0 p1 r), ⟨[(zc 2 (zb p0))], []⟩, []⟩
noncomputable def zzj (p0 : za) (p1 : Int) : ((SL (SL Int)) × Int) → Ex × St := fun r => ((.exit 0), zae p0 p1 r)
theorem z1i (k : Nat) (p0 : za) (p1 : Int) (s1_7 : (SL (SL Int))) (s1_8 : Int) (x : ((SL (SL Int)) × Int) ⊕ ((SL (SL Int)) × Int)) (h : zIc k p0 p1 s1_7 s1_8 = some x) : LoopOK TE 72 (blk TE 72 0) (fun s : ((SL (SL Int)) × Int) => zqj p0 p1 s.1 s.2) (zzj p0 p1) (s1_7, s1_8) x := by
 unfold zIc at h
 refine cond_ok h (fun h701 g1 => ?_) (fun h701 g1 => ?_)
 ·refine bind_ok g1 (fun v702 h703 g2 => ?_)
  refine bind_ok g2 (fun v704 h705 g3 => ?_)
  refine bind_ok g3 (fun v706 h707 g4 => ?_)
  exact zqn ((v706.2, (rcap true v706.2)), (w64 (s1_8 + 1))) [] [(72, 3, 3, .q (xi (p0.Deliveries.1.length : Int))), (72, 3, 4, .q (xb true)), (72, 5, 3, .q (.d (.pin (zh v702)))), (72, 17, 1, .fz (dl (eL eI) v706.2 (rcap true v706.2)) (rowO true 1 (eL eI) v706.2 false))] [(72, 2000031, (.nor, z4c p0 p1 s1_7 s1_8 v702 (v702.Shelf != p1) v704)), (72, 2, (.nor, zie p0 p1 s1_7 s1_8 v702 v704 v706))] g4 (ob (o_len zh p0.Deliveries.1) (ob (o_b h701) (ob (o_ia (e := zh) 5 h703 rfl) (ob (zcj k p0 p1 s1_7 s1_8 v702 (v702.Shelf != p1) _ h705) (ob (block_ok (id := 2) (r' := (.nor, zie p0 p1 s1_7 s1_8 v702 v704 v706)) (zR (z6i k p0 p1 s1_7 s1_8 v702 v704) k _ _ h707) rfl) (ob (o_cr true 1 (eL eI) v706.2 true 0 9) ob0)))))) (by kernel_rfl)
 ·exact zqo [(72, 3, 3, .q (xi (p0.Deliveries.1.length : Int))), (72, 3, 4, .q (xb false))] [] g1 (ob (o_len zh p0.Deliveries.1) (ob (o_b h701) ob0)) (by kernel_rfl)
theorem zjk (k : Nat) (p0 : za) (p1 : Int) (r : (SL (SL Int))) (h : zsd k p0 p1 = some r) : callP TE (ev TE) 72 [(.agg (zb p0)), (di p1)] = some (zTg r) := by
 unfold zsd at h
 refine bind_ok h (fun v1 h2 g1 => ?_)
 exact fin_ok (g := zTg) g1 (zqc [] [(72, 0, (.nor, zae p0 p1 v1))] (ob (block_ok (id := 0) (r' := (.nor, zae p0 p1 v1)) (zR (z1i k p0 p1) k _ _ h2) rfl) ob0) (by kernel_rfl))
theorem zF (k : Nat) (p0 p1 : Int) (r : zi) (h : zK k p0 p1 = some r) : callP TE (ev TE) 42 [(di p0), (di p1)] = some (zPh r) := by
 unfold zK at h
 exact fin_ok (g := zPh) h (zqc [] [] ob0 (by kernel_rfl))
theorem zvf (k : Nat) (p0 p1 : Int) (r : Bool) (h : zgd k p0 p1 = some r) : callP TE (ev TE) 80 [(di p0), (di p1)] = some (zVh r) := by
 unfold zgd at h
 refine cond_ok h (fun h1 g1 => ?_) (fun h1 g1 => ?_)
 ·cases g1
 ·exact fin_ok (g := zVh) g1 (zqc [(80, 1, 2, .q (xi (shr64 p0 p1)))] [] (ob (o_shr (x := p0) h1) ob0) (by kernel_rfl))
theorem z2c (k : Nat) (p0 p1 r : zi) (h : zBb k p0 p1 = some r) : callP TE (ev TE) 69 [(.agg [(di p0.Low), (di p0.High)]), (.agg [(di p1.Low), (di p1.High)])] = some (zwg r) := by
 unfold zBb at h
 refine bind_ok h (fun v1 h2 g1 => ?_)
 exact fin_ok (g := zwg) g1 (zqc [(69, 1, 10, .c (.agg [(di v1.Low), (di v1.High)]))] [] (ob (zF k (if p1.Low > p0.Low then p1.Low else p0.Low) (if p1.High < p0.High then p1.High else p0.High) _ h2) ob0) (by kernel_rfl))
noncomputable def z5n (p0 : za) (p1 p2 p3 s1_8 : Int) (r : Bool) : TM := [(0, (.d (.agg (zb p0)))), (1, (xi p1)), (2, (xi p2)), (3, (xi p3)), (zsp 4), (zsp 8), (zsp 9), (10, (xi s1_8)), (23, (xb true)), (zsp 11), (46, (xb r))]
noncomputable def zHb (p0 : za) (p1 p2 p3 s1_8 s1_16 s1_17 : Int) (v402 : zp) (r : Bool) : St := ⟨(z5n p0 p1 p2 p3 s1_8 r), ⟨[(zc 4 (zb p0)), (8, (.cells [(xi 0), (xi 0)])), (9, (.cells [(xi s1_16), (xi s1_17)])), (zc 11 (zj v402))], []⟩, []⟩
noncomputable def zgm (p0 : za) (p1 p2 p3 s1_8 : Int) : TM := [(0, (.d (.agg (zb p0)))), (1, (xi p1)), (2, (xi p2)), (3, (xi p3)), (zsp 4), (zsp 8), (zsp 9), (10, (xi s1_8)), (23, (xb true)), (zsp 11)]
theorem zzh (k : Nat) (p0 : za) (p1 p2 p3 s1_8 s1_16 s1_17 : Int) (v402 : zp) (r : Bool) (h : zUc k p0 p1 p2 p3 s1_8 s1_16 s1_17 v402 = some r) : ev TE 89 (rgn TE 89 6) ⟨(zgm p0 p1 p2 p3 s1_8), ⟨[(zc 4 (zb p0)), (8, (.cells [(xi 0), (xi 0)])), (9, (.cells [(xi s1_16), (xi s1_17)])), (zc 11 (zj v402))], []⟩, []⟩ = some (.nor, zHb p0 p1 p2 p3 s1_8 s1_16 s1_17 v402 r) := by
 unfold zUc at h
 refine cond_ok h (fun h501 g1 => ?_) (fun h501 g1 => ?_)
 ·refine cond_ok g1 (fun h502 g2 => ?_) (fun h502 g2 => ?_)
  ·refine bind_ok g2 (fun v503 h504 g3 => ?_)
   exact fin2_ok (g := fun r => (Ex.nor, zHb p0 p1 p2 p3 s1_8 s1_16 s1_17 v402 r)) g3 (zqe [(89, 6, 4, .q (xb true)), (89, 6, 10, .q (xb true)), (89, 6, 13, .c (db v503))] [] (ob (o_b h501) (ob (o_b h502) (ob (zvf k p3 s1_8 _ h504) ob0))) (by kernel_rfl))
  ·exact fin2_ok (g := fun r => (Ex.nor, zHb p0 p1 p2 p3 s1_8 s1_16 s1_17 v402 r)) g2 (zqe [(89, 6, 4, .q (xb true)), (89, 6, 10, .q (xb false))] [] (ob (o_b h501) (ob (o_b h502) ob0)) (by kernel_rfl))
 ·exact fin2_ok (g := fun r => (Ex.nor, zHb p0 p1 p2 p3 s1_8 s1_16 s1_17 v402 r)) g1 (zqe [(89, 6, 4, .q (xb false))] [] (ob (o_b h501) ob0) (by kernel_rfl))
noncomputable def zxc (p0 : za) (p1 p2 p3 s1_8 s1_16 s1_17 : Int) (v402 : zp) (v404 : Bool) (r : (Bool × Int × Int)) : St := ⟨(zgm p0 p1 p2 p3 s1_8 ++ [(46, (xb r.1))]), ⟨[(zc 4 (zb p0)), (8, (.cells [(xi 0), (xi 0)])), (9, (.cells [(xi r.2.1), (xi r.2.2)])), (zc 11 (zj v402))], []⟩, []⟩
theorem zBh (k : Nat) (p0 : za) (p1 p2 p3 s1_8 s1_16 s1_17 : Int) (v402 : zp) (v404 : Bool) (r : (Bool × Int × Int)) (h : zbb k p0 p1 p2 p3 s1_8 s1_16 s1_17 v402 v404 = some r) : ev TE 89 (cnd TE 89 46) ⟨(zgm p0 p1 p2 p3 s1_8 ++ [(46, (xb v404))]), ⟨[(zc 4 (zb p0)), (8, (.cells [(xi 0), (xi 0)])), (9, (.cells [(xi s1_16), (xi s1_17)])), (zc 11 (zj v402))], []⟩, []⟩ = some (.nor, zxc p0 p1 p2 p3 s1_8 s1_16 s1_17 v402 v404 r) := by
 unfold zbb at h
 refine cond_ok h (fun h601 g1 => ?_) (fun h601 g1 => ?_)
 ·subst h601
  refine bind_ok g1 (fun v602 h603 g2 => ?_)
  refine bind_ok g2 (fun v604 h605 g3 => ?_)
  exact fin2_ok (g := fun r => (Ex.nor, zxc p0 p1 p2 p3 s1_8 s1_16 s1_17 v402 true r)) g3 (zqe [(89, 7, 11, .c (.agg [(di v602.Low), (di v602.High)])), (89, 7, 12, .c (.agg [(di v604.Low), (di v604.High)]))] [] (ob (zF k (w64 (v402.Read - v402.Err)) (w64 (v402.Read + v402.Err)) _ h603) (ob (z2c k (⟨s1_16, s1_17⟩ : zi) v602 _ h605) ob0)) (by kernel_rfl))
 ·subst h601
  exact fin2_ok (g := fun r => (Ex.nor, zxc p0 p1 p2 p3 s1_8 s1_16 s1_17 v402 false r)) g1 (zqe [] [] ob0 (by kernel_rfl))
noncomputable def z1o (p0 : za) (p1 p2 p3 s1_8 : Int) : TM := [(0, (.d (.agg (zb p0)))), (1, (xi p1)), (2, (xi p2)), (3, (xi p3)), (zsp 4), (zsp 8), (zsp 9), (10, (xi s1_8))]
noncomputable def z4h (p0 : za) (p1 p2 p3 s1_8 s1_16 s1_17 : Int) : St := ⟨(z1o p0 p1 p2 p3 s1_8), ⟨[(zc 4 (zb p0)), (8, (.cells [(xi 0), (xi 0)])), (9, (.cells [(xi s1_16), (xi s1_17)]))], []⟩, []⟩
noncomputable def zZo (p0 : za) (p1 p2 p3 : Int) (r : (Int × Int × Int)) : TM := [(0, (.d (.agg (zb p0)))), (1, (xi p1)), (2, (xi p2)), (3, (xi p3)), (zsp 4), (zsp 8), (zsp 9), (10, (xi r.1)), (23, (xb false))]
noncomputable def zwd (p0 : za) (p1 p2 p3 : Int) (r : (Int × Int × Int)) : St := ⟨(zZo p0 p1 p2 p3 r), ⟨[(zc 4 (zb p0)), (8, (.cells [(xi 0), (xi 0)])), (9, (.cells [(xi r.2.1), (xi r.2.2)]))], []⟩, []⟩
noncomputable def zdi (p0 : za) (p1 p2 p3 : Int) : (Int × Int × Int) → Ex × St := fun r => ((.exit 0), zwd p0 p1 p2 p3 r)
theorem zQh (k : Nat) (p0 : za) (p1 p2 p3 s1_8 s1_16 s1_17 : Int) (x : (Int × Int × Int) ⊕ (Int × Int × Int)) (h : z4b k p0 p1 p2 p3 s1_8 s1_16 s1_17 = some x) : LoopOK TE 89 (blk TE 89 0) (fun s : (Int × Int × Int) => z4h p0 p1 p2 p3 s.1 s.2.1 s.2.2) (zdi p0 p1 p2 p3) (s1_8, s1_16, s1_17) x := by
 unfold z4b at h
 refine cond_ok h (fun h401 g1 => ?_) (fun h401 g1 => ?_)
 ·refine bind_ok g1 (fun v402 h403 g2 => ?_)
  refine bind_ok g2 (fun v404 h405 g3 => ?_)
  refine bind_ok g3 (fun v406 h407 g4 => ?_)
  exact zqn ((w64 (s1_8 + 1)), v406.2.1, v406.2.2) [] [(89, 3, 3, .q (xi (p0.Counts.1.length : Int))), (89, 3, 4, .q (xb true)), (89, 5, 3, .q (.d (.pin (zj v402))))] [(89, 1000006, (.nor, zHb p0 p1 p2 p3 s1_8 s1_16 s1_17 v402 v404)), (89, 2000046, (.nor, zxc p0 p1 p2 p3 s1_8 s1_16 s1_17 v402 v404 v406))] g4 (ob (o_len zj p0.Counts.1) (ob (o_b h401) (ob (o_ia (e := zj) 4 h403 rfl) (ob (zzh k p0 p1 p2 p3 s1_8 s1_16 s1_17 v402 _ h405) (ob (zBh k p0 p1 p2 p3 s1_8 s1_16 s1_17 v402 v404 _ h407) ob0))))) (by kernel_rfl)
 ·exact zqo [(89, 3, 3, .q (xi (p0.Counts.1.length : Int))), (89, 3, 4, .q (xb false))] [] g1 (ob (o_len zj p0.Counts.1) (ob (o_b h401) ob0)) (by kernel_rfl)
theorem zbj (k : Nat) (p0 : za) (p1 p2 p3 : Int) (r : zi) (h : zFc k p0 p1 p2 p3 = some r) : callP TE (ev TE) 89 [(.agg (zb p0)), (di p1), (di p2), (di p3)] = some (zdg r) := by
 unfold zFc at h
 refine bind_ok h (fun v1 h2 g1 => ?_)
 refine bind_ok g1 (fun v3 h4 g2 => ?_)
 refine bind_ok g2 (fun v5 h6 g3 => ?_)
 exact fin_ok (g := zdg) g3 (zqc [(89, 1, 3, .q (.d (.pin (zk v1)))), (89, 1, 6, .c (.agg [(di v3.Low), (di v3.High)]))] [(89, 0, (.nor, zwd p0 p1 p2 p3 v5))] (ob (o_ia (e := zk) 3 h2 rfl) (ob (zF k 0 v1.Room _ h4) (ob (block_ok (id := 0) (r' := (.nor, zwd p0 p1 p2 p3 v5)) (zhm (zQh k p0 p1 p2 p3) k _ _ h6) rfl) ob0))) (by kernel_rfl))
noncomputable def zNo (p0 : za) (p1 : Int) (p2 : (SL Int)) (p3 : Int) (s24_17 : zt7) (s1_9 s24_11 : Int) (r : Bool) : TM := [(0, (.d (.agg (zb p0)))), (1, (xi p1)), (2, (.d (dl eI p2.1 p2.2))), (3, (xi p3)), (zsp 4), (8, (.d (.sl [] .nil))), (9, (.row 0 9 s24_17.length)), (zsp 10), (11, (xi s1_9)), (27, (xb true)), (12, (xi s24_11)), (34, (xb true)), (zsp 13), (53, (xb r))]
noncomputable def zwc (p0 : za) (p1 : Int) (p2 : (SL Int)) (p3 : Int) (v3 : zi) (s1_9 s24_11 : Int) (s24_17 : zt7) (v2702 : zn) (r : Bool) : St := ⟨(zNo p0 p1 p2 p3 s24_17 s1_9 s24_11 r), ⟨[(zc 4 (zb p0)), (9, (rowO true 6 zt s24_17 true)), (10, (.cells [(xi v3.Low), (xi v3.High)])), (zc 13 (zh v2702))], []⟩, []⟩
noncomputable def zom (p0 : za) (p1 : Int) (p2 : (SL Int)) (p3 : Int) (s24_17 : zt7) (s1_9 s24_11 : Int) : TM := [(0, (.d (.agg (zb p0)))), (1, (xi p1)), (2, (.d (dl eI p2.1 p2.2))), (3, (xi p3)), (zsp 4), (8, (.d (.sl [] .nil))), (9, (.row 0 9 s24_17.length)), (zsp 10), (11, (xi s1_9)), (27, (xb true)), (12, (xi s24_11)), (34, (xb true)), (zsp 13)]
theorem zEh (k : Nat) (p0 : za) (p1 : Int) (p2 : (SL Int)) (p3 : Int) (v3 : zi) (s1_9 s24_11 : Int) (s24_17 : zt7) (v2702 : zn) (r : Bool) (h : zWc k p0 p1 p2 p3 v3 s1_9 s24_11 s24_17 v2702 = some r) : ev TE 73 (rgn TE 73 10) ⟨(zom p0 p1 p2 p3 s24_17 s1_9 s24_11), ⟨[(zc 4 (zb p0)), (9, (rowO true 6 zt s24_17 true)), (10, (.cells [(xi v3.Low), (xi v3.High)])), (zc 13 (zh v2702))], []⟩, []⟩ = some (.nor, zwc p0 p1 p2 p3 v3 s1_9 s24_11 s24_17 v2702 r) := by
 unfold zWc at h
 refine cond_ok h (fun h2801 g1 => ?_) (fun h2801 g1 => ?_)
 ·refine bind_ok g1 (fun v2802 h2803 g2 => ?_)
  exact fin2_ok (g := fun r => (Ex.nor, zwc p0 p1 p2 p3 v3 s1_9 s24_11 s24_17 v2702 r)) g2 (zqe [(73, 10, 4, .q (xb true)), (73, 10, 7, .q (.d (.pin [(di v2802)])))] [] (ob (o_b h2801) (ob (o_ia (e := eI) 1 h2803 rfl) ob0)) (by kernel_rfl))
 ·exact fin2_ok (g := fun r => (Ex.nor, zwc p0 p1 p2 p3 v3 s1_9 s24_11 s24_17 v2702 r)) g1 (zqe [(73, 10, 4, .q (xb false))] [] (ob (o_b h2801) ob0) (by kernel_rfl))
noncomputable def zOo (p0 : za) (p1 : Int) (p2 : (SL Int)) (p3 : Int) (r : (Bool × (List zr))) (s1_9 s24_11 : Int) : TM := [(0, (.d (.agg (zb p0)))), (1, (xi p1)), (2, (.d (dl eI p2.1 p2.2))), (3, (xi p3)), (zsp 4), (8, (.d (.sl [] .nil))), (9, (.row 0 9 r.2.length)), (zsp 10), (11, (xi s1_9)), (27, (xb true)), (12, (xi s24_11)), (34, (xb true)), (zsp 13), (53, (xb r.1))]
noncomputable def zzc (p0 : za) (p1 : Int) (p2 : (SL Int)) (p3 : Int) (v3 : zi) (s1_9 s24_11 : Int) (s24_17 : zt7) (v2702 : zn) (v2704 : Bool) (r : (Bool × (List zr))) : St := ⟨(zOo p0 p1 p2 p3 r s1_9 s24_11), ⟨[(zc 4 (zb p0)), (9, (rowO true 6 zt r.2 true)), (10, (.cells [(xi v3.Low), (xi v3.High)])), (zc 13 (zh v2702))], []⟩, []⟩
theorem zCh (k : Nat) (p0 : za) (p1 : Int) (p2 : (SL Int)) (p3 : Int) (v3 : zi) (s1_9 s24_11 : Int) (s24_17 : zt7) (v2702 : zn) (v2704 : Bool) (r : (Bool × (List zr))) (h : ztb k p0 p1 p2 p3 v3 s1_9 s24_11 s24_17 v2702 v2704 = some r) : ev TE 73 (cnd TE 73 53) ⟨(zom p0 p1 p2 p3 s24_17 s1_9 s24_11 ++ [(53, (xb v2704))]), ⟨[(zc 4 (zb p0)), (9, (rowO true 6 zt s24_17 true)), (10, (.cells [(xi v3.Low), (xi v3.High)])), (zc 13 (zh v2702))], []⟩, []⟩ = some (.nor, zzc p0 p1 p2 p3 v3 s1_9 s24_11 s24_17 v2702 v2704 r) := by
 unfold ztb at h
 refine cond_ok h (fun h2901 g1 => ?_) (fun h2901 g1 => ?_)
 ·subst h2901
  refine guard_ok g1 (fun h2902 g2 => ?_)
  exact fin2_ok (g := fun r => (Ex.nor, zzc p0 p1 p2 p3 v3 s1_9 s24_11 s24_17 v2702 true r)) g2 (zqe [(73, 11, 6, .ap (s24_17 ++ [(⟨v2702.By, v3, (-1), (-1)⟩ : zr)]).length (rowO true 6 zt (s24_17 ++ [(⟨v2702.By, v3, (-1), (-1)⟩ : zr)]) true))] [] (ob (o_ap (b := true) (z := 6) (e := zt) (l := s24_17) (w := true) (⟨v2702.By, v3, (-1), (-1)⟩ : zr) (fun _ => rfl) h2902) ob0) (by kernel_rfl))
 ·subst h2901
  exact fin2_ok (g := fun r => (Ex.nor, zzc p0 p1 p2 p3 v3 s1_9 s24_11 s24_17 v2702 false r)) g1 (zqe [] [] ob0 (by kernel_rfl))
noncomputable def zHo (p0 : za) (p1 : Int) (p2 : (SL Int)) (p3 : Int) (s24_17 : zt7) (s1_9 s24_11 : Int) : TM := [(0, (.d (.agg (zb p0)))), (1, (xi p1)), (2, (.d (dl eI p2.1 p2.2))), (3, (xi p3)), (zsp 4), (8, (.d (.sl [] .nil))), (9, (.row 0 9 s24_17.length)), (zsp 10), (11, (xi s1_9)), (27, (xb true)), (12, (xi s24_11))]
noncomputable def z8h (p0 : za) (p1 : Int) (p2 : (SL Int)) (p3 : Int) (v3 : zi) (s1_9 s24_11 : Int) (s24_17 : zt7) : St := ⟨(zHo p0 p1 p2 p3 s24_17 s1_9 s24_11), ⟨[(zc 4 (zb p0)), (9, (rowO true 6 zt s24_17 true)), (10, (.cells [(xi v3.Low), (xi v3.High)]))], []⟩, []⟩
noncomputable def zyo (p0 : za) (p1 : Int) (p2 : (SL Int)) (p3 : Int) (r : zt9) (s1_9 : Int) : TM := [(0, (.d (.agg (zb p0)))), (1, (xi p1)), (2, (.d (dl eI p2.1 p2.2))), (3, (xi p3)), (zsp 4), (8, (.d (.sl [] .nil))), (9, (.row 0 9 r.2.length)), (zsp 10), (11, (xi s1_9)), (27, (xb true)), (12, (xi r.1)), (34, (xb false))]
noncomputable def zrd (p0 : za) (p1 : Int) (p2 : (SL Int)) (p3 : Int) (v3 : zi) (s1_9 : Int) (r : zt9) : St := ⟨(zyo p0 p1 p2 p3 r s1_9), ⟨[(zc 4 (zb p0)), (9, (rowO true 6 zt r.2 true)), (10, (.cells [(xi v3.Low), (xi v3.High)]))], []⟩, []⟩
noncomputable def zai (p0 : za) (p1 : Int) (p2 : (SL Int)) (p3 : Int) (v3 : zi) (s1_9 : Int) : (Int × (List zr)) → Ex × St := fun r => ((.exit 2), zrd p0 p1 p2 p3 v3 s1_9 r)
theorem zGh (k : Nat) (p0 : za) (p1 : Int) (p2 : (SL Int)) (p3 : Int) (v3 : zi) (s1_9 s24_11 : Int) (s24_17 : zt7) (x : (Int × (List zr)) ⊕ (Int × (List zr))) (h : zvb k p0 p1 p2 p3 v3 s1_9 s24_11 s24_17 = some x) : LoopOK TE 73 (blk TE 73 2) (fun s : (Int × (List zr)) => z8h p0 p1 p2 p3 v3 s1_9 s.1 s.2) (zai p0 p1 p2 p3 v3 s1_9) (s24_11, s24_17) x := by
 unfold zvb at h
 refine cond_ok h (fun h2701 g1 => ?_) (fun h2701 g1 => ?_)
 ·refine bind_ok g1 (fun v2702 h2703 g2 => ?_)
  refine bind_ok g2 (fun v2704 h2705 g3 => ?_)
  refine bind_ok g3 (fun v2706 h2707 g4 => ?_)
  exact zqn ((w64 (s24_11 + 1)), v2706.2) [9] [(73, 7, 3, .q (xi (p0.Deliveries.1.length : Int))), (73, 7, 4, .q (xb true)), (73, 9, 3, .q (.d (.pin (zh v2702))))] [(73, 1000010, (.nor, zwc p0 p1 p2 p3 v3 s1_9 s24_11 s24_17 v2702 v2704)), (73, 2000053, (.nor, zzc p0 p1 p2 p3 v3 s1_9 s24_11 s24_17 v2702 v2704 v2706))] g4 (ob (o_len zh p0.Deliveries.1) (ob (o_b h2701) (ob (o_ia (e := zh) 5 h2703 rfl) (ob (zEh k p0 p1 p2 p3 v3 s1_9 s24_11 s24_17 v2702 _ h2705) (ob (zCh k p0 p1 p2 p3 v3 s1_9 s24_11 s24_17 v2702 v2704 _ h2707) (ob (o_ref true 6 zt v2706.2 true) ob0)))))) (by kernel_rfl)
 ·exact zqo [(73, 7, 3, .q (xi (p0.Deliveries.1.length : Int))), (73, 7, 4, .q (xb false))] [] g1 (ob (o_len zh p0.Deliveries.1) (ob (o_b h2701) ob0)) (by kernel_rfl)
noncomputable def zHm (p0 : za) (p1 : Int) (p2 : (SL Int)) (p3 : Int) (s29_19 : zt7) (s1_9 : Int) (v2402 : zt9) (s29_13 : Int) (r : Bool) : TM := [(0, (.d (.agg (zb p0)))), (1, (xi p1)), (2, (.d (dl eI p2.1 p2.2))), (3, (xi p3)), (zsp 4), (8, (.d (.sl [] .nil))), (9, (.row 0 9 s29_19.length)), (zsp 10), (11, (xi s1_9)), (27, (xb true)), (12, (xi v2402.1)), (34, (xb false)), (14, (xi s29_13)), (65, (xb true)), (zsp 15), (82, (xb r))]
noncomputable def zCb (p0 : za) (p1 : Int) (p2 : (SL Int)) (p3 : Int) (v3 : zi) (s1_9 : Int) (v2402 : zt9) (s29_13 : Int) (s29_19 : zt7) (v3202 : zy) (r : Bool) : St := ⟨(zHm p0 p1 p2 p3 s29_19 s1_9 v2402 s29_13 r), ⟨[(zc 4 (zb p0)), (9, (rowO true 6 zt s29_19 true)), (10, (.cells [(xi v3.Low), (xi v3.High)])), (zc 15 (zl v3202))], []⟩, []⟩
noncomputable def zbm (p0 : za) (p1 : Int) (p2 : (SL Int)) (p3 : Int) (s29_19 : zt7) (s1_9 : Int) (v2402 : zt9) (s29_13 : Int) : TM := [(0, (.d (.agg (zb p0)))), (1, (xi p1)), (2, (.d (dl eI p2.1 p2.2))), (3, (xi p3)), (zsp 4), (8, (.d (.sl [] .nil))), (9, (.row 0 9 s29_19.length)), (zsp 10), (11, (xi s1_9)), (27, (xb true)), (12, (xi v2402.1)), (34, (xb false)), (14, (xi s29_13)), (65, (xb true)), (zsp 15)]
theorem zef (k : Nat) (p0 : za) (p1 : Int) (p2 : (SL Int)) (p3 : Int) (v3 : zi) (s1_9 : Int) (v2402 : zt9) (s29_13 : Int) (s29_19 : zt7) (v3202 : zy) (r : Bool) (h : zTc k p0 p1 p2 p3 v3 s1_9 v2402 s29_13 s29_19 v3202 = some r) : ev TE 73 (rgn TE 73 16) ⟨(zbm p0 p1 p2 p3 s29_19 s1_9 v2402 s29_13), ⟨[(zc 4 (zb p0)), (9, (rowO true 6 zt s29_19 true)), (10, (.cells [(xi v3.Low), (xi v3.High)])), (zc 15 (zl v3202))], []⟩, []⟩ = some (.nor, zCb p0 p1 p2 p3 v3 s1_9 v2402 s29_13 s29_19 v3202 r) := by
 unfold zTc at h
 refine cond_ok h (fun h3301 g1 => ?_) (fun h3301 g1 => ?_)
 ·exact fin2_ok (g := fun r => (Ex.nor, zCb p0 p1 p2 p3 v3 s1_9 v2402 s29_13 s29_19 v3202 r)) g1 (zqe [(73, 16, 4, .q (xb true))] [] (ob (o_b h3301) ob0) (by kernel_rfl))
 ·exact fin2_ok (g := fun r => (Ex.nor, zCb p0 p1 p2 p3 v3 s1_9 v2402 s29_13 s29_19 v3202 r)) g1 (zqe [(73, 16, 4, .q (xb false))] [] (ob (o_b h3301) ob0) (by kernel_rfl))
noncomputable def zBc (p0 : za) (p1 : Int) (p2 : (SL Int)) (p3 : Int) (v3 : zi) (s1_9 : Int) (v2402 : zt9) (s29_13 : Int) (s29_19 : zt7) (v3202 : zy) (cb : Bool) (r : (Bool × Int × Int)) : St := ⟨(zbm p0 p1 p2 p3 s29_19 s1_9 v2402 s29_13 ++ [(82, (xb false)), (zsp 16), (87, (xb r.1))]), ⟨[(zc 4 (zb p0)), (9, (rowO true 6 zt s29_19 true)), (10, (.cells [(xi v3.Low), (xi v3.High)])), (zc 15 (zl v3202)), (16, (.cells [(xi r.2.1), (xi r.2.2)]))], []⟩, []⟩
theorem zwh (k : Nat) (p0 : za) (p1 : Int) (p2 : (SL Int)) (p3 : Int) (v3 : zi) (s1_9 : Int) (v2402 : zt9) (s29_13 : Int) (s29_19 : zt7) (v3202 : zy) (cb : Bool) (r : (Bool × Int × Int)) (h : z3b k p0 p1 p2 p3 v3 s1_9 v2402 s29_13 s29_19 v3202 cb = some r) : ev TE 73 (cnd TE 73 87) ⟨(zbm p0 p1 p2 p3 s29_19 s1_9 v2402 s29_13 ++ [(82, (xb false)), (zsp 16), (87, (xb cb))]), ⟨[(zc 4 (zb p0)), (9, (rowO true 6 zt s29_19 true)), (10, (.cells [(xi v3.Low), (xi v3.High)])), (zc 15 (zl v3202)), (16, (.cells [(xi v3202.By.Low), (xi v3202.By.High)]))], []⟩, []⟩ = some (.nor, zBc p0 p1 p2 p3 v3 s1_9 v2402 s29_13 s29_19 v3202 cb r) := by
 unfold z3b at h
 refine cond_ok h (fun h3401 g1 => ?_) (fun h3401 g1 => ?_)
 ·subst h3401
  refine bind_ok g1 (fun v3402 h3403 g2 => ?_)
  exact fin2_ok (g := fun r => (Ex.nor, zBc p0 p1 p2 p3 v3 s1_9 v2402 s29_13 s29_19 v3202 true r)) g2 (zqe [(73, 19, 6, .c (.agg [(di v3402.Low), (di v3402.High)]))] [] (ob (zF k (w64 (0 - v3202.By.High)) (w64 (0 - v3202.By.Low)) _ h3403) ob0) (by kernel_rfl))
 ·subst h3401
  exact fin2_ok (g := fun r => (Ex.nor, zBc p0 p1 p2 p3 v3 s1_9 v2402 s29_13 s29_19 v3202 false r)) g1 (zqe [] [] ob0 (by kernel_rfl))
noncomputable def z5m (p0 : za) (p1 : Int) (p2 : (SL Int)) (p3 : Int) (s29_19 : zt7) (s1_9 : Int) (v2402 : zt9) (s29_13 : Int) : TM := [(0, (.d (.agg (zb p0)))), (1, (xi p1)), (2, (.d (dl eI p2.1 p2.2))), (3, (xi p3)), (zsp 4), (8, (.d (.sl [] .nil))), (9, (.row 0 9 s29_19.length)), (zsp 10), (11, (xi s1_9)), (27, (xb true)), (12, (xi v2402.1)), (34, (xb false)), (14, (xi s29_13))]
noncomputable def z1h (p0 : za) (p1 : Int) (p2 : (SL Int)) (p3 : Int) (v3 : zi) (s1_9 : Int) (v2402 : zt9) (s29_13 : Int) (s29_19 : zt7) : St := ⟨(z5m p0 p1 p2 p3 s29_19 s1_9 v2402 s29_13), ⟨[(zc 4 (zb p0)), (9, (rowO true 6 zt s29_19 true)), (10, (.cells [(xi v3.Low), (xi v3.High)]))], []⟩, []⟩
noncomputable def zln (p0 : za) (p1 : Int) (p2 : (SL Int)) (p3 : Int) (r : zt9) (s1_9 : Int) (v2402 : zt9) : TM := [(0, (.d (.agg (zb p0)))), (1, (xi p1)), (2, (.d (dl eI p2.1 p2.2))), (3, (xi p3)), (zsp 4), (8, (.d (.sl [] .nil))), (9, (.row 0 9 r.2.length)), (zsp 10), (11, (xi s1_9)), (27, (xb true)), (12, (xi v2402.1)), (34, (xb false)), (14, (xi r.1)), (65, (xb false))]
noncomputable def ztd (p0 : za) (p1 : Int) (p2 : (SL Int)) (p3 : Int) (v3 : zi) (s1_9 : Int) (v2402 r : zt9) : St := ⟨(zln p0 p1 p2 p3 r s1_9 v2402), ⟨[(zc 4 (zb p0)), (9, (rowO true 6 zt r.2 true)), (10, (.cells [(xi v3.Low), (xi v3.High)]))], []⟩, []⟩
noncomputable def zYh (p0 : za) (p1 : Int) (p2 : (SL Int)) (p3 : Int) (v3 : zi) (s1_9 : Int) (v2402 : zt9) : (Int × (List zr)) → Ex × St := fun r => ((.exit 4), ztd p0 p1 p2 p3 v3 s1_9 v2402 r)
theorem zLh (k : Nat) (p0 : za) (p1 : Int) (p2 : (SL Int)) (p3 : Int) (v3 : zi) (s1_9 : Int) (v2402 : zt9) (s29_13 : Int) (s29_19 : zt7) (x : (Int × (List zr)) ⊕ (Int × (List zr))) (h : zqb k p0 p1 p2 p3 v3 s1_9 v2402 s29_13 s29_19 = some x) : LoopOK TE 73 (blk TE 73 4) (fun s : (Int × (List zr)) => z1h p0 p1 p2 p3 v3 s1_9 v2402 s.1 s.2) (zYh p0 p1 p2 p3 v3 s1_9 v2402) (s29_13, s29_19) x := by
 unfold zqb at h
 refine cond_ok h (fun h3201 g1 => ?_) (fun h3201 g1 => ?_)
 ·refine bind_ok g1 (fun v3202 h3203 g2 => ?_)
  refine bind_ok g2 (fun v3204 h3205 g3 => ?_)
  refine cond_ok g3 (fun h3206 g4 => ?_) (fun h3206 g4 => ?_)
  ·subst h3206
   exact zqn ((w64 (s29_13 + 1)), s29_19) [9] [(73, 13, 3, .q (xi (p0.Moves.1.length : Int))), (73, 13, 4, .q (xb true)), (73, 15, 3, .q (.d (.pin (zl v3202))))] [(73, 1000016, (.nor, zCb p0 p1 p2 p3 v3 s1_9 v2402 s29_13 s29_19 v3202 true))] g4 (ob (o_len zl p0.Moves.1) (ob (o_b h3201) (ob (o_ia (e := zl) 5 h3203 rfl) (ob (zef k p0 p1 p2 p3 v3 s1_9 v2402 s29_13 s29_19 v3202 _ h3205) (ob (o_ref true 6 zt s29_19 true) ob0))))) (by kernel_rfl)
  ·subst h3206
   refine bind_ok g4 (fun v3207 h3208 g5 => ?_)
   refine guard_ok g5 (fun h3209 g6 => ?_)
   exact zqn ((w64 (s29_13 + 1)), (s29_19 ++ [(⟨(⟨v3207.2.1, v3207.2.2⟩ : zi), v3, s29_13, (-1)⟩ : zr)])) [9] [(73, 13, 3, .q (xi (p0.Moves.1.length : Int))), (73, 13, 4, .q (xb true)), (73, 15, 3, .q (.d (.pin (zl v3202)))), (73, 20, 6, .ap (s29_19 ++ [(⟨(⟨v3207.2.1, v3207.2.2⟩ : zi), v3, s29_13, (-1)⟩ : zr)]).length (rowO true 6 zt (s29_19 ++ [(⟨(⟨v3207.2.1, v3207.2.2⟩ : zi), v3, s29_13, (-1)⟩ : zr)]) true))] [(73, 1000016, (.nor, zCb p0 p1 p2 p3 v3 s1_9 v2402 s29_13 s29_19 v3202 false)), (73, 2000087, (.nor, zBc p0 p1 p2 p3 v3 s1_9 v2402 s29_13 s29_19 v3202 (!v3202.Back) v3207))] g6 (ob (o_len zl p0.Moves.1) (ob (o_b h3201) (ob (o_ia (e := zl) 5 h3203 rfl) (ob (zef k p0 p1 p2 p3 v3 s1_9 v2402 s29_13 s29_19 v3202 _ h3205) (ob (zwh k p0 p1 p2 p3 v3 s1_9 v2402 s29_13 s29_19 v3202 (!v3202.Back) _ h3208) (ob (o_ap (b := true) (z := 6) (e := zt) (l := s29_19) (w := true) (⟨(⟨v3207.2.1, v3207.2.2⟩ : zi), v3, s29_13, (-1)⟩ : zr) (fun _ => rfl) h3209) (ob (o_ref true 6 zt (s29_19 ++ [(⟨(⟨v3207.2.1, v3207.2.2⟩ : zi), v3, s29_13, (-1)⟩ : zr)]) true) ob0))))))) (by kernel_rfl)
 ·exact zqo [(73, 13, 3, .q (xi (p0.Moves.1.length : Int))), (73, 13, 4, .q (xb false))] [] g1 (ob (o_len zl p0.Moves.1) (ob (o_b h3201) ob0)) (by kernel_rfl)
noncomputable def zun (p0 : za) (p1 : Int) (p2 : (SL Int)) (p3 : Int) (s1_15 : zt7) (s1_9 : Int) : TM := [(0, (.d (.agg (zb p0)))), (1, (xi p1)), (2, (.d (dl eI p2.1 p2.2))), (3, (xi p3)), (zsp 4), (8, (.d (.sl [] .nil))), (9, (.row 0 9 s1_15.length)), (zsp 10), (11, (xi s1_9))]
noncomputable def zzi (p0 : za) (p1 : Int) (p2 : (SL Int)) (p3 : Int) (v3 : zi) (s1_9 : Int) (s1_15 : zt7) : St := ⟨(zun p0 p1 p2 p3 s1_15 s1_9), ⟨[(zc 4 (zb p0)), (9, (rowO true 6 zt s1_15 true)), (10, (.cells [(xi v3.Low), (xi v3.High)]))], []⟩, []⟩
noncomputable def zXn (p0 : za) (p1 : Int) (p2 : (SL Int)) (p3 : Int) (r : zt9) : TM := [(0, (.d (.agg (zb p0)))), (1, (xi p1)), (2, (.d (dl eI p2.1 p2.2))), (3, (xi p3)), (zsp 4), (8, (.d (.sl [] .nil))), (9, (.row 0 9 r.2.length)), (zsp 10), (11, (xi r.1)), (27, (xb false))]
noncomputable def zFd (p0 : za) (p1 : Int) (p2 : (SL Int)) (p3 : Int) (v3 : zi) (r : zt9) : St := ⟨(zXn p0 p1 p2 p3 r), ⟨[(zc 4 (zb p0)), (9, (rowO true 6 zt r.2 true)), (10, (.cells [(xi v3.Low), (xi v3.High)]))], []⟩, []⟩
noncomputable def zOi (p0 : za) (p1 : Int) (p2 : (SL Int)) (p3 : Int) (v3 : zi) : (Int × (List zr)) → Ex × St := fun r => ((.exit 0), zFd p0 p1 p2 p3 v3 r)
theorem z9h (k : Nat) (p0 : za) (p1 : Int) (p2 : (SL Int)) (p3 : Int) (v3 : zi) (s1_9 : Int) (s1_15 : zt7) (x : (Int × (List zr)) ⊕ (Int × (List zr))) (h : zec k p0 p1 p2 p3 v3 s1_9 s1_15 = some x) : LoopOK TE 73 (blk TE 73 0) (fun s : (Int × (List zr)) => zzi p0 p1 p2 p3 v3 s.1 s.2) (zOi p0 p1 p2 p3 v3) (s1_9, s1_15) x := by
 unfold zec at h
 refine cond_ok h (fun h2401 g1 => ?_) (fun h2401 g1 => ?_)
 ·refine bind_ok g1 (fun v2402 h2403 g2 => ?_)
  refine bind_ok g2 (fun v2404 h2405 g3 => ?_)
  refine bind_ok g3 (fun v2406 h2407 g4 => ?_)
  refine bind_ok g4 (fun v2408 h2409 g5 => ?_)
  refine guard_ok g5 (fun h2410 g6 => ?_)
  exact zqn ((w64 (s1_9 + 1)), (v2404.2 ++ [(⟨v2406, v2408, (-1), s1_9⟩ : zr)])) [9] [(73, 4, 3, .q (xb true)), (73, 21, 1, .c (.agg [(di v2406.Low), (di v2406.High)])), (73, 21, 6, .c (.agg [(di v2408.Low), (di v2408.High)])), (73, 21, 10, .ap (v2404.2 ++ [(⟨v2406, v2408, (-1), s1_9⟩ : zr)]).length (rowO true 6 zt (v2404.2 ++ [(⟨v2406, v2408, (-1), s1_9⟩ : zr)]) true))] [(73, 2, (.nor, zrd p0 p1 p2 p3 v3 s1_9 v2402)), (73, 4, (.nor, ztd p0 p1 p2 p3 v3 s1_9 v2402 v2404))] g6 (ob (o_b h2401) (ob (block_ok (id := 2) (r' := (.nor, zrd p0 p1 p2 p3 v3 s1_9 v2402)) (zR (zGh k p0 p1 p2 p3 v3 s1_9) k _ _ h2403) rfl) (ob (block_ok (id := 4) (r' := (.nor, ztd p0 p1 p2 p3 v3 s1_9 v2402 v2404)) (zR (zLh k p0 p1 p2 p3 v3 s1_9 v2402) k _ _ h2405) rfl) (ob (zF k 0 0 _ h2407) (ob (zbj k p0 p1 s1_9 p3 _ h2409) (ob (o_ap (b := true) (z := 6) (e := zt) (l := v2404.2) (w := true) (⟨v2406, v2408, (-1), s1_9⟩ : zr) (fun _ => rfl) h2410) (ob (o_ref true 6 zt (v2404.2 ++ [(⟨v2406, v2408, (-1), s1_9⟩ : zr)]) true) ob0))))))) (by kernel_rfl)
 ·exact zqo [(73, 4, 3, .q (xb false))] [] g1 (ob (o_b h2401) ob0) (by kernel_rfl)
theorem zcg (k : Nat) (p0 : za) (p1 : Int) (p2 : (SL Int)) (p3 : Int) (r : (SL zr)) (h : zRc k p0 p1 p2 p3 = some r) : callP TE (ev TE) 73 [(.agg (zb p0)), (di p1), (dl eI p2.1 p2.2), (di p3)] = some (zyg r) := by
 unfold zRc at h
 refine bind_ok h (fun v1 h2 g1 => ?_)
 refine bind_ok g1 (fun v3 h4 g2 => ?_)
 refine bind_ok g2 (fun v5 h6 g3 => ?_)
 exact fin_ok (g := zyg) g3 (zqr [(73, 2, 3, .q (.d (.pin (zk v1)))), (73, 2, 6, .c (.agg [(di v3.Low), (di v3.High)]))] [(73, 0, (.nor, zFd p0 p1 p2 p3 v3 v5))] [(dl zt v5.2 (rcap true v5.2))] (ob (o_ia (e := zk) 3 h2 rfl) (ob (zF k 0 v1.Room _ h4) (ob (block_ok (id := 0) (r' := (.nor, zFd p0 p1 p2 p3 v3 v5)) (zR (z9h k p0 p1 p2 p3 v3) k _ _ h6) rfl) (ob (show snaps ⟨[(9, (rowO true 6 zt v5.2 true))], []⟩ _ = _ from (o_s1 (x := (.row 0 9 v5.2.length)) (snap_rowR true 6 zt v5.2 true rfl) o_s0)) ob0)))) (by kernel_rfl))
noncomputable def zpm (p0 : zi) (p1 : (SL zr)) (s1_8 : zt10) (s1_5 : Int) : TM := [(0, (.d (.agg [(di p0.Low), (di p0.High)]))), (1, (.d (dl zt p1.1 p1.2))), (zsp 2), (4, (.d (.sl [] .nil))), (5, (xb false)), (6, (.row 0 11 s1_8.length)), (7, (xi s1_5))]
noncomputable def zLi (p0 : zi) (p1 : (SL zr)) (s1_5 : Int) (s1_8 : zt10) : St := ⟨(zpm p0 p1 s1_8 s1_5), ⟨[(2, (.cells [(xi p0.Low), (xi p0.High)])), (11, (rowO false 2 zw s1_8 true))], []⟩, []⟩
noncomputable def zKm (p0 : zi) (p1 : (SL zr)) (r : zt14) : TM := [(0, (.d (.agg [(di p0.Low), (di p0.High)]))), (1, (.d (dl zt p1.1 p1.2))), (zsp 2), (4, (.d (.sl [] .nil))), (5, (xb false)), (6, (.row 0 11 r.2.length)), (7, (xi r.1)), (15, (xb false))]
noncomputable def zDb (p0 : zi) (p1 : (SL zr)) (r : zt14) : St := ⟨(zKm p0 p1 r), ⟨[(2, (.cells [(xi p0.Low), (xi p0.High)])), (11, (rowO false 2 zw r.2 true))], []⟩, []⟩
noncomputable def zJi (p0 : zi) (p1 : (SL zr)) : (Int × (List zi)) → Ex × St := fun r => ((.exit 0), zDb p0 p1 r)
theorem zlf (k : Nat) (p0 : zi) (p1 : (SL zr)) (s1_5 : Int) (s1_8 : zt10) (x : (Int × (List zi)) ⊕ (Int × (List zi))) (h : zwb k p0 p1 s1_5 s1_8 = some x) : LoopOK TE 74 (blk TE 74 0) (fun s : (Int × (List zi)) => zLi p0 p1 s.1 s.2) (zJi p0 p1) (s1_5, s1_8) x := by
 unfold zwb at h
 refine cond_ok h (fun h201 g1 => ?_) (fun h201 g1 => ?_)
 ·refine bind_ok g1 (fun v202 h203 g2 => ?_)
  refine bind_ok g2 (fun v204 h205 g3 => ?_)
  refine bind_ok g3 (fun v206 h207 g4 => ?_)
  refine bind_ok g4 (fun v208 h209 g5 => ?_)
  refine bind_ok g5 (fun v210 h211 g6 => ?_)
  refine bind_ok g6 (fun v212 h213 g7 => ?_)
  refine bind_ok g7 (fun v214 h215 g8 => ?_)
  refine guard_ok g8 (fun h216 g9 => ?_)
  exact zqn ((w64 (s1_5 + 1)), (s1_8 ++ [v214])) [11] [(74, 3, 2, .q (xi (p1.1.length : Int))), (74, 3, 3, .q (xb true)), (74, 5, 3, .q (.d (.pin (zt v202)))), (74, 5, 8, .q (.rp 0 11 s1_8.length s1_5.toNat 0)), (74, 5, 9, .q (.rp 0 11 s1_8.length s1_5.toNat 0)), (74, 5, 10, .q (xi v204.Low)), (74, 5, 13, .q (.d (.pin (zt v206)))), (74, 5, 20, .q (.rp 0 11 s1_8.length s1_5.toNat 0)), (74, 5, 21, .q (.rp 0 11 s1_8.length s1_5.toNat 1)), (74, 5, 22, .q (xi v208.High)), (74, 5, 25, .q (.d (.pin (zt v210)))), (74, 5, 30, .c (.agg [(di v212.Low), (di v212.High)])), (74, 5, 31, .c (.agg [(di v214.Low), (di v214.High)])), (74, 5, 33, .ap (s1_8 ++ [v214]).length (rowO false 2 zw (s1_8 ++ [v214]) true))] [] g9 (ob (o_len zt p1.1) (ob (o_b h201) (ob (o_ia (e := zt) 6 h203 rfl) (ob (zqa 94 16 0 11 s1_5 false 2 zw s1_8 true (by kernel_rfl) (by kernel_rfl) h205) (ob (zqf 30 (0, 1, false) 0 11 0 0 s1_5 false 2 zw s1_8 true (by kernel_rfl) (by decide) h205) (ob (zql 3 (1, false) 0 11 0 s1_5 (xi v204.Low) false 2 zw s1_8 true (by kernel_rfl) h205 (by kernel_rfl)) (ob (o_ia (e := zt) 6 h207 rfl) (ob (zqa 94 16 0 11 s1_5 false 2 zw s1_8 true (by kernel_rfl) (by kernel_rfl) h209) (ob (zqf 30 (1, 1, false) 0 11 0 1 s1_5 false 2 zw s1_8 true (by kernel_rfl) (by decide) h209) (ob (zql 3 (1, false) 0 11 1 s1_5 (xi v208.High) false 2 zw s1_8 true (by kernel_rfl) h209 (by kernel_rfl)) (ob (o_ia (e := zt) 6 h211 rfl) (ob (zF k (w64 (v204.Low + v206.by_.Low)) (w64 (v208.High + v210.by_.High)) _ h213) (ob (z2c k v202.within v212 _ h215) (ob (o_ap (b := false) (z := 2) (e := zw) (l := s1_8) (w := true) v214 (fun _ => rfl) h216) (ob (o_ref false 2 zw (s1_8 ++ [v214]) true) ob0))))))))))))))) (by kernel_rfl)
 ·exact zqo [(74, 3, 2, .q (xi (p1.1.length : Int))), (74, 3, 3, .q (xb false))] [] g1 (ob (o_len zt p1.1) (ob (o_b h201) ob0)) (by kernel_rfl)
noncomputable def zEm (p0 : zi) (p1 : (SL zr)) (s2_10 : zt10) (v1 : zt14) (s2_7 : Int) : TM := [(0, (.d (.agg [(di p0.Low), (di p0.High)]))), (1, (.d (dl zt p1.1 p1.2))), (zsp 2), (4, (.d (.sl [] .nil))), (5, (xb false)), (6, (.row 0 11 s2_10.length)), (7, (xi v1.1)), (15, (xb false)), (8, (xi s2_7))]
noncomputable def zNi (p0 : zi) (p1 : (SL zr)) (v1 : zt14) (s2_7 : Int) (s2_10 : zt10) : St := ⟨(zEm p0 p1 s2_10 v1 s2_7), ⟨[(2, (.cells [(xi p0.Low), (xi p0.High)])), (11, (rowO false 2 zw s2_10 true))], []⟩, []⟩
noncomputable def zkn (p0 : zi) (p1 : (SL zr)) (r v1 : zt14) : TM := [(0, (.d (.agg [(di p0.Low), (di p0.High)]))), (1, (.d (dl zt p1.1 p1.2))), (zsp 2), (4, (.d (.sl [] .nil))), (5, (xb false)), (6, (.row 0 11 r.2.length)), (7, (xi v1.1)), (15, (xb false)), (8, (xi r.1)), (55, (xb true)), (68, (xb true))]
noncomputable def zHd (p0 : zi) (p1 : (SL zr)) (v1 r : zt14) : St := ⟨(zkn p0 p1 r v1), ⟨[(2, (.cells [(xi p0.Low), (xi p0.High)])), (11, (rowO false 2 zw r.2 true))], []⟩, []⟩
noncomputable def zJn (p0 : zi) (p1 : (SL zr)) (r v1 : zt14) : TM := [(0, (.d (.agg [(di p0.Low), (di p0.High)]))), (1, (.d (dl zt p1.1 p1.2))), (zsp 2), (4, (.d (.sl [] .nil))), (5, (xb false)), (6, (.row 0 11 r.2.length)), (7, (xi v1.1)), (15, (xb false)), (8, (xi r.1)), (55, (xb false))]
noncomputable def zGd (p0 : zi) (p1 : (SL zr)) (v1 r : zt14) : St := ⟨(zJn p0 p1 r v1), ⟨[(2, (.cells [(xi p0.Low), (xi p0.High)])), (11, (rowO false 2 zw r.2 true))], []⟩, []⟩
noncomputable def zHi (p0 : zi) (p1 : (SL zr)) (v1 : zt14) : ((Int × (List zi)) ⊕ (Int × (List zi))) → Ex × St := Sum.elim (fun r => (.ret, zHd p0 p1 v1 r)) (fun r => ((.exit 2), zGd p0 p1 v1 r))
theorem zkf (k : Nat) (p0 : zi) (p1 : (SL zr)) (v1 : zt14) (s2_7 : Int) (s2_10 : zt10) (x : (Int × (List zi)) ⊕ ((Int × (List zi)) ⊕ (Int × (List zi)))) (h : zzb k p0 p1 v1 s2_7 s2_10 = some x) : LoopOK TE 74 (blk TE 74 2) (fun s : (Int × (List zi)) => zNi p0 p1 v1 s.1 s.2) (zHi p0 p1 v1) (s2_7, s2_10) x := by
 unfold zzb at h
 refine cond_ok h (fun h401 g1 => ?_) (fun h401 g1 => ?_)
 ·refine bind_ok g1 (fun v402 h403 g2 => ?_)
  refine bind_ok g2 (fun v404 h405 g3 => ?_)
  refine cond_ok g3 (fun h406 g4 => ?_) (fun h406 g4 => ?_)
  ·exact zqo [(74, 7, 1, .q (xb true)), (74, 9, 2, .q (.rp 0 11 s2_10.length s2_7.toNat 0)), (74, 9, 3, .q (.rp 0 11 s2_10.length s2_7.toNat 0)), (74, 9, 4, .q (xi v402.Low)), (74, 9, 7, .q (.rp 0 11 s2_10.length s2_7.toNat 0)), (74, 9, 8, .q (.rp 0 11 s2_10.length s2_7.toNat 1)), (74, 9, 9, .q (xi v404.High)), (74, 9, 10, .q (xb true))] [] g4 (ob (o_b h401) (ob (zqa 94 16 0 11 s2_7 false 2 zw s2_10 true (by kernel_rfl) (by kernel_rfl) h403) (ob (zqf 30 (0, 1, false) 0 11 0 0 s2_7 false 2 zw s2_10 true (by kernel_rfl) (by decide) h403) (ob (zql 3 (1, false) 0 11 0 s2_7 (xi v402.Low) false 2 zw s2_10 true (by kernel_rfl) h403 (by kernel_rfl)) (ob (zqa 94 16 0 11 s2_7 false 2 zw s2_10 true (by kernel_rfl) (by kernel_rfl) h405) (ob (zqf 30 (1, 1, false) 0 11 0 1 s2_7 false 2 zw s2_10 true (by kernel_rfl) (by decide) h405) (ob (zql 3 (1, false) 0 11 1 s2_7 (xi v404.High) false 2 zw s2_10 true (by kernel_rfl) h405 (by kernel_rfl)) (ob (o_b h406) ob0)))))))) (by kernel_rfl)
  ·refine cond_ok g4 (fun h407 g5 => ?_) (fun h407 g5 => ?_)
   ·refine bind_ok g5 (fun v408 h409 g6 => ?_)
    refine bind_ok g6 (fun v410 h411 g7 => ?_)
    refine bind_ok g7 (fun v412 h413 g8 => ?_)
    refine bind_ok g8 (fun v414 h415 g9 => ?_)
    refine bind_ok g9 (fun v416 h417 g10 => ?_)
    refine bind_ok g10 (fun v418 h419 g11 => ?_)
    refine bind_ok g11 (fun v420 h421 g12 => ?_)
    exact zqn ((w64 (s2_7 - 1)), (s2_10.set (w64 (s2_7 - 1)).toNat v418)) [11] [(74, 7, 1, .q (xb true)), (74, 9, 2, .q (.rp 0 11 s2_10.length s2_7.toNat 0)), (74, 9, 3, .q (.rp 0 11 s2_10.length s2_7.toNat 0)), (74, 9, 4, .q (xi v402.Low)), (74, 9, 7, .q (.rp 0 11 s2_10.length s2_7.toNat 0)), (74, 9, 8, .q (.rp 0 11 s2_10.length s2_7.toNat 1)), (74, 9, 9, .q (xi v404.High)), (74, 9, 10, .q (xb false)), (74, 11, 1, .q (xb true)), (74, 12, 3, .q (.d (.pin (zt v408)))), (74, 13, 6, .q (.rp 0 11 s2_10.length (w64 (s2_7 - 1)).toNat 0)), (74, 13, 7, .q (.d (.agg [(di v410.Low), (di v410.High)]))), (74, 13, 10, .q (.rp 0 11 s2_10.length s2_7.toNat 0)), (74, 13, 11, .q (.rp 0 11 s2_10.length s2_7.toNat 0)), (74, 13, 12, .q (xi v412.Low)), (74, 13, 18, .q (.rp 0 11 s2_10.length s2_7.toNat 0)), (74, 13, 19, .q (.rp 0 11 s2_10.length s2_7.toNat 1)), (74, 13, 20, .q (xi v414.High)), (74, 13, 24, .c (.agg [(di v416.Low), (di v416.High)])), (74, 13, 25, .c (.agg [(di v418.Low), (di v418.High)])), (74, 13, 26, .q (.rp 0 11 s2_10.length (w64 (s2_7 - 1)).toNat 0)), (74, 13, 27, .rs (rowO false 2 zw (s2_10.set (w64 (s2_7 - 1)).toNat v418) true)), (74, 13, 999, .nm [(6, (s2_10.set (w64 (s2_7 - 1)).toNat v418).length)] [])] [] g12 (ob (o_b h401) (ob (zqa 94 16 0 11 s2_7 false 2 zw s2_10 true (by kernel_rfl) (by kernel_rfl) h403) (ob (zqf 30 (0, 1, false) 0 11 0 0 s2_7 false 2 zw s2_10 true (by kernel_rfl) (by decide) h403) (ob (zql 3 (1, false) 0 11 0 s2_7 (xi v402.Low) false 2 zw s2_10 true (by kernel_rfl) h403 (by kernel_rfl)) (ob (zqa 94 16 0 11 s2_7 false 2 zw s2_10 true (by kernel_rfl) (by kernel_rfl) h405) (ob (zqf 30 (1, 1, false) 0 11 0 1 s2_7 false 2 zw s2_10 true (by kernel_rfl) (by decide) h405) (ob (zql 3 (1, false) 0 11 1 s2_7 (xi v404.High) false 2 zw s2_10 true (by kernel_rfl) h405 (by kernel_rfl)) (ob (o_b h406) (ob (o_b h407) (ob (o_ia (e := zt) 6 h409 rfl) (ob (zqa 94 16 0 11 (w64 (s2_7 - 1)) false 2 zw s2_10 true (by kernel_rfl) (by kernel_rfl) h411) (ob (zql 30 (2, true) 0 11 0 (w64 (s2_7 - 1)) (.d (.agg [(di v410.Low), (di v410.High)])) false 2 zw s2_10 true (by kernel_rfl) h411 (by kernel_rfl)) (ob (zqa 94 16 0 11 s2_7 false 2 zw s2_10 true (by kernel_rfl) (by kernel_rfl) h413) (ob (zqf 30 (0, 1, false) 0 11 0 0 s2_7 false 2 zw s2_10 true (by kernel_rfl) (by decide) h413) (ob (zql 3 (1, false) 0 11 0 s2_7 (xi v412.Low) false 2 zw s2_10 true (by kernel_rfl) h413 (by kernel_rfl)) (ob (zqa 94 16 0 11 s2_7 false 2 zw s2_10 true (by kernel_rfl) (by kernel_rfl) h415) (ob (zqf 30 (1, 1, false) 0 11 0 1 s2_7 false 2 zw s2_10 true (by kernel_rfl) (by decide) h415) (ob (zql 3 (1, false) 0 11 1 s2_7 (xi v414.High) false 2 zw s2_10 true (by kernel_rfl) h415 (by kernel_rfl)) (ob (zF k (w64 (v412.Low - v408.by_.High)) (w64 (v414.High - v408.by_.Low)) _ h417) (ob (z2c k v410 v416 _ h419) (ob (zqa 94 16 0 11 (w64 (s2_7 - 1)) false 2 zw s2_10 true (by kernel_rfl) (by kernel_rfl) h421) (ob (o_rs (b := false) (z := 2) (e := zw) (l := s2_10) (o := 0) (n := 2) (ds := [(di v418.Low), (di v418.High)]) (i := (w64 (s2_7 - 1))) (y' := v418) h421 (Nat.le_of_ble_eq_true rfl) rfl) (ob (show s2_10.length = (s2_10.set (w64 (s2_7 - 1)).toNat v418).length by simp) (ob (o_ref false 2 zw (s2_10.set (w64 (s2_7 - 1)).toNat v418) true) ob0)))))))))))))))))))))))) (by kernel_rfl)
   ·exact zqn ((w64 (s2_7 - 1)), s2_10) [11] [(74, 7, 1, .q (xb true)), (74, 9, 2, .q (.rp 0 11 s2_10.length s2_7.toNat 0)), (74, 9, 3, .q (.rp 0 11 s2_10.length s2_7.toNat 0)), (74, 9, 4, .q (xi v402.Low)), (74, 9, 7, .q (.rp 0 11 s2_10.length s2_7.toNat 0)), (74, 9, 8, .q (.rp 0 11 s2_10.length s2_7.toNat 1)), (74, 9, 9, .q (xi v404.High)), (74, 9, 10, .q (xb false)), (74, 11, 1, .q (xb false))] [] g5 (ob (o_b h401) (ob (zqa 94 16 0 11 s2_7 false 2 zw s2_10 true (by kernel_rfl) (by kernel_rfl) h403) (ob (zqf 30 (0, 1, false) 0 11 0 0 s2_7 false 2 zw s2_10 true (by kernel_rfl) (by decide) h403) (ob (zql 3 (1, false) 0 11 0 s2_7 (xi v402.Low) false 2 zw s2_10 true (by kernel_rfl) h403 (by kernel_rfl)) (ob (zqa 94 16 0 11 s2_7 false 2 zw s2_10 true (by kernel_rfl) (by kernel_rfl) h405) (ob (zqf 30 (1, 1, false) 0 11 0 1 s2_7 false 2 zw s2_10 true (by kernel_rfl) (by decide) h405) (ob (zql 3 (1, false) 0 11 1 s2_7 (xi v404.High) false 2 zw s2_10 true (by kernel_rfl) h405 (by kernel_rfl)) (ob (o_b h406) (ob (o_b h407) (ob (o_ref false 2 zw s2_10 true) ob0)))))))))) (by kernel_rfl)
 ·exact zqo [(74, 7, 1, .q (xb false))] [] g1 (ob (o_b h401) ob0) (by kernel_rfl)
theorem zag (k : Nat) (p0 : zi) (p1 : (SL zr)) (r : ((SL zi) × Bool)) (h : zVc k p0 p1 = some r) : callP TE (ev TE) 74 [(.agg [(di p0.Low), (di p0.High)]), (dl zt p1.1 p1.2)] = some (zQe r) := by
 unfold zVc at h
 refine bind_ok h (fun v1 h2 g1 => ?_)
 refine bind_ok g1 (fun v3 h4 g2 => ?_)
 refine sum_ok g2 (fun v6 hh g3_0 => ?_) (fun v6 hh g3_0 => ?_)
 ·subst hh
  exact fin_ok (g := zQe) g3_0 (zqc [(74, 6, 1, .q (xi (p1.1.length : Int)))] [(74, 0, (.nor, zDb p0 p1 v1)), (74, 2, (.ret, zHd p0 p1 v1 v6))] (ob (block_ok (id := 0) (r' := (.nor, zDb p0 p1 v1)) (zR (zlf k p0 p1) k _ _ h2) rfl) (ob (o_len zt p1.1) (ob (block_ok (id := 2) (r' := (.ret, zHd p0 p1 v1 v6)) (zR (zkf k p0 p1 v1) k _ _ h4) rfl) ob0))) (by kernel_rfl))
 ·subst hh
  exact fin_ok (g := zQe) g3_0 (zqr [(74, 6, 1, .q (xi (p1.1.length : Int)))] [(74, 0, (.nor, zDb p0 p1 v1)), (74, 2, (.nor, zGd p0 p1 v1 v6))] [(dl zw v6.2 (rcap false v6.2)), (db true)] (ob (block_ok (id := 0) (r' := (.nor, zDb p0 p1 v1)) (zR (zlf k p0 p1) k _ _ h2) rfl) (ob (o_len zt p1.1) (ob (block_ok (id := 2) (r' := (.nor, zGd p0 p1 v1 v6)) (zR (zkf k p0 p1 v1) k _ _ h4) rfl) (ob (show snaps ⟨[(11, (rowO false 2 zw v6.2 true))], []⟩ _ = _ from (o_s1 (x := (.row 0 11 v6.2.length)) (snap_rowR false 2 zw v6.2 true rfl) (o_s1 (x := (xb true)) rfl o_s0))) ob0)))) (by kernel_rfl))
noncomputable def zDm (p0 : za) (p1 p2 : Int) (v1 : (SL (SL Int))) (s1_15 : (List zu)) (s1_9 : Int) : TM := [(0, (.d (.agg (zb p0)))), (1, (xi p1)), (2, (xi p2)), (zsp 3), (6, (.d (.sl [] .nil))), (7, (.d (dl (eL eI) v1.1 v1.2))), (8, (.row 0 8 s1_15.length)), (9, (xi s1_9))]
noncomputable def zBi (p0 : za) (p1 p2 : Int) (v1 : (SL (SL Int))) (s1_9 : Int) (s1_15 : (List zu)) : St := ⟨(zDm p0 p1 p2 v1 s1_15 s1_9), ⟨[(zc 3 (zb p0)), (8, (rowO true 3 zx s1_15 true))], []⟩, []⟩
noncomputable def zfn (p0 : za) (p1 p2 : Int) (v1 : (SL (SL Int))) (r : (Int × (List zu))) : TM := [(0, (.d (.agg (zb p0)))), (1, (xi p1)), (2, (xi p2)), (zsp 3), (6, (.d (.sl [] .nil))), (7, (.d (dl (eL eI) v1.1 v1.2))), (8, (.row 0 8 r.2.length)), (9, (xi r.1)), (19, (xb false))]
noncomputable def zId (p0 : za) (p1 p2 : Int) (v1 : (SL (SL Int))) (r : (Int × (List zu))) : St := ⟨(zfn p0 p1 p2 v1 r), ⟨[(zc 3 (zb p0)), (8, (rowO true 3 zx r.2 true))], []⟩, []⟩
noncomputable def zCi (p0 : za) (p1 p2 : Int) (v1 : (SL (SL Int))) : (Int × (List zu)) → Ex × St := fun r => ((.exit 0), zId p0 p1 p2 v1 r)
theorem z6h (k : Nat) (p0 : za) (p1 p2 : Int) (v1 : (SL (SL Int))) (s1_9 : Int) (s1_15 : (List zu)) (x : (Int × (List zu)) ⊕ (Int × (List zu))) (h : zfc k p0 p1 p2 v1 s1_9 s1_15 = some x) : LoopOK TE 59 (blk TE 59 0) (fun s : (Int × (List zu)) => zBi p0 p1 p2 v1 s.1 s.2) (zCi p0 p1 p2 v1) (s1_9, s1_15) x := by
 unfold zfc at h
 refine cond_ok h (fun h301 g1 => ?_) (fun h301 g1 => ?_)
 ·refine bind_ok g1 (fun v302 h303 g2 => ?_)
  refine bind_ok g2 (fun v304 h305 g3 => ?_)
  refine bind_ok g3 (fun v306 h307 g4 => ?_)
  refine bind_ok g4 (fun v308 h309 g5 => ?_)
  refine cond_ok g5 (fun h310 g6 => ?_) (fun h310 g6 => ?_)
  ·refine bind_ok g6 (fun v311 h312 g7 => ?_)
   refine guard_ok g7 (fun h313 g8 => ?_)
   exact zqn ((w64 (s1_9 + 1)), (s1_15 ++ [(⟨v311, v304, v308.1⟩ : zu)])) [8] [(59, 4, 2, .q (xi (v1.1.length : Int))), (59, 4, 3, .q (xb true)), (59, 6, 4, .q (.d (.pin [(dl eI v302.1 v302.2)]))), (59, 6, 7, .c (dl zt v304.1 v304.2)), (59, 7, 3, .q (.d (.pin (zk v306)))), (59, 7, 7, .c (.tup [(dl zw v308.1.1 v308.1.2), (db v308.2)])), (59, 8, 0, .q (xb true)), (59, 9, 3, .q (.d (.pin [(dl eI v311.1 v311.2)]))), (59, 9, 9, .ap (s1_15 ++ [(⟨v311, v304, v308.1⟩ : zu)]).length (rowO true 3 zx (s1_15 ++ [(⟨v311, v304, v308.1⟩ : zu)]) true))] [] g8 (ob (o_len (eL eI) v1.1) (ob (o_b h301) (ob (o_ia (e := (eL eI)) 1 h303 rfl) (ob (zcg k p0 p1 v302 p2 _ h305) (ob (o_ia (e := zk) 3 h307 rfl) (ob (zag k v306.Begin v304 _ h309) (ob (o_b h310) (ob (o_ia (e := (eL eI)) 1 h312 rfl) (ob (o_ap (b := true) (z := 3) (e := zx) (l := s1_15) (w := true) (⟨v311, v304, v308.1⟩ : zu) (fun _ => rfl) h313) (ob (o_ref true 3 zx (s1_15 ++ [(⟨v311, v304, v308.1⟩ : zu)]) true) ob0)))))))))) (by kernel_rfl)
  ·exact zqn ((w64 (s1_9 + 1)), s1_15) [8] [(59, 4, 2, .q (xi (v1.1.length : Int))), (59, 4, 3, .q (xb true)), (59, 6, 4, .q (.d (.pin [(dl eI v302.1 v302.2)]))), (59, 6, 7, .c (dl zt v304.1 v304.2)), (59, 7, 3, .q (.d (.pin (zk v306)))), (59, 7, 7, .c (.tup [(dl zw v308.1.1 v308.1.2), (db v308.2)])), (59, 8, 0, .q (xb false))] [] g6 (ob (o_len (eL eI) v1.1) (ob (o_b h301) (ob (o_ia (e := (eL eI)) 1 h303 rfl) (ob (zcg k p0 p1 v302 p2 _ h305) (ob (o_ia (e := zk) 3 h307 rfl) (ob (zag k v306.Begin v304 _ h309) (ob (o_b h310) (ob (o_ref true 3 zx s1_15 true) ob0)))))))) (by kernel_rfl)
 ·exact zqo [(59, 4, 2, .q (xi (v1.1.length : Int))), (59, 4, 3, .q (xb false))] [] g1 (ob (o_len (eL eI) v1.1) (ob (o_b h301) ob0)) (by kernel_rfl)
theorem z3c (k : Nat) (p0 : za) (p1 p2 : Int) (r : (SL zu)) (h : zAb k p0 p1 p2 = some r) : callP TE (ev TE) 59 [(.agg (zb p0)), (di p1), (di p2)] = some (zCg r) := by
 unfold zAb at h
 refine bind_ok h (fun v1 h2 g1 => ?_)
 refine bind_ok g1 (fun v3 h4 g2 => ?_)
 exact fin_ok (g := zCg) g2 (zqr [(59, 1, 2, .c (dl (eL eI) v1.1 v1.2))] [(59, 0, (.nor, zId p0 p1 p2 v1 v3))] [(dl zx v3.2 (rcap true v3.2))] (ob (zjk k p0 p1 _ h2) (ob (block_ok (id := 0) (r' := (.nor, zId p0 p1 p2 v1 v3)) (zR (z6h k p0 p1 p2 v1) k _ _ h4) rfl) (ob (show snaps ⟨[(8, (rowO true 3 zx v3.2 true))], []⟩ _ = _ from (o_s1 (x := (.row 0 8 v3.2.length)) (snap_rowR true 3 zx v3.2 true rfl) o_s0)) ob0))) (by kernel_rfl))
noncomputable def ztn (p0 : za) (p1 s1_7 : Int) : TM := [(0, (.d (.agg (zb p0)))), (1, (xi p1)), (zsp 2), (4, (xb false)), (5, (xi s1_7))]
noncomputable def zTi (p0 : za) (p1 s1_7 : Int) : St := ⟨(ztn p0 p1 s1_7), ⟨[(zc 2 (zb p0))], []⟩, []⟩
noncomputable def z4n (p0 : za) (p1 r : Int) : TM := [(0, (.d (.agg (zb p0)))), (1, (xi p1)), (zsp 2), (4, (xb false)), (5, (xi r)), (10, (xb true)), (18, (xb true))]
noncomputable def zUd (p0 : za) (p1 r : Int) : St := ⟨(z4n p0 p1 r), ⟨[(zc 2 (zb p0))], []⟩, []⟩
noncomputable def zFm (p0 : za) (p1 r : Int) : TM := [(0, (.d (.agg (zb p0)))), (1, (xi p1)), (zsp 2), (4, (xb false)), (5, (xi r)), (10, (xb false))]
noncomputable def z0d (p0 : za) (p1 r : Int) : St := ⟨(zFm p0 p1 r), ⟨[(zc 2 (zb p0))], []⟩, []⟩
noncomputable def zgj (p0 : za) (p1 : Int) : (Int ⊕ Int) → Ex × St := Sum.elim (fun r => (.ret, zUd p0 p1 r)) (fun r => ((.exit 0), z0d p0 p1 r))
theorem zEf (k : Nat) (p0 : za) (p1 s1_7 : Int) (x : Int ⊕ (Int ⊕ Int)) (h : zuc k p0 p1 s1_7 = some x) : LoopOK TE 86 (blk TE 86 0) (fun s : Int => zTi p0 p1 s) (zgj p0 p1) s1_7 x := by
 unfold zuc at h
 refine cond_ok h (fun h201 g1 => ?_) (fun h201 g1 => ?_)
 ·refine bind_ok g1 (fun v202 h203 g2 => ?_)
  refine cond_ok g2 (fun h204 g3 => ?_) (fun h204 g3 => ?_)
  ·exact zqo [(86, 2, 3, .q (xi (p0.Shelves.1.length : Int))), (86, 2, 4, .q (xb true)), (86, 4, 3, .c (dl zx v202.1 v202.2)), (86, 4, 4, .q (xi (v202.1.length : Int))), (86, 4, 5, .q (xb true))] [] g3 (ob (o_len zk p0.Shelves.1) (ob (o_b h201) (ob (z3c k p0 s1_7 p1 _ h203) (ob (o_len zx v202.1) (ob (o_b h204) ob0))))) (by kernel_rfl)
  ·exact zqn (w64 (s1_7 + 1)) [] [(86, 2, 3, .q (xi (p0.Shelves.1.length : Int))), (86, 2, 4, .q (xb true)), (86, 4, 3, .c (dl zx v202.1 v202.2)), (86, 4, 4, .q (xi (v202.1.length : Int))), (86, 4, 5, .q (xb false))] [] g3 (ob (o_len zk p0.Shelves.1) (ob (o_b h201) (ob (z3c k p0 s1_7 p1 _ h203) (ob (o_len zx v202.1) (ob (o_b h204) ob0))))) (by kernel_rfl)
 ·exact zqo [(86, 2, 3, .q (xi (p0.Shelves.1.length : Int))), (86, 2, 4, .q (xb false))] [] g1 (ob (o_len zk p0.Shelves.1) (ob (o_b h201) ob0)) (by kernel_rfl)
theorem zzg (k : Nat) (p0 : za) (p1 : Int) (r : Bool) (h : znc k p0 p1 = some r) : callP TE (ev TE) 86 [(.agg (zb p0)), (di p1)] = some (z2e r) := by
 unfold znc at h
 refine bind_ok h (fun v1 h2 g1 => ?_)
 refine sum_ok g1 (fun v4 hh g2_0 => ?_) (fun v4 hh g2_0 => ?_)
 ·subst hh
  exact fin_ok (g := z2e) g2_0 (zqc [] [(86, 0, (.ret, zUd p0 p1 v4))] (ob (block_ok (id := 0) (r' := (.ret, zUd p0 p1 v4)) (zvc (zEf k p0 p1) k _ _ h2) rfl) ob0) (by kernel_rfl))
 ·subst hh
  exact fin_ok (g := z2e) g2_0 (zqc [] [(86, 0, (.nor, z0d p0 p1 v4))] (ob (block_ok (id := 0) (r' := (.nor, z0d p0 p1 v4)) (zvc (zEf k p0 p1) k _ _ h2) rfl) ob0) (by kernel_rfl))
theorem zod (k : Nat) (p0 : za) (p1 : Bool) (r : Int) (h : zNb k p0 p1 = some r) : callP TE (ev TE) 55 [(.agg (zb p0)), (db p1)] = some (zNc r) := by
 unfold zNb at h
 refine bind_ok h (fun v1 h2 g1 => ?_)
 refine cond_ok g1 (fun h3 g2 => ?_) (fun h3 g2 => ?_)
 ·exact fin_ok (g := zNc) g2 (zqc [(55, 1, 1, .c (di v1)), (55, 2, 1, .q (xb true))] [] (ob (zmd k p0 _ h2) (ob (o_b h3) ob0)) (by kernel_rfl))
 ·refine cond_ok g2 (fun h4 g3 => ?_) (fun h4 g3 => ?_)
  ·exact fin_ok (g := zNc) g3 (zqc [(55, 1, 1, .c (di v1)), (55, 2, 1, .q (xb false)), (55, 4, 1, .q (xb true))] [] (ob (zmd k p0 _ h2) (ob (o_b h3) (ob (o_b h4) ob0))) (by kernel_rfl))
  ·refine bind_ok g3 (fun v5 h6 g4 => ?_)
   refine cond_ok g4 (fun h7 g5 => ?_) (fun h7 g5 => ?_)
   ·exact fin_ok (g := zNc) g5 (zqc [(55, 1, 1, .c (di v1)), (55, 2, 1, .q (xb false)), (55, 4, 1, .q (xb false)), (55, 6, 1, .c (db v5)), (55, 6, 2, .q (xb true))] [] (ob (zmd k p0 _ h2) (ob (o_b h3) (ob (o_b h4) (ob (zzg k p0 0 _ h6) (ob (o_b h7) ob0))))) (by kernel_rfl))
   ·exact fin_ok (g := zNc) g5 (zqc [(55, 1, 1, .c (di v1)), (55, 2, 1, .q (xb false)), (55, 4, 1, .q (xb false)), (55, 6, 1, .c (db v5)), (55, 6, 2, .q (xb false))] [] (ob (zmd k p0 _ h2) (ob (o_b h3) (ob (o_b h4) (ob (zzg k p0 0 _ h6) (ob (o_b h7) ob0))))) (by kernel_rfl))
noncomputable def zEn (p0 p1 : Int) (s1_4 : (List Int)) (s1_3 : Int) : TM := [(0, (xi p0)), (1, (xi p1)), (4, (.d (.sl [] .nil))), (5, (.row 0 5 s1_4.length)), (6, (xi s1_3))]
noncomputable def zqk (p0 p1 s1_3 : Int) (s1_4 : (List Int)) : St := ⟨(zEn p0 p1 s1_4 s1_3), ⟨[(5, (rowO true 1 eI s1_4 true))], []⟩, []⟩
noncomputable def zLm (p0 p1 : Int) (r : (Int × (List Int))) : TM := [(0, (xi p0)), (1, (xi p1)), (4, (.d (.sl [] .nil))), (5, (.row 0 5 r.2.length)), (6, (xi r.1)), (9, (xb false))]
noncomputable def zPe (p0 p1 : Int) (r : (Int × (List Int))) : St := ⟨(zLm p0 p1 r), ⟨[(5, (rowO true 1 eI r.2 true))], []⟩, []⟩
noncomputable def zGk (p0 p1 : Int) : (Int × (List Int)) → Ex × St := fun r => ((.exit 0), zPe p0 p1 r)
theorem zXj (k : Nat) (p0 p1 s1_3 : Int) (s1_4 : (List Int)) (x : (Int × (List Int)) ⊕ (Int × (List Int))) (h : zed k p0 p1 s1_3 s1_4 = some x) : LoopOK TE 48 (blk TE 48 0) (fun s : (Int × (List Int)) => zqk p0 p1 s.1 s.2) (zGk p0 p1) (s1_3, s1_4) x := by
 unfold zed at h
 refine cond_ok h (fun h301 g1 => ?_) (fun h301 g1 => ?_)
 ·refine bind_ok g1 (fun v302 h303 g2 => ?_)
  refine cond_ok g2 (fun h304 g3 => ?_) (fun h304 g3 => ?_)
  ·subst h304
   refine guard_ok g3 (fun h305 g4 => ?_)
   exact zqn ((w64 (s1_3 + 1)), (s1_4 ++ [s1_3])) [5] [(48, 3, 2, .q (xb true)), (48, 5, 2, .c (db true)), (48, 6, 3, .ap (s1_4 ++ [s1_3]).length (rowO true 1 eI (s1_4 ++ [s1_3]) true))] [] g4 (ob (o_b h301) (ob (zvf k p0 s1_3 _ h303) (ob (o_ap (b := true) (z := 1) (e := eI) (l := s1_4) (w := true) s1_3 (fun _ => rfl) h305) (ob (o_ref true 1 eI (s1_4 ++ [s1_3]) true) ob0)))) (by kernel_rfl)
  ·subst h304
   exact zqn ((w64 (s1_3 + 1)), s1_4) [5] [(48, 3, 2, .q (xb true)), (48, 5, 2, .c (db false))] [] g3 (ob (o_b h301) (ob (zvf k p0 s1_3 _ h303) (ob (o_ref true 1 eI s1_4 true) ob0))) (by kernel_rfl)
 ·exact zqo [(48, 3, 2, .q (xb false))] [] g1 (ob (o_b h301) ob0) (by kernel_rfl)
theorem zUk (k : Nat) (p0 p1 : Int) (r : (SL Int)) (h : zce k p0 p1 = some r) : callP TE (ev TE) 48 [(di p0), (di p1)] = some (zJh r) := by
 unfold zce at h
 refine bind_ok h (fun v1 h2 g1 => ?_)
 exact fin_ok (g := zJh) g1 (zqr [] [(48, 0, (.nor, zPe p0 p1 v1))] [(dl eI v1.2 (rcap true v1.2))] (ob (block_ok (id := 0) (r' := (.nor, zPe p0 p1 v1)) (zR (zXj k p0 p1) k _ _ h2) rfl) (ob (show snaps ⟨[(5, (rowO true 1 eI v1.2 true))], []⟩ _ = _ from (o_s1 (x := (.row 0 5 v1.2.length)) (snap_rowR true 1 eI v1.2 true rfl) o_s0)) ob0)) (by kernel_rfl))
noncomputable def zYn (p0 : za) (p1 v3 : Int) (v8 : (SL zu)) (s1_11 s1_12 : Int) : TM := [(0, (.d (.agg (zb p0)))), (1, (xi p1)), (zsp 2), (4, (.d (.sl [] .nil))), (5, (xi 0)), (6, (xi v3)), (19, (xb false)), (7, (.d (dl zx v8.1 v8.2))), (8, (xi s1_11)), (9, (xi s1_12))]
noncomputable def zfk (p0 : za) (p1 v3 : Int) (v8 : (SL zu)) (s1_11 s1_12 : Int) : St := ⟨(zYn p0 p1 v3 v8 s1_11 s1_12), ⟨[(zc 2 (zb p0))], []⟩, []⟩
noncomputable def zxm (p0 : za) (p1 v3 : Int) (v8 : (SL zu)) (r : (Int × Int)) : TM := [(0, (.d (.agg (zb p0)))), (1, (xi p1)), (zsp 2), (4, (.d (.sl [] .nil))), (5, (xi 0)), (6, (xi v3)), (19, (xb false)), (7, (.d (dl zx v8.1 v8.2))), (8, (xi r.1)), (9, (xi r.2)), (32, (xb false))]
noncomputable def zpe (p0 : za) (p1 v3 : Int) (v8 : (SL zu)) (r : (Int × Int)) : St := ⟨(zxm p0 p1 v3 v8 r), ⟨[(zc 2 (zb p0))], []⟩, []⟩
noncomputable def zVj (p0 : za) (p1 v3 : Int) (v8 : (SL zu)) : (Int × Int) → Ex × St := fun r => ((.exit 0), zpe p0 p1 v3 v8 r)
theorem ztj (k : Nat) (p0 : za) (p1 v3 : Int) (v8 : (SL zu)) (s1_11 s1_12 : Int) (x : (Int × Int) ⊕ (Int × Int)) (h : z7b k p0 p1 v3 v8 s1_11 s1_12 = some x) : LoopOK TE 26 (blk TE 26 0) (fun s : (Int × Int) => zfk p0 p1 v3 v8 s.1 s.2) (zVj p0 p1 v3 v8) (s1_11, s1_12) x := by
 unfold z7b at h
 refine cond_ok h (fun h201 g1 => ?_) (fun h201 g1 => ?_)
 ·refine bind_ok g1 (fun v202 h203 g2 => ?_)
  refine bind_ok g2 (fun v204 h205 g3 => ?_)
  refine cond_ok g3 (fun h206 g4 => ?_) (fun h206 g4 => ?_)
  ·cases g4
  ·exact zqn ((or64 s1_11 (shl64 1 v204)), (w64 (s1_12 + 1))) [] [(26, 7, 2, .q (xi (v8.1.length : Int))), (26, 7, 3, .q (xb true)), (26, 9, 3, .q (.d (.pin (zx v202)))), (26, 9, 7, .q (.d (.pin [(di v204)]))), (26, 9, 9, .q (xi (shl64 1 v204)))] [] g4 (ob (o_len zx v8.1) (ob (o_b h201) (ob (o_ia (e := zx) 3 h203 rfl) (ob (o_ia (e := eI) 1 h205 rfl) (ob (o_shl (x := 1) h206) ob0))))) (by kernel_rfl)
 ·exact zqo [(26, 7, 2, .q (xi (v8.1.length : Int))), (26, 7, 3, .q (xb false))] [] g1 (ob (o_len zx v8.1) (ob (o_b h201) ob0)) (by kernel_rfl)
theorem zVd (k : Nat) (p0 : za) (p1 : Int) (r : zt8) (h : zJd k p0 p1 = some r) : callP TE (ev TE) 26 [(.agg (zb p0)), (di p1)] = some (zyf r) := by
 unfold zJd at h
 refine bind_ok h (fun v1 h2 g1 => ?_)
 refine bind_ok g1 (fun v3 h4 g2 => ?_)
 refine cond_ok g2 (fun h5 g3 => ?_) (fun h5 g3 => ?_)
 ·exact fin_ok (g := zyf) g3 (zqc [(26, 1, 4, .q (xi (p0.Deliveries.1.length : Int))), (26, 1, 6, .c (db v1)), (26, 1, 7, .c (di v3)), (26, 2, 1, .q (xb true))] [] (ob (o_len zh p0.Deliveries.1) (ob (zE k p1 0 (w64 ((p0.Deliveries.1.length : Int) - 1)) _ h2) (ob (zod k p0 v1 _ h4) (ob (o_b h5) ob0)))) (by kernel_rfl))
 ·refine bind_ok g3 (fun v6 h7 g4 => ?_)
  refine bind_ok g4 (fun v8 h9 g5 => ?_)
  refine bind_ok g5 (fun v10 h11 g6 => ?_)
  refine bind_ok g6 (fun v12 h13 g7 => ?_)
  exact fin_ok (g := zyf) g7 (zqc [(26, 1, 4, .q (xi (p0.Deliveries.1.length : Int))), (26, 1, 6, .c (db v1)), (26, 1, 7, .c (di v3)), (26, 2, 1, .q (xb false)), (26, 4, 4, .q (.d (.pin (zh v6)))), (26, 4, 7, .c (dl zx v8.1 v8.2)), (26, 10, 3, .c (dl eI v12.1 v12.2))] [(26, 0, (.nor, zpe p0 p1 v3 v8 v10))] (ob (o_len zh p0.Deliveries.1) (ob (zE k p1 0 (w64 ((p0.Deliveries.1.length : Int) - 1)) _ h2) (ob (zod k p0 v1 _ h4) (ob (o_b h5) (ob (o_ia (e := zh) 5 h7 rfl) (ob (z3c k p0 v6.Shelf 0 _ h9) (ob (block_ok (id := 0) (r' := (.nor, zpe p0 p1 v3 v8 v10)) (zR (ztj k p0 p1 v3 v8) k _ _ h11) rfl) (ob (zUk k v10.1 p0.Days _ h13) ob0)))))))) (by kernel_rfl))
noncomputable def z6m (p0 p1 : (SL Int)) (s1_3 : Bool) (s1_4 : Int) (r : Bool) : TM := [(0, (.d (dl eI p0.1 p0.2))), (1, (.d (dl eI p1.1 p1.2))), (4, (xb false)), (5, (xb s1_3)), (6, (xi s1_4)), (18, (xb r))]
noncomputable def z2b (p0 p1 : (SL Int)) (s1_3 : Bool) (s1_4 : Int) (r : Bool) : St := ⟨(z6m p0 p1 s1_3 s1_4 r), ⟨[], []⟩, []⟩
noncomputable def zkm (p0 p1 : (SL Int)) (s1_3 : Bool) (s1_4 : Int) : TM := [(0, (.d (dl eI p0.1 p0.2))), (1, (.d (dl eI p1.1 p1.2))), (4, (xb false)), (5, (xb s1_3)), (6, (xi s1_4))]
theorem zDf (k : Nat) (p0 p1 : (SL Int)) (s1_3 : Bool) (s1_4 : Int) (r : Bool) (h : z9 k p0 p1 s1_3 s1_4 = some r) : ev TE 27 (rgn TE 27 3) ⟨(zkm p0 p1 s1_3 s1_4), ⟨[], []⟩, []⟩ = some (.nor, z2b p0 p1 s1_3 s1_4 r) := by
 unfold z9 at h
 refine cond_ok h (fun h401 g1 => ?_) (fun h401 g1 => ?_)
 ·exact fin2_ok (g := fun r => (Ex.nor, z2b p0 p1 s1_3 s1_4 r)) g1 (zqe [(27, 3, 1, .q (xb true)), (27, 3, 4, .q (xi (p0.1.length : Int)))] [] (ob (o_b h401) (ob (o_len eI p0.1) ob0)) (by kernel_rfl))
 ·exact fin2_ok (g := fun r => (Ex.nor, z2b p0 p1 s1_3 s1_4 r)) g1 (zqe [(27, 3, 1, .q (xb false))] [] (ob (o_b h401) ob0) (by kernel_rfl))
noncomputable def z4i (p0 p1 : (SL Int)) (s1_3 : Bool) (s1_4 : Int) : St := ⟨(zkm p0 p1 s1_3 s1_4), ⟨[], []⟩, []⟩
noncomputable def zvn (p0 p1 : (SL Int)) (r : zt1) : TM := [(0, (.d (dl eI p0.1 p0.2))), (1, (.d (dl eI p1.1 p1.2))), (4, (xb false)), (5, (xb r.1)), (6, (xi r.2)), (18, (xb false))]
noncomputable def z1d (p0 p1 : (SL Int)) (r : zt1) : St := ⟨(zvn p0 p1 r), ⟨[], []⟩, []⟩
noncomputable def z0i (p0 p1 : (SL Int)) : (Bool × Int) → Ex × St := fun r => ((.exit 0), z1d p0 p1 r)
theorem zIi (k : Nat) (p0 p1 : (SL Int)) (s1_3 : Bool) (s1_4 : Int) (x : (Bool × Int) ⊕ (Bool × Int)) (h : z8 k p0 p1 s1_3 s1_4 = some x) : LoopOK TE 27 (blk TE 27 0) (fun s : (Bool × Int) => z4i p0 p1 s.1 s.2) (z0i p0 p1) (s1_3, s1_4) x := by
 unfold z8 at h
 refine bind_ok h (fun v301 h302 g1 => ?_)
 refine cond_ok g1 (fun h303 g2 => ?_) (fun h303 g2 => ?_)
 ·subst h303
  refine bind_ok g2 (fun v304 h305 g3 => ?_)
  refine bind_ok g3 (fun v306 h307 g4 => ?_)
  exact zqn ((v304 == v306), (w64 (s1_4 + 1))) [] [(27, 5, 2, .q (.d (.pin [(di v304)]))), (27, 5, 6, .q (.d (.pin [(di v306)])))] [(27, 1000003, (.nor, z2b p0 p1 s1_3 s1_4 true))] g4 (ob (zDf k p0 p1 s1_3 s1_4 _ h302) (ob (o_ia (e := eI) 1 h305 rfl) (ob (o_ia (e := eI) 1 h307 rfl) ob0))) (by kernel_rfl)
 ·subst h303
  exact zqo [] [(27, 1000003, (.nor, z2b p0 p1 s1_3 s1_4 false))] g2 (ob (zDf k p0 p1 s1_3 s1_4 _ h302) ob0) (by kernel_rfl)
theorem zJb (k : Nat) (p0 p1 : (SL Int)) (r : Bool) (h : znb k p0 p1 = some r) : callP TE (ev TE) 27 [(dl eI p0.1 p0.2), (dl eI p1.1 p1.2)] = some (zSg r) := by
 unfold znb at h
 refine bind_ok h (fun v1 h2 g1 => ?_)
 exact fin_ok (g := zSg) g1 (zqc [(27, 1, 1, .q (xi (p0.1.length : Int))), (27, 1, 3, .q (xi (p1.1.length : Int)))] [(27, 0, (.nor, z1d p0 p1 v1))] (ob (o_len eI p0.1) (ob (o_len eI p1.1) (ob (block_ok (id := 0) (r' := (.nor, z1d p0 p1 v1)) (zR (zIi k p0 p1) k _ _ h2) rfl) ob0))) (by kernel_rfl))
theorem zNj (k : Nat) (p0 : zi) (r : Int) (h : zke k p0 = some r) : callP TE (ev TE) 84 [(.agg [(di p0.Low), (di p0.High)])] = some (zQg r) := by
 unfold zke at h
 exact fin_ok (g := zQg) h (zqc [] [] ob0 (by kernel_rfl))
noncomputable def zhn (s1_0 : Int) (p1 : (SL Int)) (s1_5 : Int) : TM := [(0, (xi s1_0)), (1, (.d (dl eI p1.1 p1.2))), (4, (xi 0)), (7, (.d (dl eI p1.1 p1.2))), (8, (xi (p1.1.length : Int))), (9, (xi s1_5))]
noncomputable def zFj (p1 : (SL Int)) (s1_0 s1_5 : Int) : St := ⟨(zhn s1_0 p1 s1_5), ⟨[], []⟩, []⟩
noncomputable def zFn (r : (Int × Int)) (p1 : (SL Int)) : TM := [(0, (xi r.1)), (1, (.d (dl eI p1.1 p1.2))), (4, (xi 0)), (7, (.d (dl eI p1.1 p1.2))), (8, (xi (p1.1.length : Int))), (9, (xi r.2)), (10, (xb false))]
noncomputable def zbe (p1 : (SL Int)) (r : (Int × Int)) : St := ⟨(zFn r p1), ⟨[], []⟩, []⟩
noncomputable def zuj (p1 : (SL Int)) : (Int × Int) → Ex × St := fun r => ((.exit 0), zbe p1 r)
theorem zYi (k : Nat) (p1 : (SL Int)) (s1_0 s1_5 : Int) (x : (Int × Int) ⊕ (Int × Int)) (h : zsb k p1 s1_0 s1_5 = some x) : LoopOK TE 65 (blk TE 65 0) (fun s : (Int × Int) => zFj p1 s.1 s.2) (zuj p1) (s1_0, s1_5) x := by
 unfold zsb at h
 refine cond_ok h (fun h201 g1 => ?_) (fun h201 g1 => ?_)
 ·refine bind_ok g1 (fun v202 h203 g2 => ?_)
  exact zqn ((if v202 > s1_0 then v202 else s1_0), (w64 (s1_5 + 1))) [] [(65, 2, 0, .q (xb true)), (65, 3, 0, .q (.d (.pin [(di v202)])))] [] g2 (ob (o_b h201) (ob (o_ia (e := eI) 1 h203 rfl) ob0)) (by kernel_rfl)
 ·exact zqo [(65, 2, 0, .q (xb false))] [] g1 (ob (o_b h201) ob0) (by kernel_rfl)
theorem zaf (k : Nat) (p0 : Int) (p1 : (SL Int)) (r : Int) (h : z0b k p0 p1 = some r) : callP TE (ev TE) 65 [(di p0), (dl eI p1.1 p1.2)] = some (z2g r) := by
 unfold z0b at h
 refine bind_ok h (fun v1 h2 g1 => ?_)
 exact fin_ok (g := z2g) g1 (zqc [(65, 1, 1, .q (xi (p1.1.length : Int)))] [(65, 0, (.nor, zbe p1 v1))] (ob (o_len eI p1.1) (ob (block_ok (id := 0) (r' := (.nor, zbe p1 v1)) (zR (zYi k p1) k _ _ h2) rfl) ob0)) (by kernel_rfl))
theorem z6j (k : Nat) (p0 : zi) (r : Int) (h : zle k p0 = some r) : callP TE (ev TE) 85 [(.agg [(di p0.Low), (di p0.High)])] = some (zNg r) := by
 unfold zle at h
 exact fin_ok (g := zNg) h (zqc [] [] ob0 (by kernel_rfl))
noncomputable def zZn (v1 : zt0) (s1_2 : Int) : TM := [(0, (.yld 0)), (1, (.d (.pin (aB 61 v1)))), (5, (.d (.agg (aB 61 v1)))), (6, (xi s1_2)), (7, (xb true)), (3, (xi s1_2)), (4, (xb (v1 s1_2.toNat))), (16, (xb false))]
noncomputable def z6l (p0 v1 : zt0) : TM := [(0, (.d (.agg (aB 61 p0)))), (zsp 1), (zsp 2), (zsp 3), (zsp 4), (zsp 5), (11, (.d (.fn 96 [] [(.pin (aB 61 v1))])))]
noncomputable def znd (p0 v1 : zt0) (s1_2 s1_6 s1_7 : Int) (r : (Int × Int)) : St := ⟨(zZn v1 s1_2), ⟨[], [[(zc 1 (aB 61 p0)), (2, (.cells [(xi 0), (xi 0)])), (3, (.cells [(xi r.1), (xi r.2)])), (4, (.cells [(.d (.fn 84 [] []))])), (5, (.cells [(.d (.fn 85 [] []))]))]]⟩, [⟨(z6l p0 v1), 0, rfP (blk TE 54 0), rfA (blk TE 54 0), rfB (blk TE 54 0), 54, .rdy⟩]⟩
noncomputable def z9m (v1 : zt0) (s1_2 : Int) : TM := [(0, (.yld 0)), (1, (.d (.pin (aB 61 v1)))), (5, (.d (.agg (aB 61 v1)))), (6, (xi s1_2)), (7, (xb true)), (3, (xi s1_2)), (4, (xb (v1 s1_2.toNat)))]
theorem zpj (k : Nat) (p0 v1 : zt0) (s1_2 s1_6 s1_7 : Int) (r : (Int × Int)) (h : z2d k p0 v1 s1_2 s1_6 s1_7 = some r) : ev TE 96 (rgn TE 96 3) ⟨(z9m v1 s1_2), ⟨[], [[(zc 1 (aB 61 p0)), (2, (.cells [(xi 0), (xi 0)])), (3, (.cells [(xi s1_6), (xi s1_7)])), (4, (.cells [(.d (.fn 84 [] []))])), (5, (.cells [(.d (.fn 85 [] []))]))]]⟩, [⟨(z6l p0 v1), 0, rfP (blk TE 54 0), rfA (blk TE 54 0), rfB (blk TE 54 0), 54, .rdy⟩]⟩ = some (.nor, znd p0 v1 s1_2 s1_6 s1_7 r) := by
 unfold z2d at h
 refine cond_ok h (fun h401 g1 => ?_) (fun h401 g1 => ?_)
 ·refine bind_ok g1 (fun v402 h403 g2 => ?_)
  refine bind_ok g2 (fun v404 h405 g3 => ?_)
  refine bind_ok g3 (fun v406 h407 g4 => ?_)
  refine bind_ok g4 (fun v408 h409 g5 => ?_)
  exact fin2_ok (g := fun r => (Ex.nor, znd p0 v1 s1_2 s1_6 s1_7 r)) g5 (zqe [(96, 3, 1, .q (xb true)), (54, 5, 3, .c (di v402)), (54, 5, 8, .c (di v404)), (54, 5, 13, .c (di v406)), (54, 5, 16, .c (di v408))] [] (ob (o_b h401) (ob (zNj k (⟨s1_6, s1_7⟩ : zi) _ h403) (ob (zaf k (w64 (0 - v402)) ([(w64 (0 - s1_2))], .ex) _ h405) (ob (z6j k (⟨s1_6, s1_7⟩ : zi) _ h407) (ob (zaf k v406 ([s1_2], .ex) _ h409) ob0))))) (by kernel_rfl))
 ·exact fin2_ok (g := fun r => (Ex.nor, znd p0 v1 s1_2 s1_6 s1_7 r)) g1 (zqe [(96, 3, 1, .q (xb false))] [] (ob (o_b h401) ob0) (by kernel_rfl))
noncomputable def zOn (v1 : zt0) (s1_2 : Int) : TM := [(0, (.yld 0)), (1, (.d (.pin (aB 61 v1)))), (5, (.d (.agg (aB 61 v1)))), (6, (xi s1_2))]
noncomputable def zQj (p0 v1 : zt0) (s1_2 s1_6 s1_7 : Int) : St := ⟨(zOn v1 s1_2), ⟨[], [[(zc 1 (aB 61 p0)), (2, (.cells [(xi 0), (xi 0)])), (3, (.cells [(xi s1_6), (xi s1_7)])), (4, (.cells [(.d (.fn 84 [] []))])), (5, (.cells [(.d (.fn 85 [] []))]))]]⟩, [⟨(z6l p0 v1), 0, rfP (blk TE 54 0), rfA (blk TE 54 0), rfB (blk TE 54 0), 54, .rdy⟩]⟩
noncomputable def zOm (v1 : zt0) (r : (Int × Int × Int)) : TM := [(0, (.yld 0)), (1, (.d (.pin (aB 61 v1)))), (5, (.d (.agg (aB 61 v1)))), (6, (xi r.1)), (7, (xb false))]
noncomputable def zse (p0 v1 : zt0) (r : (Int × Int × Int)) : St := ⟨(zOm v1 r), ⟨[], [[(zc 1 (aB 61 p0)), (2, (.cells [(xi 0), (xi 0)])), (3, (.cells [(xi r.2.1), (xi r.2.2)])), (4, (.cells [(.d (.fn 84 [] []))])), (5, (.cells [(.d (.fn 85 [] []))]))]]⟩, [⟨(z6l p0 v1), 0, rfP (blk TE 54 0), rfA (blk TE 54 0), rfB (blk TE 54 0), 54, .rdy⟩]⟩
noncomputable def z5j (p0 v1 : zt0) : (Int × Int × Int) → Ex × St := fun r => ((.exit 0), zse p0 v1 r)
theorem zGj (k : Nat) (p0 v1 : zt0) (s1_2 s1_6 s1_7 : Int) (x : (Int × Int × Int) ⊕ (Int × Int × Int)) (h : zXc k p0 v1 s1_2 s1_6 s1_7 = some x) : LoopOK TE 96 (blk TE 96 0) (fun s : (Int × Int × Int) => zQj p0 v1 s.1 s.2.1 s.2.2) (z5j p0 v1) (s1_2, s1_6, s1_7) x := by
 unfold zXc at h
 refine cond_ok h (fun h301 g1 => ?_) (fun h301 g1 => ?_)
 ·refine guard_ok g1 (fun h302 g2 => ?_)
  refine bind_ok g2 (fun v303 h304 g3 => ?_)
  exact zqn ((w64 (s1_2 + 1)), v303.1, v303.2) [] [(96, 1, 0, .q (xb true)), (96, 2, 1, .q (xb (v1 s1_2.toNat)))] [(96, 1000003, (.nor, znd p0 v1 s1_2 s1_6 s1_7 v303))] g3 (ob (o_b h301) (ob (o_ixB 61 v1 s1_2 h302) (ob (zpj k p0 v1 s1_2 s1_6 s1_7 _ h304) ob0))) (by kernel_rfl)
 ·exact zqo [(96, 1, 0, .q (xb false))] [] g1 (ob (o_b h301) ob0) (by kernel_rfl)
theorem zZc (k : Nat) (p0 : zt0) (r : zi) (h : zob k p0 = some r) : callP TE (ev TE) 54 [(.agg (aB 61 p0))] = some (zfh r) := by
 unfold zob at h
 refine bind_ok h (fun v1 h2 g1 => ?_)
 refine bind_ok g1 (fun v3 h4 g2 => ?_)
 exact fin_ok (g := zfh) g2 (zqc [(54, 3, 1, .c (.fn 96 [] [(.pin (aB 61 v1))]))] [(96, 0, (.nor, zse p0 v1 v3))] (ob (z6c k p0 _ h2) (ob (block_ok (id := 0) (r' := (.nor, zse p0 v1 v3)) (zhm (zGj k p0 v1) k _ _ h4) rfl) ob0)) (by kernel_rfl))
noncomputable def zUm (p0 : za) (p1 v3 s1_9 : Int) : TM := [(0, (.d (.agg (zb p0)))), (1, (xi p1)), (zsp 2), (zsp 4), (5, (xi 0)), (6, (xi v3)), (20, (xb false)), (zsp 7), (zsp 8), (9, (xi s1_9))]
noncomputable def zMl (p0 : za) (p1 v3 : Int) (v6 : zy) (s1_9 : Int) (s1_17 : zt0) : St := ⟨(zUm p0 p1 v3 s1_9), ⟨[(zc 2 (zb p0)), (4, (.cells [(xi 0), (xi 0)])), (zc 7 (aB 61 s1_17)), (zc 8 (zl v6))], []⟩, []⟩
noncomputable def zRn (p0 : za) (p1 v3 : Int) (r : zt12) : TM := [(0, (.d (.agg (zb p0)))), (1, (xi p1)), (zsp 2), (zsp 4), (5, (xi 0)), (6, (xi v3)), (20, (xb false)), (zsp 7), (zsp 8), (9, (xi r.1)), (35, (xb false))]
noncomputable def zrg (p0 : za) (p1 v3 : Int) (v6 : zy) (r : zt12) : St := ⟨(zRn p0 p1 v3 r), ⟨[(zc 2 (zb p0)), (4, (.cells [(xi 0), (xi 0)])), (zc 7 (aB 61 r.2)), (zc 8 (zl v6))], []⟩, []⟩
noncomputable def zKl (p0 : za) (p1 v3 : Int) (v6 : zy) : (Int × (Nat → Bool)) → Ex × St := fun r => ((.exit 0), zrg p0 p1 v3 v6 r)
theorem zjl (k : Nat) (p0 : za) (p1 v3 : Int) (v6 : zy) (s1_9 : Int) (s1_17 : zt0) (x : (Int × (Nat → Bool)) ⊕ (Int × (Nat → Bool))) (h : z5e k p0 p1 v3 v6 s1_9 s1_17 = some x) : LoopOK TE 28 (blk TE 28 0) (fun s : (Int × (Nat → Bool)) => zMl p0 p1 v3 v6 s.1 s.2) (zKl p0 p1 v3 v6) (s1_9, s1_17) x := by
 unfold z5e at h
 refine cond_ok h (fun h201 g1 => ?_) (fun h201 g1 => ?_)
 ·refine cond_ok g1 (fun h202 g2 => ?_) (fun h202 g2 => ?_)
  ·cases g2
  ·refine guard_ok g2 (fun h203 g3 => ?_)
   refine bind_ok g3 (fun v204 h205 g4 => ?_)
   refine bind_ok g4 (fun v206 h207 g5 => ?_)
   refine guard_ok g5 (fun h208 g6 => ?_)
   exact zqn ((w64 (s1_9 + 1)), (upd s1_17 s1_9.toNat v206)) [] [(28, 7, 4, .q (xb true)), (68, 1, 1, .q (xb false)), (68, 3, 2, .ns (p0.Moves.1.map zl) p0.Moves.1.length), (28, 11, 6, .q (.rp 0 41 p0.Moves.1.length p1.toNat 0)), (28, 11, 7, .q (.rp 0 41 p0.Moves.1.length p1.toNat 3)), (28, 11, 8, .rs (rowO false 5 zl (p0.Moves.1.set p1.toNat (⟨v204.Day, v204.Shelf, v204.Back, (⟨s1_9, s1_9⟩ : zi)⟩ : zy)) true)), (28, 11, 999, .nm [] [(10, 2, (p0.Moves.1.set p1.toNat (⟨v204.Day, v204.Shelf, v204.Back, (⟨s1_9, s1_9⟩ : zi)⟩ : zy)).length)]), (28, 12, 5, .cr [((dl zl (p0.Moves.1.set p1.toNat (⟨v204.Day, v204.Shelf, v204.Back, (⟨s1_9, s1_9⟩ : zi)⟩ : zy)) (rcap false (p0.Moves.1.set p1.toNat (⟨v204.Day, v204.Shelf, v204.Back, (⟨s1_9, s1_9⟩ : zi)⟩ : zy)))), (rowO false 5 zl (p0.Moves.1.set p1.toNat (⟨v204.Day, v204.Shelf, v204.Back, (⟨s1_9, s1_9⟩ : zi)⟩ : zy)) false))] (db v206)), (28, 12, 6, .q (.ptr 0 7 (s1_9.toNat))), (28, 12, 7, .st ((aB 61 (upd s1_17 s1_9.toNat v206)).map .d))] [] g6 (ob (o_b h201) (ob (o_b h202) (ob (o_nsl p0.Moves.1 zl) (ob (o_ns (P := TE.P) (φ := fun _ _ => none) (T := 23) (q := (5, [(di 0), (di 0), (db false), (di 0), (di 0)])) (c := p0.Moves.2) (e := zl) p0.Moves.1 (by kernel_rfl) (fun _ => rfl) h203) (ob (rfl : (([] : List (List D)).isEmpty || !(p0.Moves.1.map zl).isEmpty) = true) (ob (o_nsl p0.Moves.1 zl) (ob (zqa 23 40 0 41 p1 false 5 zl p0.Moves.1 true (by kernel_rfl) (by kernel_rfl) h205) (ob (zqf 73 (3, 2, true) 0 41 0 3 p1 false 5 zl p0.Moves.1 true (by kernel_rfl) (by decide) h205) (ob (o_rs (b := false) (z := 5) (e := zl) (l := p0.Moves.1) (o := 3) (n := 2) (ds := [(di s1_9), (di s1_9)]) (i := p1) (y' := (⟨v204.Day, v204.Shelf, v204.Back, (⟨s1_9, s1_9⟩ : zi)⟩ : zy)) h205 (Nat.le_of_ble_eq_true rfl) rfl) (ob (show p0.Moves.1.length = (p0.Moves.1.set p1.toNat (⟨v204.Day, v204.Shelf, v204.Back, (⟨s1_9, s1_9⟩ : zi)⟩ : zy)).length by simp) (ob (o_cr false 5 zl (p0.Moves.1.set p1.toNat (⟨v204.Day, v204.Shelf, v204.Back, (⟨s1_9, s1_9⟩ : zi)⟩ : zy)) true 0 41) (ob (zRd k (⟨(⟨p0.Days, p0.Shelves, ((p0.Moves.1.set p1.toNat (⟨v204.Day, v204.Shelf, v204.Back, (⟨s1_9, s1_9⟩ : zi)⟩ : zy)), (rcap false (p0.Moves.1.set p1.toNat (⟨v204.Day, v204.Shelf, v204.Back, (⟨s1_9, s1_9⟩ : zi)⟩ : zy)))), p0.Deliveries, p0.Counts⟩ : za), v6.Shelf, 0⟩ : zd) _ h207) (ob (o_aptr (m := 61) 0 7 0 1 s1_9.toNat h208 (by omega)) (ob (o_stB 61 s1_17 s1_9.toNat v206 (by have := h208; simp only [Bool.and_eq_true, decide_eq_true_eq] at this; omega)) ob0)))))))))))))) (by kernel_rfl)
 ·exact zqo [(28, 7, 4, .q (xb false))] [] g1 (ob (o_b h201) ob0) (by kernel_rfl)
theorem zgb (k : Nat) (p0 : za) (p1 : Int) (r : (zi × Int)) (h : ztf k p0 p1 = some r) : callP TE (ev TE) 28 [(.agg (zb p0)), (di p1)] = some (zgi r) := by
 unfold ztf at h
 refine bind_ok h (fun v1 h2 g1 => ?_)
 refine bind_ok g1 (fun v3 h4 g2 => ?_)
 refine cond_ok g2 (fun h5 g3 => ?_) (fun h5 g3 => ?_)
 ·exact fin_ok (g := zgi) g3 (zqc [(28, 1, 4, .q (xi (p0.Moves.1.length : Int))), (28, 1, 6, .c (db v1)), (28, 1, 7, .c (di v3)), (28, 2, 1, .q (xb true))] [] (ob (o_len zl p0.Moves.1) (ob (zC k p1 0 (w64 ((p0.Moves.1.length : Int) - 1)) _ h2) (ob (zab k p0 v1 _ h4) (ob (o_b h5) ob0)))) (by kernel_rfl))
 ·refine bind_ok g3 (fun v6 h7 g4 => ?_)
  refine bind_ok g4 (fun v8 h9 g5 => ?_)
  refine bind_ok g5 (fun v10 h11 g6 => ?_)
  exact fin_ok (g := zgi) g6 (zqc [(28, 1, 4, .q (xi (p0.Moves.1.length : Int))), (28, 1, 6, .c (db v1)), (28, 1, 7, .c (di v3)), (28, 2, 1, .q (xb false)), (28, 5, 3, .q (.d (.pin (zl v6)))), (28, 13, 1, .c (.agg [(di v10.Low), (di v10.High)]))] [(28, 0, (.nor, zrg p0 p1 v3 v6 v8))] (ob (o_len zl p0.Moves.1) (ob (zC k p1 0 (w64 ((p0.Moves.1.length : Int) - 1)) _ h2) (ob (zab k p0 v1 _ h4) (ob (o_b h5) (ob (o_ia (e := zl) 5 h7 rfl) (ob (block_ok (id := 0) (r' := (.nor, zrg p0 p1 v3 v6 v8)) (zR (zjl k p0 p1 v3 v6) k _ _ h9) rfl) (ob (zZc k v8.2 _ h11) ob0))))))) (by kernel_rfl))
noncomputable def zsn (p0 : (SL zi)) (s1_1 : Int) : TM := [(0, (.d (dl zw p0.1 p0.2))), (zsp 2), (zsp 3), (4, (xi s1_1))]
noncomputable def zxj (p0 : (SL zi)) (s1_1 s1_4 s1_5 : Int) : St := ⟨(zsn p0 s1_1), ⟨[(2, (.cells [(xi 0), (xi 0)])), (3, (.cells [(xi s1_4), (xi s1_5)]))], []⟩, []⟩
noncomputable def zwn (p0 : (SL zi)) (r : (Int × Int × Int)) : TM := [(0, (.d (dl zw p0.1 p0.2))), (zsp 2), (zsp 3), (4, (xi r.1)), (11, (xb false))]
noncomputable def z9d (p0 : (SL zi)) (r : (Int × Int × Int)) : St := ⟨(zwn p0 r), ⟨[(2, (.cells [(xi 0), (xi 0)])), (3, (.cells [(xi r.2.1), (xi r.2.2)]))], []⟩, []⟩
noncomputable def zBj (p0 : (SL zi)) : (Int × Int × Int) → Ex × St := fun r => ((.exit 0), z9d p0 r)
theorem z2i (k : Nat) (p0 : (SL zi)) (s1_1 s1_4 s1_5 : Int) (x : (Int × Int × Int) ⊕ (Int × Int × Int)) (h : zJc k p0 s1_1 s1_4 s1_5 = some x) : LoopOK TE 57 (blk TE 57 0) (fun s : (Int × Int × Int) => zxj p0 s.1 s.2.1 s.2.2) (zBj p0) (s1_1, s1_4, s1_5) x := by
 unfold zJc at h
 refine cond_ok h (fun h201 g1 => ?_) (fun h201 g1 => ?_)
 ·refine bind_ok g1 (fun v202 h203 g2 => ?_)
  refine bind_ok g2 (fun v204 h205 g3 => ?_)
  refine bind_ok g3 (fun v206 h207 g4 => ?_)
  exact zqn ((w64 (s1_1 + 1)), v206.Low, v206.High) [] [(57, 3, 2, .q (xi (p0.1.length : Int))), (57, 3, 3, .q (xb true)), (57, 5, 4, .q (.d (.pin [(di v202.Low), (di v202.High)]))), (57, 5, 12, .q (.d (.pin [(di v204.Low), (di v204.High)]))), (57, 5, 16, .c (.agg [(di v206.Low), (di v206.High)]))] [] g4 (ob (o_len zw p0.1) (ob (o_b h201) (ob (o_ia (e := zw) 2 h203 rfl) (ob (o_ia (e := zw) 2 h205 rfl) (ob (zF k (if v202.Low < s1_4 then v202.Low else s1_4) (if v204.High > s1_5 then v204.High else s1_5) _ h207) ob0))))) (by kernel_rfl)
 ·exact zqo [(57, 3, 2, .q (xi (p0.1.length : Int))), (57, 3, 3, .q (xb false))] [] g1 (ob (o_len zw p0.1) (ob (o_b h201) ob0)) (by kernel_rfl)
theorem zBk (k : Nat) (p0 : (SL zi)) (r : zi) (h : zud k p0 = some r) : callP TE (ev TE) 57 [(dl zw p0.1 p0.2)] = some (zah r) := by
 unfold zud at h
 refine bind_ok h (fun v1 h2 g1 => ?_)
 refine bind_ok g1 (fun v3 h4 g2 => ?_)
 exact fin_ok (g := zah) g2 (zqc [(57, 1, 1, .q (.d (.pin [(di v1.Low), (di v1.High)])))] [(57, 0, (.nor, z9d p0 v3))] (ob (o_ia (e := zw) 2 h2 rfl) (ob (block_ok (id := 0) (r' := (.nor, z9d p0 v3)) (zhm (z2i k p0) k _ _ h4) rfl) ob0)) (by kernel_rfl))
noncomputable def zLn (p0 : za) (p1 v3 : Int) (v8 : (SL zu)) (s9_20 : zt10) (s1_10 s9_12 : Int) (r : (Bool × Int × Int)) : TM := [(0, (.d (.agg (zb p0)))), (1, (xi p1)), (zsp 2), (zsp 4), (5, (xi 0)), (6, (xi v3)), (23, (xb false)), (7, (.d (dl zx v8.1 v8.2))), (8, (.row 0 8 s9_20.length)), (9, (xi s1_10)), (37, (xb true)), (10, (xi s9_12)), (47, (xb true)), (60, (xb false)), (zsp 11), (zsp 12), (zsp 13), (105, (xb r.1))]
noncomputable def zOc (p0 : za) (p1 v3 : Int) (v8 : (SL zu)) (s1_10 s9_12 : Int) (s9_20 : zt10) (v1111 v1115 v1123 : zi) (cb : Bool) (r : (Bool × Int × Int)) : St := ⟨(zLn p0 p1 v3 v8 s9_20 s1_10 s9_12 r), ⟨[(zc 2 (zb p0)), (4, (.cells [(xi 0), (xi 0)])), (8, (rowO true 2 zw s9_20 true)), (11, (.cells [(xi v1111.Low), (xi v1111.High)])), (12, (.cells [(xi v1115.Low), (xi v1115.High)])), (13, (.cells [(xi r.2.1), (xi r.2.2)]))], []⟩, []⟩
noncomputable def zZm (p0 : za) (p1 v3 : Int) (v8 : (SL zu)) (s9_20 : zt10) (s1_10 s9_12 : Int) (cb : Bool) : TM := [(0, (.d (.agg (zb p0)))), (1, (xi p1)), (zsp 2), (zsp 4), (5, (xi 0)), (6, (xi v3)), (23, (xb false)), (7, (.d (dl zx v8.1 v8.2))), (8, (.row 0 8 s9_20.length)), (9, (xi s1_10)), (37, (xb true)), (10, (xi s9_12)), (47, (xb true)), (60, (xb false)), (zsp 11), (zsp 12), (zsp 13), (105, (xb cb))]
theorem z5h (k : Nat) (p0 : za) (p1 v3 : Int) (v8 : (SL zu)) (s1_10 s9_12 : Int) (s9_20 : zt10) (v1111 v1115 v1123 : zi) (cb : Bool) (r : (Bool × Int × Int)) (h : zcc k p0 p1 v3 v8 s1_10 s9_12 s9_20 v1111 v1115 v1123 cb = some r) : ev TE 29 (cnd TE 29 105) ⟨(zZm p0 p1 v3 v8 s9_20 s1_10 s9_12 cb), ⟨[(zc 2 (zb p0)), (4, (.cells [(xi 0), (xi 0)])), (8, (rowO true 2 zw s9_20 true)), (11, (.cells [(xi v1111.Low), (xi v1111.High)])), (12, (.cells [(xi v1115.Low), (xi v1115.High)])), (13, (.cells [(xi v1123.Low), (xi v1123.High)]))], []⟩, []⟩ = some (.nor, zOc p0 p1 v3 v8 s1_10 s9_12 s9_20 v1111 v1115 v1123 cb r) := by
 unfold zcc at h
 refine cond_ok h (fun h1201 g1 => ?_) (fun h1201 g1 => ?_)
 ·subst h1201
  refine bind_ok g1 (fun v1202 h1203 g2 => ?_)
  exact fin2_ok (g := fun r => (Ex.nor, zOc p0 p1 v3 v8 s1_10 s9_12 s9_20 v1111 v1115 v1123 true r)) g2 (zqe [(29, 16, 6, .c (.agg [(di v1202.Low), (di v1202.High)]))] [] (ob (zF k (w64 (0 - v1123.High)) (w64 (0 - v1123.Low)) _ h1203) ob0) (by kernel_rfl))
 ·subst h1201
  exact fin2_ok (g := fun r => (Ex.nor, zOc p0 p1 v3 v8 s1_10 s9_12 s9_20 v1111 v1115 v1123 false r)) g1 (zqe [] [] ob0 (by kernel_rfl))
noncomputable def zdn (p0 : za) (p1 v3 : Int) (v8 : (SL zu)) (s9_20 : zt10) (s1_10 s9_12 : Int) : TM := [(0, (.d (.agg (zb p0)))), (1, (xi p1)), (zsp 2), (zsp 4), (5, (xi 0)), (6, (xi v3)), (23, (xb false)), (7, (.d (dl zx v8.1 v8.2))), (8, (.row 0 8 s9_20.length)), (9, (xi s1_10)), (37, (xb true)), (10, (xi s9_12))]
noncomputable def z7i (p0 : za) (p1 v3 : Int) (v8 : (SL zu)) (s1_10 s9_12 : Int) (s9_20 : zt10) : St := ⟨(zdn p0 p1 v3 v8 s9_20 s1_10 s9_12), ⟨[(zc 2 (zb p0)), (4, (.cells [(xi 0), (xi 0)])), (8, (rowO true 2 zw s9_20 true))], []⟩, []⟩
noncomputable def z1n (p0 : za) (p1 v3 : Int) (v8 : (SL zu)) (r : zt14) (s1_10 : Int) : TM := [(0, (.d (.agg (zb p0)))), (1, (xi p1)), (zsp 2), (zsp 4), (5, (xi 0)), (6, (xi v3)), (23, (xb false)), (7, (.d (dl zx v8.1 v8.2))), (8, (.row 0 8 r.2.length)), (9, (xi s1_10)), (37, (xb true)), (10, (xi r.1)), (47, (xb false))]
noncomputable def zWd (p0 : za) (p1 v3 : Int) (v8 : (SL zu)) (s1_10 : Int) (r : zt14) : St := ⟨(z1n p0 p1 v3 v8 r s1_10), ⟨[(zc 2 (zb p0)), (4, (.cells [(xi 0), (xi 0)])), (8, (rowO true 2 zw r.2 true))], []⟩, []⟩
noncomputable def z8i (p0 : za) (p1 v3 : Int) (v8 : (SL zu)) (s1_10 : Int) : (Int × (List zi)) → Ex × St := fun r => ((.exit 2), zWd p0 p1 v3 v8 s1_10 r)
theorem zQi (k : Nat) (p0 : za) (p1 v3 : Int) (v8 : (SL zu)) (s1_10 s9_12 : Int) (s9_20 : zt10) (x : (Int × (List zi)) ⊕ (Int × (List zi))) (h : zIb k p0 p1 v3 v8 s1_10 s9_12 s9_20 = some x) : LoopOK TE 29 (blk TE 29 2) (fun s : (Int × (List zi)) => z7i p0 p1 v3 v8 s1_10 s.1 s.2) (z8i p0 p1 v3 v8 s1_10) (s9_12, s9_20) x := by
 unfold zIb at h
 refine bind_ok h (fun v1101 h1102 g1 => ?_)
 refine cond_ok g1 (fun h1103 g2 => ?_) (fun h1103 g2 => ?_)
 ·refine bind_ok g2 (fun v1104 h1105 g3 => ?_)
  refine bind_ok g3 (fun v1106 h1107 g4 => ?_)
  refine cond_ok g4 (fun h1108 g5 => ?_) (fun h1108 g5 => ?_)
  ·exact zqn ((w64 (s9_12 + 1)), s9_20) [8] [(29, 10, 3, .q (.d (.pin (zx v1101)))), (29, 10, 6, .q (xi (v1101.events.1.length : Int))), (29, 10, 7, .q (xb true)), (29, 12, 2, .q (.d (.pin (zx v1104)))), (29, 12, 6, .q (.d (.pin (zt v1106)))), (29, 12, 10, .q (xb true))] [] g5 (ob (o_ia (e := zx) 3 h1102 rfl) (ob (o_len zt v1101.events.1) (ob (o_b h1103) (ob (o_ia (e := zx) 3 h1105 rfl) (ob (o_ia (e := zt) 6 h1107 rfl) (ob (o_b h1108) (ob (o_ref true 2 zw s9_20 true) ob0))))))) (by kernel_rfl)
  ·refine bind_ok g5 (fun v1109 h1110 g6 => ?_)
   refine bind_ok g6 (fun v1111 h1112 g7 => ?_)
   refine bind_ok g7 (fun v1113 h1114 g8 => ?_)
   refine bind_ok g8 (fun v1115 h1116 g9 => ?_)
   refine bind_ok g9 (fun v1117 h1118 g10 => ?_)
   refine bind_ok g10 (fun v1119 h1120 g11 => ?_)
   refine bind_ok g11 (fun v1121 h1122 g12 => ?_)
   refine bind_ok g12 (fun v1123 h1124 g13 => ?_)
   refine bind_ok g13 (fun v1125 h1126 g14 => ?_)
   refine bind_ok g14 (fun v1127 h1128 g15 => ?_)
   refine guard_ok g15 (fun h1129 g16 => ?_)
   exact zqn ((w64 (s9_12 + 1)), (s9_20 ++ [(⟨v1127.2.1, v1127.2.2⟩ : zi)])) [8] [(29, 10, 3, .q (.d (.pin (zx v1101)))), (29, 10, 6, .q (xi (v1101.events.1.length : Int))), (29, 10, 7, .q (xb true)), (29, 12, 2, .q (.d (.pin (zx v1104)))), (29, 12, 6, .q (.d (.pin (zt v1106)))), (29, 12, 10, .q (xb false)), (29, 13, 2, .q (.d (.pin (zx v1109)))), (29, 13, 6, .q (.d (.pin [(di v1111.Low), (di v1111.High)]))), (29, 13, 10, .q (.d (.pin (zx v1113)))), (29, 13, 15, .q (.d (.pin [(di v1115.Low), (di v1115.High)]))), (29, 14, 2, .q (.d (.pin (zx v1117)))), (29, 14, 6, .q (.d (.pin (zt v1119)))), (29, 14, 19, .c (.agg [(di v1121.Low), (di v1121.High)])), (29, 14, 20, .c (.agg [(di v1123.Low), (di v1123.High)])), (29, 15, 3, .q (.d (.pin (zl v1125)))), (29, 17, 3, .ap (s9_20 ++ [(⟨v1127.2.1, v1127.2.2⟩ : zi)]).length (rowO true 2 zw (s9_20 ++ [(⟨v1127.2.1, v1127.2.2⟩ : zi)]) true))] [(29, 2000105, (.nor, zOc p0 p1 v3 v8 s1_10 s9_12 s9_20 v1111 v1115 v1123 (!v1125.Back) v1127))] g16 (ob (o_ia (e := zx) 3 h1102 rfl) (ob (o_len zt v1101.events.1) (ob (o_b h1103) (ob (o_ia (e := zx) 3 h1105 rfl) (ob (o_ia (e := zt) 6 h1107 rfl) (ob (o_b h1108) (ob (o_ia (e := zx) 3 h1110 rfl) (ob (o_ia (e := zw) 2 h1112 rfl) (ob (o_ia (e := zx) 3 h1114 rfl) (ob (o_ia (e := zw) 2 h1116 rfl) (ob (o_ia (e := zx) 3 h1118 rfl) (ob (o_ia (e := zt) 6 h1120 rfl) (ob (zF k (w64 (v1115.Low - v1111.High)) (w64 (v1115.High - v1111.Low)) _ h1122) (ob (z2c k v1119.by_ v1121 _ h1124) (ob (o_ia (e := zl) 5 h1126 rfl) (ob (z5h k p0 p1 v3 v8 s1_10 s9_12 s9_20 v1111 v1115 v1123 (!v1125.Back) _ h1128) (ob (o_ap (b := true) (z := 2) (e := zw) (l := s9_20) (w := true) (⟨v1127.2.1, v1127.2.2⟩ : zi) (fun _ => rfl) h1129) (ob (o_ref true 2 zw (s9_20 ++ [(⟨v1127.2.1, v1127.2.2⟩ : zi)]) true) ob0)))))))))))))))))) (by kernel_rfl)
 ·exact zqo [(29, 10, 3, .q (.d (.pin (zx v1101)))), (29, 10, 6, .q (xi (v1101.events.1.length : Int))), (29, 10, 7, .q (xb false))] [] g2 (ob (o_ia (e := zx) 3 h1102 rfl) (ob (o_len zt v1101.events.1) (ob (o_b h1103) ob0))) (by kernel_rfl)
noncomputable def zwm (p0 : za) (p1 v3 : Int) (v8 : (SL zu)) (s1_18 : zt10) (s1_10 : Int) : TM := [(0, (.d (.agg (zb p0)))), (1, (xi p1)), (zsp 2), (zsp 4), (5, (xi 0)), (6, (xi v3)), (23, (xb false)), (7, (.d (dl zx v8.1 v8.2))), (8, (.row 0 8 s1_18.length)), (9, (xi s1_10))]
noncomputable def zhj (p0 : za) (p1 v3 : Int) (v8 : (SL zu)) (s1_10 : Int) (s1_18 : zt10) : St := ⟨(zwm p0 p1 v3 v8 s1_18 s1_10), ⟨[(zc 2 (zb p0)), (4, (.cells [(xi 0), (xi 0)])), (8, (rowO true 2 zw s1_18 true))], []⟩, []⟩
noncomputable def zrm (p0 : za) (p1 v3 : Int) (v8 : (SL zu)) (r : zt14) : TM := [(0, (.d (.agg (zb p0)))), (1, (xi p1)), (zsp 2), (zsp 4), (5, (xi 0)), (6, (xi v3)), (23, (xb false)), (7, (.d (dl zx v8.1 v8.2))), (8, (.row 0 8 r.2.length)), (9, (xi r.1)), (37, (xb false))]
noncomputable def zZd (p0 : za) (p1 v3 : Int) (v8 : (SL zu)) (r : zt14) : St := ⟨(zrm p0 p1 v3 v8 r), ⟨[(zc 2 (zb p0)), (4, (.cells [(xi 0), (xi 0)])), (8, (rowO true 2 zw r.2 true))], []⟩, []⟩
noncomputable def zkj (p0 : za) (p1 v3 : Int) (v8 : (SL zu)) : (Int × (List zi)) → Ex × St := fun r => ((.exit 0), zZd p0 p1 v3 v8 r)
theorem zFi (k : Nat) (p0 : za) (p1 v3 : Int) (v8 : (SL zu)) (s1_10 : Int) (s1_18 : zt10) (x : (Int × (List zi)) ⊕ (Int × (List zi))) (h : zLb k p0 p1 v3 v8 s1_10 s1_18 = some x) : LoopOK TE 29 (blk TE 29 0) (fun s : (Int × (List zi)) => zhj p0 p1 v3 v8 s.1 s.2) (zkj p0 p1 v3 v8) (s1_10, s1_18) x := by
 unfold zLb at h
 refine cond_ok h (fun h901 g1 => ?_) (fun h901 g1 => ?_)
 ·refine bind_ok g1 (fun v902 h903 g2 => ?_)
  exact zqn ((w64 (s1_10 + 1)), v902.2) [8] [(29, 7, 2, .q (xi (v8.1.length : Int))), (29, 7, 3, .q (xb true))] [(29, 2, (.nor, zWd p0 p1 v3 v8 s1_10 v902))] g2 (ob (o_len zx v8.1) (ob (o_b h901) (ob (block_ok (id := 2) (r' := (.nor, zWd p0 p1 v3 v8 s1_10 v902)) (zR (zQi k p0 p1 v3 v8 s1_10) k _ _ h903) rfl) (ob (o_ref true 2 zw v902.2 true) ob0)))) (by kernel_rfl)
 ·exact zqo [(29, 7, 2, .q (xi (v8.1.length : Int))), (29, 7, 3, .q (xb false))] [] g1 (ob (o_len zx v8.1) (ob (o_b h901) ob0)) (by kernel_rfl)
theorem zMe (k : Nat) (p0 : za) (p1 : Int) (r : (zi × Int)) (h : zdd k p0 p1 = some r) : callP TE (ev TE) 29 [(.agg (zb p0)), (di p1)] = some (z4e r) := by
 unfold zdd at h
 refine bind_ok h (fun v1 h2 g1 => ?_)
 refine bind_ok g1 (fun v3 h4 g2 => ?_)
 refine cond_ok g2 (fun h5 g3 => ?_) (fun h5 g3 => ?_)
 ·exact fin_ok (g := z4e) g3 (zqc [(29, 1, 4, .q (xi (p0.Moves.1.length : Int))), (29, 1, 6, .c (db v1)), (29, 1, 7, .c (di v3)), (29, 2, 1, .q (xb true))] [] (ob (o_len zl p0.Moves.1) (ob (zE k p1 0 (w64 ((p0.Moves.1.length : Int) - 1)) _ h2) (ob (zod k p0 v1 _ h4) (ob (o_b h5) ob0)))) (by kernel_rfl))
 ·refine bind_ok g3 (fun v6 h7 g4 => ?_)
  refine bind_ok g4 (fun v8 h9 g5 => ?_)
  refine bind_ok g5 (fun v10 h11 g6 => ?_)
  refine bind_ok g6 (fun v12 h13 g7 => ?_)
  exact fin_ok (g := z4e) g7 (zqc [(29, 1, 4, .q (xi (p0.Moves.1.length : Int))), (29, 1, 6, .c (db v1)), (29, 1, 7, .c (di v3)), (29, 2, 1, .q (xb false)), (29, 4, 4, .q (.d (.pin (zl v6)))), (29, 4, 7, .c (dl zx v8.1 v8.2)), (29, 18, 1, .cr [((dl zw v10.2 (rcap true v10.2)), (rowO true 2 zw v10.2 false))] (.agg [(di v12.Low), (di v12.High)]))] [(29, 0, (.nor, zZd p0 p1 v3 v8 v10))] (ob (o_len zl p0.Moves.1) (ob (zE k p1 0 (w64 ((p0.Moves.1.length : Int) - 1)) _ h2) (ob (zod k p0 v1 _ h4) (ob (o_b h5) (ob (o_ia (e := zl) 5 h7 rfl) (ob (z3c k p0 v6.Shelf 0 _ h9) (ob (block_ok (id := 0) (r' := (.nor, zZd p0 p1 v3 v8 v10)) (zR (zFi k p0 p1 v3 v8) k _ _ h11) rfl) (ob (o_cr true 2 zw v10.2 true 0 8) (ob (zBk k (v10.2, (rcap true v10.2)) _ h13) ob0))))))))) (by kernel_rfl))
theorem zI (k : Nat) (p0 p1 p2 p3 : Int) (r : zp) (h : zoc k p0 p1 p2 p3 = some r) : callP TE (ev TE) 44 [(di p0), (di p1), (di p2), (di p3)] = some (zRg r) := by
 unfold zoc at h
 exact fin_ok (g := zRg) h (zqc [] [] ob0 (by kernel_rfl))
theorem zo (k : Nat) (p0 : (SL zp)) (r : za) (h : z7 k p0 = some r) : callP TE (ev TE) 50 [(dl zj p0.1 p0.2)] = some (z4g r) := by
 unfold z7 at h
 refine bind_ok h (fun v1 h2 g1 => ?_)
 refine bind_ok g1 (fun v3 h4 g2 => ?_)
 refine bind_ok g2 (fun v5 h6 g3 => ?_)
 refine bind_ok g3 (fun v7 h8 g4 => ?_)
 refine bind_ok g4 (fun v9 h10 g5 => ?_)
 refine bind_ok g5 (fun v11 h12 g6 => ?_)
 refine bind_ok g6 (fun v13 h14 g7 => ?_)
 refine bind_ok g7 (fun v15 h16 g8 => ?_)
 refine bind_ok g8 (fun v17 h18 g9 => ?_)
 refine bind_ok g9 (fun v19 h20 g10 => ?_)
 refine guard_ok g10 (fun h21 g11 => ?_)
 exact fin_ok (g := z4g) g11 (zqc [(50, 1, 0, .c (.agg [(di v1.Low), (di v1.High)])), (50, 1, 2, .c (.agg [(di v3.Low), (di v3.High)])), (50, 1, 5, .c (.agg [(di v5.Low), (di v5.High)])), (50, 1, 7, .c (.agg [(di v7.Low), (di v7.High)])), (50, 1, 9, .c (.agg [(di v9.Low), (di v9.High)])), (50, 1, 11, .c (.agg [(di v11.Low), (di v11.High)])), (50, 1, 14, .c (.agg [(di v13.Low), (di v13.High)])), (50, 1, 15, .c (.agg [(di v15.Low), (di v15.High)])), (50, 1, 18, .c (.agg (zj v17))), (50, 1, 19, .c (.agg (zj v19))), (50, 2, 3, .q (.d (dl zj (([v17, v19] : List zp) ++ p0.1) (cond p0.1.isEmpty .ex .ro))))] [] (ob (zF k 10 12 _ h2) (ob (zF k 5 5 _ h4) (ob (zF k 3 4 _ h6) (ob (zF k 5 8 _ h8) (ob (zF k 0 2 _ h10) (ob (zF k 2 2 _ h12) (ob (zF k 1 3 _ h14) (ob (zF k 10 10 _ h16) (ob (zI k 2 0 12 2 _ h18) (ob (zI k 1 1 3 0 _ h20) (ob (o_aqq (P := TE.P) (φ := fun _ _ => none) (T := 25) (q := (4, [(di 0), (di 0), (di 0), (di 0)])) (c := .ex) (c' := p0.2) (e := zj) ([v17, v19] : List zp) p0.1 (by kernel_rfl) (fun _ => rfl) rfl h21) ob0))))))))))) (by kernel_rfl))
theorem zSc (k : Nat) (p0 : za) (p1 p2 : Int) (r : Bool) (h : zUf k p0 p1 p2 = some r) : callP TE (ev TE) 52 [(.agg (zb p0)), (di p1), (di p2)] = some (zqh r) := by
 unfold zUf at h
 refine bind_ok h (fun v1 h2 g1 => ?_)
 refine cond_ok g1 (fun h3 g2 => ?_) (fun h3 g2 => ?_)
 ·refine bind_ok g2 (fun v4 h5 g3 => ?_)
  exact fin_ok (g := zqh) g3 (zqc [(52, 1, 3, .q (xi (p0.Shelves.1.length : Int))), (52, 1, 5, .c (db v1)), (52, 1, 6, .q (xb true)), (52, 1, 11, .c (db v4))] [] (ob (o_len zk p0.Shelves.1) (ob (zC k p1 0 (w64 ((p0.Shelves.1.length : Int) - 1)) _ h2) (ob (o_b h3) (ob (zC k p2 0 (w64 (p0.Days - 1)) _ h5) ob0)))) (by kernel_rfl))
 ·exact fin_ok (g := zqh) g2 (zqc [(52, 1, 3, .q (xi (p0.Shelves.1.length : Int))), (52, 1, 5, .c (db v1)), (52, 1, 6, .q (xb false))] [] (ob (o_len zk p0.Shelves.1) (ob (zC k p1 0 (w64 ((p0.Shelves.1.length : Int) - 1)) _ h2) (ob (o_b h3) ob0))) (by kernel_rfl))
noncomputable def zWn (p0 : zd) (s1_8 : Int) (v302 : zJ) (s3_12 : Int) : TM := [(0, (.d (.agg (zm p0)))), (zsp 1), (2, (.d .nilm)), (zsp 3), (19, (xi (shl64 1 (p0.ShelfBook.Deliveries.1.length : Int)))), (20, (xi s1_8)), (21, (xb true)), (4, (xi s1_8)), (zsp 5), (31, (xi (w64 (v302.Room + 1)))), (32, (xi s3_12))]
noncomputable def zNk (p0 : zd) (s1_8 : Int) (s1_16 : zt2) (v302 : zJ) (s3_12 : Int) (s3_21 : zt0) : St := ⟨(zWn p0 s1_8 v302 s3_12), ⟨[(zc 1 (zm p0)), (14, (.map (em (fun k => D.agg (zB k)) (fun v => D.agg ((aB 61) v)) s1_16))), (3, (.cells [(.map 0 14)])), (zc 5 (aB 61 s3_21))], []⟩, []⟩
noncomputable def zSm (p0 : zd) (s1_8 : Int) (v302 : zJ) (r : zt12) : TM := [(0, (.d (.agg (zm p0)))), (zsp 1), (2, (.d .nilm)), (zsp 3), (19, (xi (shl64 1 (p0.ShelfBook.Deliveries.1.length : Int)))), (20, (xi s1_8)), (21, (xb true)), (4, (xi s1_8)), (zsp 5), (31, (xi (w64 (v302.Room + 1)))), (32, (xi r.1)), (33, (xb false))]
noncomputable def zdf (p0 : zd) (s1_8 : Int) (s1_16 : zt2) (v302 : zJ) (r : zt12) : St := ⟨(zSm p0 s1_8 v302 r), ⟨[(zc 1 (zm p0)), (14, (.map (em (fun k => D.agg (zB k)) (fun v => D.agg ((aB 61) v)) s1_16))), (3, (.cells [(.map 0 14)])), (zc 5 (aB 61 r.2))], []⟩, []⟩
noncomputable def zLk (p0 : zd) (s1_8 : Int) (s1_16 : zt2) (v302 : zJ) : (Int × (Nat → Bool)) → Ex × St := fun r => ((.exit 2), zdf p0 s1_8 s1_16 v302 r)
theorem zzk (k : Nat) (p0 : zd) (s1_8 : Int) (s1_16 : zt2) (v302 : zJ) (s3_12 : Int) (s3_21 : zt0) (x : (Int × (Nat → Bool)) ⊕ (Int × (Nat → Bool))) (h : z6f k p0 s1_8 s1_16 v302 s3_12 s3_21 = some x) : LoopOK TE 82 (blk TE 82 2) (fun s : (Int × (Nat → Bool)) => zNk p0 s1_8 s1_16 v302 s.1 s.2) (zLk p0 s1_8 s1_16 v302) (s3_12, s3_21) x := by
 unfold z6f at h
 refine cond_ok h (fun h401 g1 => ?_) (fun h401 g1 => ?_)
 ·refine guard_ok g1 (fun h402 g2 => ?_)
  exact zqn ((w64 (s3_12 + 1)), (upd s3_21 s3_12.toNat true)) [] [(82, 7, 0, .q (xb true)), (82, 9, 1, .q (.ptr 0 5 (s3_12.toNat))), (82, 9, 2, .st ((aB 61 (upd s3_21 s3_12.toNat true)).map .d))] [] g2 (ob (o_b h401) (ob (o_aptr (m := 61) 0 5 0 1 s3_12.toNat h402 (by omega)) (ob (o_stB 61 s3_21 s3_12.toNat true (by have := h402; simp only [Bool.and_eq_true, decide_eq_true_eq] at this; omega)) ob0))) (by kernel_rfl)
 ·exact zqo [(82, 7, 0, .q (xb false))] [] g1 (ob (o_b h401) ob0) (by kernel_rfl)
noncomputable def zIm (p0 : zd) (s1_8 : Int) : TM := [(0, (.d (.agg (zm p0)))), (zsp 1), (2, (.d .nilm)), (zsp 3), (19, (xi (shl64 1 (p0.ShelfBook.Deliveries.1.length : Int)))), (20, (xi s1_8))]
noncomputable def zQk (p0 : zd) (s1_8 : Int) (s1_16 : zt2) : St := ⟨(zIm p0 s1_8), ⟨[(zc 1 (zm p0)), (14, (.map (em (fun k => D.agg (zB k)) (fun v => D.agg ((aB 61) v)) s1_16))), (3, (.cells [(.map 0 14)]))], []⟩, []⟩
noncomputable def zrn (p0 : zd) (r : zt6) : TM := [(0, (.d (.agg (zm p0)))), (zsp 1), (2, (.d .nilm)), (zsp 3), (19, (xi (shl64 1 (p0.ShelfBook.Deliveries.1.length : Int)))), (20, (xi r.1)), (21, (xb false))]
noncomputable def z7e (p0 : zd) (r : zt6) : St := ⟨(zrn p0 r), ⟨[(zc 1 (zm p0)), (14, (.map (em (fun k => D.agg (zB k)) (fun v => D.agg ((aB 61) v)) r.2))), (3, (.cells [(.map 0 14)]))], []⟩, []⟩
noncomputable def zRk (p0 : zd) : (Int × (List (zq × (Nat → Bool)))) → Ex × St := fun r => ((.exit 0), z7e p0 r)
theorem zwk (k : Nat) (p0 : zd) (s1_8 : Int) (s1_16 : zt2) (x : (Int × (List (zq × (Nat → Bool)))) ⊕ (Int × (List (zq × (Nat → Bool))))) (h : zQf k p0 s1_8 s1_16 = some x) : LoopOK TE 82 (blk TE 82 0) (fun s : (Int × (List (zq × (Nat → Bool)))) => zQk p0 s.1 s.2) (zRk p0) (s1_8, s1_16) x := by
 unfold zQf at h
 refine cond_ok h (fun h301 g1 => ?_) (fun h301 g1 => ?_)
 ·refine bind_ok g1 (fun v302 h303 g2 => ?_)
  refine bind_ok g2 (fun v304 h305 g3 => ?_)
  exact zqn ((w64 (s1_8 + 1)), (mset zA (⟨(w64 (p0.ShelfBook.Days - 1)), s1_8⟩ : zq) v304.2 s1_16)) [] [(82, 3, 0, .q (xb true)), (82, 6, 5, .q (.d (.pin (zk v302)))), (82, 11, 8, .mp (em (fun k => D.agg (zB k)) (fun v => D.agg ((aB 61) v)) (mset zA (⟨(w64 (p0.ShelfBook.Days - 1)), s1_8⟩ : zq) v304.2 s1_16)))] [(82, 2, (.nor, zdf p0 s1_8 s1_16 v302 v304))] g3 (ob (o_b h301) (ob (o_ia (e := zk) 3 h303 rfl) (ob (block_ok (id := 2) (r' := (.nor, zdf p0 s1_8 s1_16 v302 v304)) (zR (zzk k p0 s1_8 s1_16 v302) k _ _ h305) rfl) (ob (set_em (ek := (fun k => D.agg (zB k))) (evl := (fun v => D.agg ((aB 61) v))) (q := zA) (fun _ _ => rfl) (⟨(w64 (p0.ShelfBook.Days - 1)), s1_8⟩ : zq) v304.2 s1_16) ob0)))) (by kernel_rfl)
 ·exact zqo [(82, 3, 0, .q (xb false))] [] g1 (ob (o_b h301) ob0) (by kernel_rfl)
noncomputable def zTm (v3402 : zt5) (s34_10 s39_15 : Int) (r : Bool) : TM := [(0, (.yld 0)), (1, (.d (.pin [(di v3402.1), (dl zk v3402.2.1.1 v3402.2.1.2), (dl zl v3402.2.2.1.1 v3402.2.2.1.2), (dl zh v3402.2.2.2.1.1 v3402.2.2.2.1.2), (dl zj v3402.2.2.2.2.1.1 v3402.2.2.2.2.1.2), (di v3402.2.2.2.2.2.1), (di v3402.2.2.2.2.2.2.1)]))), (2, (.d (.pin [(di v3402.2.2.2.2.2.2.2.1)]))), (3, (.d (.pin [(di v3402.2.2.2.2.2.2.2.2)]))), (14, (xi (shl64 1 (v3402.2.2.2.1.1.length : Int)))), (15, (xi s34_10)), (16, (xb true)), (5, (xi s34_10)), (20, (.d (dl zh v3402.2.2.2.1.1 v3402.2.2.2.1.2))), (21, (xi (v3402.2.2.2.1.1.length : Int))), (22, (xi s39_15)), (23, (xb true)), (7, (.ptr 1 7 0)), (6, (xi s39_15)), (8, (xb ((and64 (shr64 v3402.2.2.2.2.2.2.2.1 s39_15) 1) == 1))), (9, (xb ((and64 (shr64 s34_10 s39_15) 1) == 1))), (41, (xb false)), (76, (xb r))]
noncomputable def zDg (p0 : zd) (v2 : zt6) (s24_12 : Int) (v3402 : zt5) : TM := [(0, (.d (.agg (zm p0)))), (zsp 1), (2, (.d .nilm)), (zsp 3), (19, (xi (shl64 1 (p0.ShelfBook.Deliveries.1.length : Int)))), (20, (xi v2.1)), (21, (xb false)), (zsp 7), (52, (xb true)), (59, (xi (shl64 1 (p0.ShelfBook.Deliveries.1.length : Int)))), (60, (xi s24_12)), (61, (xb true)), (zsp 8), (66, (.d (.fn 97 [] [(.pin [(di v3402.1), (dl zk v3402.2.1.1 v3402.2.1.2), (dl zl v3402.2.2.1.1 v3402.2.2.1.2), (dl zh v3402.2.2.2.1.1 v3402.2.2.2.1.2), (dl zj v3402.2.2.2.2.1.1 v3402.2.2.2.2.1.2), (di v3402.2.2.2.2.2.1), (di v3402.2.2.2.2.2.2.1)]), (.pin [(di v3402.2.2.2.2.2.2.2.1)]), (.pin [(di v3402.2.2.2.2.2.2.2.2)])])))]
noncomputable def zM (p0 : zd) (v2 : zt6) (s4_18 s24_12 : Int) (v3402 : zt5) (s34_10 : Int) (s34_18 : zt2) (s39_15 : Int) (v4102 : zn) (r : Bool) : St := ⟨(zTm v3402 s34_10 s39_15 r), ⟨[(zc 7 (zh v4102))], [[(zc 1 (zm p0)), (14, (.map (em (fun k => D.agg (zB k)) (fun v => D.agg ((aB 61) v)) s34_18))), (3, (.cells [(.map 0 14)])), (7, (.cells [(xi s4_18)])), (8, (.cells [(xi s24_12)]))]]⟩, [⟨(zDg p0 v2 s24_12 v3402), 0, rfP (blk TE 82 8), rfA (blk TE 82 8), rfB (blk TE 82 8), 82, .rdy⟩]⟩
noncomputable def zMm (v3402 : zt5) (s34_10 s39_15 : Int) : TM := [(0, (.yld 0)), (1, (.d (.pin [(di v3402.1), (dl zk v3402.2.1.1 v3402.2.1.2), (dl zl v3402.2.2.1.1 v3402.2.2.1.2), (dl zh v3402.2.2.2.1.1 v3402.2.2.2.1.2), (dl zj v3402.2.2.2.2.1.1 v3402.2.2.2.2.1.2), (di v3402.2.2.2.2.2.1), (di v3402.2.2.2.2.2.2.1)]))), (2, (.d (.pin [(di v3402.2.2.2.2.2.2.2.1)]))), (3, (.d (.pin [(di v3402.2.2.2.2.2.2.2.2)]))), (14, (xi (shl64 1 (v3402.2.2.2.1.1.length : Int)))), (15, (xi s34_10)), (16, (xb true)), (5, (xi s34_10)), (20, (.d (dl zh v3402.2.2.2.1.1 v3402.2.2.2.1.2))), (21, (xi (v3402.2.2.2.1.1.length : Int))), (22, (xi s39_15)), (23, (xb true)), (7, (.ptr 1 7 0)), (6, (xi s39_15)), (8, (xb ((and64 (shr64 v3402.2.2.2.2.2.2.2.1 s39_15) 1) == 1))), (9, (xb ((and64 (shr64 s34_10 s39_15) 1) == 1))), (41, (xb false))]
theorem zxg (k : Nat) (p0 : zd) (v2 : zt6) (s4_18 s24_12 : Int) (v3402 : zt5) (s34_10 : Int) (s34_18 : zt2) (s39_15 : Int) (v4102 : zn) (r : Bool) (h : zwf k p0 v2 s4_18 s24_12 v3402 s34_10 s34_18 s39_15 v4102 = some r) : ev TE 97 (rgn TE 97 9) ⟨(zMm v3402 s34_10 s39_15), ⟨[(zc 7 (zh v4102))], [[(zc 1 (zm p0)), (14, (.map (em (fun k => D.agg (zB k)) (fun v => D.agg ((aB 61) v)) s34_18))), (3, (.cells [(.map 0 14)])), (7, (.cells [(xi s4_18)])), (8, (.cells [(xi s24_12)]))]]⟩, [⟨(zDg p0 v2 s24_12 v3402), 0, rfP (blk TE 82 8), rfA (blk TE 82 8), rfB (blk TE 82 8), 82, .rdy⟩]⟩ = some (.nor, zM p0 v2 s4_18 s24_12 v3402 s34_10 s34_18 s39_15 v4102 r) := by
 unfold zwf at h
 refine cond_ok h (fun h4201 g1 => ?_) (fun h4201 g1 => ?_)
 ·refine cond_ok g1 (fun h4202 g2 => ?_) (fun h4202 g2 => ?_)
  ·exact fin2_ok (g := fun r => (Ex.nor, zM p0 v2 s4_18 s24_12 v3402 s34_10 s34_18 s39_15 v4102 r)) g2 (zqe [(97, 9, 1, .q (xb true)), (97, 9, 5, .q (xb true))] [] (ob (o_b h4201) (ob (o_b h4202) ob0)) (by kernel_rfl))
  ·refine cond_ok g2 (fun h4203 g3 => ?_) (fun h4203 g3 => ?_)
   ·refine cond_ok g3 (fun h4204 g4 => ?_) (fun h4204 g4 => ?_)
    ·refine bind_ok g4 (fun v4205 h4206 g5 => ?_)
     refine cond_ok g5 (fun h4207 g6 => ?_) (fun h4207 g6 => ?_)
     ·exact fin2_ok (g := fun r => (Ex.nor, zM p0 v2 s4_18 s24_12 v3402 s34_10 s34_18 s39_15 v4102 r)) g6 (zqe [(97, 9, 1, .q (xb true)), (97, 9, 5, .q (xb false)), (97, 9, 7, .q (xb true)), (97, 9, 11, .q (xb true)), (97, 9, 19, .c (db v4205)), (97, 9, 23, .q (xb true))] [] (ob (o_b h4201) (ob (o_b h4202) (ob (o_b h4203) (ob (o_b h4204) (ob (zC k v3402.2.2.2.2.2.2.2.2 v4102.Days.Low v4102.Days.High _ h4206) (ob (o_b h4207) ob0)))))) (by kernel_rfl))
     ·exact fin2_ok (g := fun r => (Ex.nor, zM p0 v2 s4_18 s24_12 v3402 s34_10 s34_18 s39_15 v4102 r)) g6 (zqe [(97, 9, 1, .q (xb true)), (97, 9, 5, .q (xb false)), (97, 9, 7, .q (xb true)), (97, 9, 11, .q (xb true)), (97, 9, 19, .c (db v4205)), (97, 9, 23, .q (xb false)), (97, 9, 26, .q (xb false))] [] (ob (o_b h4201) (ob (o_b h4202) (ob (o_b h4203) (ob (o_b h4204) (ob (zC k v3402.2.2.2.2.2.2.2.2 v4102.Days.Low v4102.Days.High _ h4206) (ob (o_b h4207) (ob (o_b h4202) ob0))))))) (by kernel_rfl))
    ·exact fin2_ok (g := fun r => (Ex.nor, zM p0 v2 s4_18 s24_12 v3402 s34_10 s34_18 s39_15 v4102 r)) g4 (zqe [(97, 9, 1, .q (xb true)), (97, 9, 5, .q (xb false)), (97, 9, 7, .q (xb true)), (97, 9, 11, .q (xb false)), (97, 9, 26, .q (xb false))] [] (ob (o_b h4201) (ob (o_b h4202) (ob (o_b h4203) (ob (o_b h4204) (ob (o_b h4202) ob0))))) (by kernel_rfl))
   ·exact fin2_ok (g := fun r => (Ex.nor, zM p0 v2 s4_18 s24_12 v3402 s34_10 s34_18 s39_15 v4102 r)) g3 (zqe [(97, 9, 1, .q (xb true)), (97, 9, 5, .q (xb false)), (97, 9, 7, .q (xb false)), (97, 9, 26, .q (xb false))] [] (ob (o_b h4201) (ob (o_b h4202) (ob (o_b h4203) (ob (o_b h4202) ob0)))) (by kernel_rfl))
 ·refine cond_ok g1 (fun h4202 g2 => ?_) (fun h4202 g2 => ?_)
  ·refine cond_ok g2 (fun h4203 g3 => ?_) (fun h4203 g3 => ?_)
   ·refine bind_ok g3 (fun v4204 h4205 g4 => ?_)
    refine cond_ok g4 (fun h4206 g5 => ?_) (fun h4206 g5 => ?_)
    ·exact fin2_ok (g := fun r => (Ex.nor, zM p0 v2 s4_18 s24_12 v3402 s34_10 s34_18 s39_15 v4102 r)) g5 (zqe [(97, 9, 1, .q (xb false)), (97, 9, 7, .q (xb true)), (97, 9, 11, .q (xb true)), (97, 9, 19, .c (db v4204)), (97, 9, 23, .q (xb true))] [] (ob (o_b h4201) (ob (o_b h4202) (ob (o_b h4203) (ob (zC k v3402.2.2.2.2.2.2.2.2 v4102.Days.Low v4102.Days.High _ h4205) (ob (o_b h4206) ob0))))) (by kernel_rfl))
    ·refine cond_ok g5 (fun h4207 g6 => ?_) (fun h4207 g6 => ?_)
     ·exact fin2_ok (g := fun r => (Ex.nor, zM p0 v2 s4_18 s24_12 v3402 s34_10 s34_18 s39_15 v4102 r)) g6 (zqe [(97, 9, 1, .q (xb false)), (97, 9, 7, .q (xb true)), (97, 9, 11, .q (xb true)), (97, 9, 19, .c (db v4204)), (97, 9, 23, .q (xb false)), (97, 9, 26, .q (xb true))] [] (ob (o_b h4201) (ob (o_b h4202) (ob (o_b h4203) (ob (zC k v3402.2.2.2.2.2.2.2.2 v4102.Days.Low v4102.Days.High _ h4205) (ob (o_b h4206) (ob (o_b h4207) ob0)))))) (by kernel_rfl))
     ·exact fin2_ok (g := fun r => (Ex.nor, zM p0 v2 s4_18 s24_12 v3402 s34_10 s34_18 s39_15 v4102 r)) g6 (zqe [(97, 9, 1, .q (xb false)), (97, 9, 7, .q (xb true)), (97, 9, 11, .q (xb true)), (97, 9, 19, .c (db v4204)), (97, 9, 23, .q (xb false)), (97, 9, 26, .q (xb false))] [] (ob (o_b h4201) (ob (o_b h4202) (ob (o_b h4203) (ob (zC k v3402.2.2.2.2.2.2.2.2 v4102.Days.Low v4102.Days.High _ h4205) (ob (o_b h4206) (ob (o_b h4207) ob0)))))) (by kernel_rfl))
   ·refine cond_ok g3 (fun h4204 g4 => ?_) (fun h4204 g4 => ?_)
    ·exact fin2_ok (g := fun r => (Ex.nor, zM p0 v2 s4_18 s24_12 v3402 s34_10 s34_18 s39_15 v4102 r)) g4 (zqe [(97, 9, 1, .q (xb false)), (97, 9, 7, .q (xb true)), (97, 9, 11, .q (xb false)), (97, 9, 26, .q (xb true))] [] (ob (o_b h4201) (ob (o_b h4202) (ob (o_b h4203) (ob (o_b h4204) ob0)))) (by kernel_rfl))
    ·exact fin2_ok (g := fun r => (Ex.nor, zM p0 v2 s4_18 s24_12 v3402 s34_10 s34_18 s39_15 v4102 r)) g4 (zqe [(97, 9, 1, .q (xb false)), (97, 9, 7, .q (xb true)), (97, 9, 11, .q (xb false)), (97, 9, 26, .q (xb false))] [] (ob (o_b h4201) (ob (o_b h4202) (ob (o_b h4203) (ob (o_b h4204) ob0)))) (by kernel_rfl))
  ·refine cond_ok g2 (fun h4203 g3 => ?_) (fun h4203 g3 => ?_)
   ·exact fin2_ok (g := fun r => (Ex.nor, zM p0 v2 s4_18 s24_12 v3402 s34_10 s34_18 s39_15 v4102 r)) g3 (zqe [(97, 9, 1, .q (xb false)), (97, 9, 7, .q (xb false)), (97, 9, 26, .q (xb true))] [] (ob (o_b h4201) (ob (o_b h4202) (ob (o_b h4203) ob0))) (by kernel_rfl))
   ·exact fin2_ok (g := fun r => (Ex.nor, zM p0 v2 s4_18 s24_12 v3402 s34_10 s34_18 s39_15 v4102 r)) g3 (zqe [(97, 9, 1, .q (xb false)), (97, 9, 7, .q (xb false)), (97, 9, 26, .q (xb false))] [] (ob (o_b h4201) (ob (o_b h4202) (ob (o_b h4203) ob0))) (by kernel_rfl))
noncomputable def zVm (v3402 : zt5) (s34_10 s39_15 : Int) : TM := [(0, (.yld 0)), (1, (.d (.pin [(di v3402.1), (dl zk v3402.2.1.1 v3402.2.1.2), (dl zl v3402.2.2.1.1 v3402.2.2.1.2), (dl zh v3402.2.2.2.1.1 v3402.2.2.2.1.2), (dl zj v3402.2.2.2.2.1.1 v3402.2.2.2.2.1.2), (di v3402.2.2.2.2.2.1), (di v3402.2.2.2.2.2.2.1)]))), (2, (.d (.pin [(di v3402.2.2.2.2.2.2.2.1)]))), (3, (.d (.pin [(di v3402.2.2.2.2.2.2.2.2)]))), (14, (xi (shl64 1 (v3402.2.2.2.1.1.length : Int)))), (15, (xi s34_10)), (16, (xb true)), (5, (xi s34_10)), (20, (.d (dl zh v3402.2.2.2.1.1 v3402.2.2.2.1.2))), (21, (xi (v3402.2.2.2.1.1.length : Int))), (22, (xi s39_15))]
noncomputable def zsk (p0 : zd) (v2 : zt6) (s4_18 s24_12 : Int) (v3402 : zt5) (s34_10 : Int) (s34_18 : zt2) (s39_15 : Int) : St := ⟨(zVm v3402 s34_10 s39_15), ⟨[], [[(zc 1 (zm p0)), (14, (.map (em (fun k => D.agg (zB k)) (fun v => D.agg ((aB 61) v)) s34_18))), (3, (.cells [(.map 0 14)])), (7, (.cells [(xi s4_18)])), (8, (.cells [(xi s24_12)]))]]⟩, [⟨(zDg p0 v2 s24_12 v3402), 0, rfP (blk TE 82 8), rfA (blk TE 82 8), rfB (blk TE 82 8), 82, .rdy⟩]⟩
noncomputable def z1m (v3402 : zt5) (s34_10 : Int) (r : (Int × Bool × Bool × Int × Int × Int × Int × Int)) : TM := [(0, (.yld 0)), (1, (.d (.pin [(di v3402.1), (dl zk v3402.2.1.1 v3402.2.1.2), (dl zl v3402.2.2.1.1 v3402.2.2.1.2), (dl zh v3402.2.2.2.1.1 v3402.2.2.2.1.2), (dl zj v3402.2.2.2.2.1.1 v3402.2.2.2.2.1.2), (di v3402.2.2.2.2.2.1), (di v3402.2.2.2.2.2.2.1)]))), (2, (.d (.pin [(di v3402.2.2.2.2.2.2.2.1)]))), (3, (.d (.pin [(di v3402.2.2.2.2.2.2.2.2)]))), (14, (xi (shl64 1 (v3402.2.2.2.1.1.length : Int)))), (15, (xi s34_10)), (16, (xb true)), (5, (xi s34_10)), (20, (.d (dl zh v3402.2.2.2.1.1 v3402.2.2.2.1.2))), (21, (xi (v3402.2.2.2.1.1.length : Int))), (22, (xi r.1)), (23, (xb true)), (7, (.ptr 1 7 0)), (6, (xi r.1)), (8, (xb r.2.1)), (9, (xb r.2.2.1)), (41, (xb true)), (42, (xb true))]
noncomputable def zHe (p0 : zd) (v2 : zt6) (s4_18 s24_12 : Int) (v3402 : zt5) (s34_10 : Int) (s34_18 : zt2) (r : (Int × Bool × Bool × Int × Int × Int × Int × Int)) : St := ⟨(z1m v3402 s34_10 r), ⟨[(7, (.cells [(xi r.2.2.2.1), (xi r.2.2.2.2.1), (xi r.2.2.2.2.2.1), (xi r.2.2.2.2.2.2.1), (xi r.2.2.2.2.2.2.2)]))], [[(zc 1 (zm p0)), (14, (.map (em (fun k => D.agg (zB k)) (fun v => D.agg ((aB 61) v)) s34_18))), (3, (.cells [(.map 0 14)])), (7, (.cells [(xi s4_18)])), (8, (.cells [(xi s24_12)]))]]⟩, [⟨(zDg p0 v2 s24_12 v3402), 0, rfP (blk TE 82 8), rfA (blk TE 82 8), rfB (blk TE 82 8), 82, .rdy⟩]⟩
noncomputable def zmn (v3402 : zt5) (s34_10 : Int) (r : (Int × Bool × Bool × Int × Int × Int × Int × Int)) : TM := [(0, (.yld 0)), (1, (.d (.pin [(di v3402.1), (dl zk v3402.2.1.1 v3402.2.1.2), (dl zl v3402.2.2.1.1 v3402.2.2.1.2), (dl zh v3402.2.2.2.1.1 v3402.2.2.2.1.2), (dl zj v3402.2.2.2.2.1.1 v3402.2.2.2.2.1.2), (di v3402.2.2.2.2.2.1), (di v3402.2.2.2.2.2.2.1)]))), (2, (.d (.pin [(di v3402.2.2.2.2.2.2.2.1)]))), (3, (.d (.pin [(di v3402.2.2.2.2.2.2.2.2)]))), (14, (xi (shl64 1 (v3402.2.2.2.1.1.length : Int)))), (15, (xi s34_10)), (16, (xb true)), (5, (xi s34_10)), (20, (.d (dl zh v3402.2.2.2.1.1 v3402.2.2.2.1.2))), (21, (xi (v3402.2.2.2.1.1.length : Int))), (22, (xi r.1)), (23, (xb true)), (7, (.ptr 1 7 0)), (6, (xi r.1)), (8, (xb r.2.1)), (9, (xb r.2.2.1)), (41, (xb false)), (76, (xb true))]
noncomputable def zUe (p0 : zd) (v2 : zt6) (s4_18 s24_12 : Int) (v3402 : zt5) (s34_10 : Int) (s34_18 : zt2) (r : (Int × Bool × Bool × Int × Int × Int × Int × Int)) : St := ⟨(zmn v3402 s34_10 r), ⟨[(7, (.cells [(xi r.2.2.2.1), (xi r.2.2.2.2.1), (xi r.2.2.2.2.2.1), (xi r.2.2.2.2.2.2.1), (xi r.2.2.2.2.2.2.2)]))], [[(zc 1 (zm p0)), (14, (.map (em (fun k => D.agg (zB k)) (fun v => D.agg ((aB 61) v)) s34_18))), (3, (.cells [(.map 0 14)])), (7, (.cells [(xi s4_18)])), (8, (.cells [(xi s24_12)]))]]⟩, [⟨(zDg p0 v2 s24_12 v3402), 0, rfP (blk TE 82 8), rfA (blk TE 82 8), rfB (blk TE 82 8), 82, .rdy⟩]⟩
noncomputable def zKn (v3402 : zt5) (s34_10 r : Int) : TM := [(0, (.yld 0)), (1, (.d (.pin [(di v3402.1), (dl zk v3402.2.1.1 v3402.2.1.2), (dl zl v3402.2.2.1.1 v3402.2.2.1.2), (dl zh v3402.2.2.2.1.1 v3402.2.2.2.1.2), (dl zj v3402.2.2.2.2.1.1 v3402.2.2.2.2.1.2), (di v3402.2.2.2.2.2.1), (di v3402.2.2.2.2.2.2.1)]))), (2, (.d (.pin [(di v3402.2.2.2.2.2.2.2.1)]))), (3, (.d (.pin [(di v3402.2.2.2.2.2.2.2.2)]))), (14, (xi (shl64 1 (v3402.2.2.2.1.1.length : Int)))), (15, (xi s34_10)), (16, (xb true)), (5, (xi s34_10)), (20, (.d (dl zh v3402.2.2.2.1.1 v3402.2.2.2.1.2))), (21, (xi (v3402.2.2.2.1.1.length : Int))), (22, (xi r)), (23, (xb false))]
noncomputable def zRe (p0 : zd) (v2 : zt6) (s4_18 s24_12 : Int) (v3402 : zt5) (s34_10 : Int) (s34_18 : zt2) (r : Int) : St := ⟨(zKn v3402 s34_10 r), ⟨[], [[(zc 1 (zm p0)), (14, (.map (em (fun k => D.agg (zB k)) (fun v => D.agg ((aB 61) v)) s34_18))), (3, (.cells [(.map 0 14)])), (7, (.cells [(xi s4_18)])), (8, (.cells [(xi s24_12)]))]]⟩, [⟨(zDg p0 v2 s24_12 v3402), 0, rfP (blk TE 82 8), rfA (blk TE 82 8), rfB (blk TE 82 8), 82, .rdy⟩]⟩
noncomputable def zIk (p0 : zd) (v2 : zt6) (s4_18 s24_12 : Int) (v3402 : zt5) (s34_10 : Int) (s34_18 : zt2) : ((Int × Bool × Bool × Int × Int × Int × Int × Int) ⊕ ((Int × Bool × Bool × Int × Int × Int × Int × Int) ⊕ Int)) → Ex × St := Sum.elim (fun r => ((.exit 1), zHe p0 v2 s4_18 s24_12 v3402 s34_10 s34_18 r)) (Sum.elim (fun r => ((.exit 1), zUe p0 v2 s4_18 s24_12 v3402 s34_10 s34_18 r)) (fun r => ((.exit 2), zRe p0 v2 s4_18 s24_12 v3402 s34_10 s34_18 r)))
theorem zLe (k : Nat) (p0 : zd) (v2 : zt6) (s4_18 s24_12 : Int) (v3402 : zt5) (s34_10 : Int) (s34_18 : zt2) (s39_15 : Int) (x : Int ⊕ ((Int × Bool × Bool × Int × Int × Int × Int × Int) ⊕ ((Int × Bool × Bool × Int × Int × Int × Int × Int) ⊕ Int))) (h : zCf k p0 v2 s4_18 s24_12 v3402 s34_10 s34_18 s39_15 = some x) : LoopOK TE 97 (blk TE 97 2) (fun s : Int => zsk p0 v2 s4_18 s24_12 v3402 s34_10 s34_18 s) (zIk p0 v2 s4_18 s24_12 v3402 s34_10 s34_18) s39_15 x := by
 unfold zCf at h
 refine cond_ok h (fun h4101 g1 => ?_) (fun h4101 g1 => ?_)
 ·refine bind_ok g1 (fun v4102 h4103 g2 => ?_)
  refine cond_ok g2 (fun h4104 g3 => ?_) (fun h4104 g3 => ?_)
  ·cases g3
  ·refine cond_ok g3 (fun h4105 g4 => ?_) (fun h4105 g4 => ?_)
   ·refine cond_ok g4 (fun h4106 g5 => ?_) (fun h4106 g5 => ?_)
    ·exact zqo [(97, 4, 0, .q (xb true)), (97, 5, 1, .q (.d (.pin (zh v4102)))), (97, 6, 2, .q (xi (shr64 v3402.2.2.2.2.2.2.2.1 s39_15))), (97, 6, 7, .q (xi (shr64 s34_10 s39_15))), (97, 7, 4, .q (xb true)), (97, 8, 0, .q (xb true))] [] g5 (ob (o_b h4101) (ob (o_ia (e := zh) 5 h4103 rfl) (ob (o_shr (x := v3402.2.2.2.2.2.2.2.1) h4104) (ob (o_shr (x := s34_10) h4104) (ob (o_b h4105) (ob (o_b h4106) ob0)))))) (by kernel_rfl)
    ·exact zqn (w64 (s39_15 + 1)) [] [(97, 4, 0, .q (xb true)), (97, 5, 1, .q (.d (.pin (zh v4102)))), (97, 6, 2, .q (xi (shr64 v3402.2.2.2.2.2.2.2.1 s39_15))), (97, 6, 7, .q (xi (shr64 s34_10 s39_15))), (97, 7, 4, .q (xb true)), (97, 8, 0, .q (xb false))] [] g5 (ob (o_b h4101) (ob (o_ia (e := zh) 5 h4103 rfl) (ob (o_shr (x := v3402.2.2.2.2.2.2.2.1) h4104) (ob (o_shr (x := s34_10) h4104) (ob (o_b h4105) (ob (o_b h4106) ob0)))))) (by kernel_rfl)
   ·refine bind_ok g4 (fun v4106 h4107 g5 => ?_)
    refine cond_ok g5 (fun h4108 g6 => ?_) (fun h4108 g6 => ?_)
    ·subst h4108
     exact zqo [(97, 4, 0, .q (xb true)), (97, 5, 1, .q (.d (.pin (zh v4102)))), (97, 6, 2, .q (xi (shr64 v3402.2.2.2.2.2.2.2.1 s39_15))), (97, 6, 7, .q (xi (shr64 s34_10 s39_15))), (97, 7, 4, .q (xb false))] [(97, 1000009, (.nor, zM p0 v2 s4_18 s24_12 v3402 s34_10 s34_18 s39_15 v4102 true))] g6 (ob (o_b h4101) (ob (o_ia (e := zh) 5 h4103 rfl) (ob (o_shr (x := v3402.2.2.2.2.2.2.2.1) h4104) (ob (o_shr (x := s34_10) h4104) (ob (o_b h4105) (ob (zxg k p0 v2 s4_18 s24_12 v3402 s34_10 s34_18 s39_15 v4102 _ h4107) ob0)))))) (by kernel_rfl)
    ·subst h4108
     exact zqn (w64 (s39_15 + 1)) [] [(97, 4, 0, .q (xb true)), (97, 5, 1, .q (.d (.pin (zh v4102)))), (97, 6, 2, .q (xi (shr64 v3402.2.2.2.2.2.2.2.1 s39_15))), (97, 6, 7, .q (xi (shr64 s34_10 s39_15))), (97, 7, 4, .q (xb false))] [(97, 1000009, (.nor, zM p0 v2 s4_18 s24_12 v3402 s34_10 s34_18 s39_15 v4102 false))] g6 (ob (o_b h4101) (ob (o_ia (e := zh) 5 h4103 rfl) (ob (o_shr (x := v3402.2.2.2.2.2.2.2.1) h4104) (ob (o_shr (x := s34_10) h4104) (ob (o_b h4105) (ob (zxg k p0 v2 s4_18 s24_12 v3402 s34_10 s34_18 s39_15 v4102 _ h4107) ob0)))))) (by kernel_rfl)
 ·exact zqo [(97, 4, 0, .q (xb false))] [] g1 (ob (o_b h4101) ob0) (by kernel_rfl)
noncomputable def zvm (p0 : zd) (v2 : zt6) (s24_12 : Int) (v3402 : zt5) (s34_10 : Int) (v3908 : (SL zD)) (s42_27 : Int) : TM := zDg p0 v2 s24_12 v3402 ++ [(67, (xi s34_10)), (9, (xi s34_10)), (10, (.ptr 2 10 0)), (11, (.d (dl zH v3908.1 v3908.2))), (83, (xi (v3908.1.length : Int))), (84, (xi s42_27))]
noncomputable def zmk (p0 : zd) (v2 : zt6) (s4_18 s24_12 : Int) (v3402 : zt5) (s34_10 : Int) (s34_18 : zt2) (v3908 : (SL zD)) (s42_27 : Int) (s42_28 : zt0) : St := ⟨(zvm p0 v2 s24_12 v3402 s34_10 v3908 s42_27), ⟨[(zc 10 (aB 61 s42_28))], [[(zc 1 (zm p0)), (14, (.map (em (fun k => D.agg (zB k)) (fun v => D.agg ((aB 61) v)) s34_18))), (3, (.cells [(.map 0 14)])), (7, (.cells [(xi s4_18)])), (8, (.cells [(xi s24_12)]))], []]⟩, [⟨(zDg p0 v2 s24_12 v3402), 0, rfP (blk TE 82 8), rfA (blk TE 82 8), rfB (blk TE 82 8), 82, .busy⟩]⟩
noncomputable def zzm (p0 : zd) (v2 : zt6) (s24_12 : Int) (v3402 : zt5) (s34_10 : Int) (v3908 : (SL zD)) (r : zt12) : TM := zDg p0 v2 s24_12 v3402 ++ [(67, (xi s34_10)), (9, (xi s34_10)), (10, (.ptr 2 10 0)), (11, (.d (dl zH v3908.1 v3908.2))), (83, (xi (v3908.1.length : Int))), (84, (xi r.1)), (85, (xb false))]
noncomputable def zVe (p0 : zd) (v2 : zt6) (s4_18 s24_12 : Int) (v3402 : zt5) (s34_10 : Int) (s34_18 : zt2) (v3908 : (SL zD)) (r : zt12) : St := ⟨(zzm p0 v2 s24_12 v3402 s34_10 v3908 r), ⟨[(zc 10 (aB 61 r.2))], [[(zc 1 (zm p0)), (14, (.map (em (fun k => D.agg (zB k)) (fun v => D.agg ((aB 61) v)) s34_18))), (3, (.cells [(.map 0 14)])), (7, (.cells [(xi s4_18)])), (8, (.cells [(xi s24_12)]))], []]⟩, [⟨(zDg p0 v2 s24_12 v3402), 0, rfP (blk TE 82 8), rfA (blk TE 82 8), rfB (blk TE 82 8), 82, .busy⟩]⟩
noncomputable def ztk (p0 : zd) (v2 : zt6) (s4_18 s24_12 : Int) (v3402 : zt5) (s34_10 : Int) (s34_18 : zt2) (v3908 : (SL zD)) : (Int × (Nat → Bool)) → Ex × St := fun r => ((.exit 10), zVe p0 v2 s4_18 s24_12 v3402 s34_10 s34_18 v3908 r)
theorem z7j (k : Nat) (p0 : zd) (v2 : zt6) (s4_18 s24_12 : Int) (v3402 : zt5) (s34_10 : Int) (s34_18 : zt2) (v3908 : (SL zD)) (s42_27 : Int) (s42_28 : zt0) (x : (Int × (Nat → Bool)) ⊕ (Int × (Nat → Bool))) (h : zzf k p0 v2 s4_18 s24_12 v3402 s34_10 s34_18 v3908 s42_27 s42_28 = some x) : LoopOK TE 82 (blk TE 82 10) (fun s : (Int × (Nat → Bool)) => zmk p0 v2 s4_18 s24_12 v3402 s34_10 s34_18 v3908 s.1 s.2) (ztk p0 v2 s4_18 s24_12 v3402 s34_10 s34_18 v3908) (s42_27, s42_28) x := by
 unfold zzf at h
 refine cond_ok h (fun h4301 g1 => ?_) (fun h4301 g1 => ?_)
 ·refine bind_ok g1 (fun v4302 h4303 g2 => ?_)
  refine bind_ok g2 (fun v4304 h4305 g3 => ?_)
  exact zqn ((w64 (s42_27 + 1)), v4304) [] [(82, 24, 0, .q (xb true)), (82, 26, 2, .q (xi (v3908.1.length : Int))), (82, 26, 6, .q (.d (.pin (zH v4302)))), (82, 27, 7, .c (.agg (aB 61 v4304)))] [] g3 (ob (o_b h4301) (ob (o_len zH v3908.1) (ob (o_ia (e := zH) 3 h4303 rfl) (ob (zeh k p0 s42_28 (w64 (1 - v4302.way)) v4302.by_ _ h4305) ob0)))) (by kernel_rfl)
 ·exact zqo [(82, 24, 0, .q (xb false))] [] g1 (ob (o_b h4301) ob0) (by kernel_rfl)
noncomputable def zTn (v3402 : zt5) (s34_10 : Int) : TM := [(0, (.yld 0)), (1, (.d (.pin [(di v3402.1), (dl zk v3402.2.1.1 v3402.2.1.2), (dl zl v3402.2.2.1.1 v3402.2.2.1.2), (dl zh v3402.2.2.2.1.1 v3402.2.2.2.1.2), (dl zj v3402.2.2.2.2.1.1 v3402.2.2.2.2.1.2), (di v3402.2.2.2.2.2.1), (di v3402.2.2.2.2.2.2.1)]))), (2, (.d (.pin [(di v3402.2.2.2.2.2.2.2.1)]))), (3, (.d (.pin [(di v3402.2.2.2.2.2.2.2.2)]))), (14, (xi (shl64 1 (v3402.2.2.2.1.1.length : Int)))), (15, (xi s34_10))]
noncomputable def zHk (p0 : zd) (v2 : zt6) (s4_18 s24_12 : Int) (v3402 : zt5) (s34_10 : Int) (s34_18 : zt2) : St := ⟨(zTn v3402 s34_10), ⟨[], [[(zc 1 (zm p0)), (14, (.map (em (fun k => D.agg (zB k)) (fun v => D.agg ((aB 61) v)) s34_18))), (3, (.cells [(.map 0 14)])), (7, (.cells [(xi s4_18)])), (8, (.cells [(xi s24_12)]))]]⟩, [⟨(zDg p0 v2 s24_12 v3402), 0, rfP (blk TE 82 8), rfA (blk TE 82 8), rfB (blk TE 82 8), 82, .rdy⟩]⟩
noncomputable def z8m (v3402 : zt5) (r : zt6) : TM := [(0, (.yld 0)), (1, (.d (.pin [(di v3402.1), (dl zk v3402.2.1.1 v3402.2.1.2), (dl zl v3402.2.2.1.1 v3402.2.2.1.2), (dl zh v3402.2.2.2.1.1 v3402.2.2.2.1.2), (dl zj v3402.2.2.2.2.1.1 v3402.2.2.2.2.1.2), (di v3402.2.2.2.2.2.1), (di v3402.2.2.2.2.2.2.1)]))), (2, (.d (.pin [(di v3402.2.2.2.2.2.2.2.1)]))), (3, (.d (.pin [(di v3402.2.2.2.2.2.2.2.2)]))), (14, (xi (shl64 1 (v3402.2.2.2.1.1.length : Int)))), (15, (xi r.1)), (16, (xb false))]
noncomputable def zKe (p0 : zd) (v2 : zt6) (s4_18 s24_12 : Int) (v3402 : zt5) (r : zt6) : St := ⟨(z8m v3402 r), ⟨[], [[(zc 1 (zm p0)), (14, (.map (em (fun k => D.agg (zB k)) (fun v => D.agg ((aB 61) v)) r.2))), (3, (.cells [(.map 0 14)])), (7, (.cells [(xi s4_18)])), (8, (.cells [(xi s24_12)]))]]⟩, [⟨(zDg p0 v2 s24_12 v3402), 0, rfP (blk TE 82 8), rfA (blk TE 82 8), rfB (blk TE 82 8), 82, .rdy⟩]⟩
noncomputable def zxk (p0 : zd) (v2 : zt6) (s4_18 s24_12 : Int) (v3402 : zt5) : (Int × (List (zq × (Nat → Bool)))) → Ex × St := fun r => ((.exit 0), zKe p0 v2 s4_18 s24_12 v3402 r)
theorem zZj (k : Nat) (p0 : zd) (v2 : zt6) (s4_18 s24_12 : Int) (v3402 : zt5) (s34_10 : Int) (s34_18 : zt2) (x : (Int × (List (zq × (Nat → Bool)))) ⊕ (Int × (List (zq × (Nat → Bool))))) (h : zBf k p0 v2 s4_18 s24_12 v3402 s34_10 s34_18 = some x) : LoopOK TE 97 (blk TE 97 0) (fun s : (Int × (List (zq × (Nat → Bool)))) => zHk p0 v2 s4_18 s24_12 v3402 s.1 s.2) (zxk p0 v2 s4_18 s24_12 v3402) (s34_10, s34_18) x := by
 unfold zBf at h
 refine cond_ok h (fun h3901 g1 => ?_) (fun h3901 g1 => ?_)
 ·refine bind_ok g1 (fun v3902 h3903 g2 => ?_)
  refine sum_ok g2 (fun v3905 hh g3_0 => ?_) (fun w2_0 hh g3_0 => ?_)
  ·subst hh
   exact zqn ((w64 (s34_10 + 1)), s34_18) [] [(97, 1, 0, .q (xb true)), (97, 3, 3, .q (xi (v3402.2.2.2.1.1.length : Int)))] [(97, 2, ((.exit 1), zHe p0 v2 s4_18 s24_12 v3402 s34_10 s34_18 v3905))] g3_0 (ob (o_b h3901) (ob (o_len zh v3402.2.2.2.1.1) (ob (block_ok (id := 2) (r' := ((.exit 1), zHe p0 v2 s4_18 s24_12 v3402 s34_10 s34_18 v3905)) (zvc (zLe k p0 v2 s4_18 s24_12 v3402 s34_10 s34_18) k _ _ h3903) rfl) ob0))) (by kernel_rfl)
  ·subst hh
   refine sum_ok g3_0 (fun v3905 hh g3_1 => ?_) (fun v3905 hh g3_1 => ?_)
   ·subst hh
    exact zqn ((w64 (s34_10 + 1)), s34_18) [] [(97, 1, 0, .q (xb true)), (97, 3, 3, .q (xi (v3402.2.2.2.1.1.length : Int)))] [(97, 2, ((.exit 1), zUe p0 v2 s4_18 s24_12 v3402 s34_10 s34_18 v3905))] g3_1 (ob (o_b h3901) (ob (o_len zh v3402.2.2.2.1.1) (ob (block_ok (id := 2) (r' := ((.exit 1), zUe p0 v2 s4_18 s24_12 v3402 s34_10 s34_18 v3905)) (zvc (zLe k p0 v2 s4_18 s24_12 v3402 s34_10 s34_18) k _ _ h3903) rfl) ob0))) (by kernel_rfl)
   ·subst hh
    refine bind_ok g3_1 (fun v3906 h3907 g4 => ?_)
    refine bind_ok g4 (fun v3908 h3909 g5 => ?_)
    refine bind_ok g5 (fun v3910 h3911 g6 => ?_)
    refine bind_ok g6 (fun v3912 h3913 g7 => ?_)
    exact zqn ((w64 (s34_10 + 1)), (mset zA (⟨(w64 (s4_18 - 1)), s24_12⟩ : zq) v3912 s34_18)) [] [(97, 1, 0, .q (xb true)), (97, 3, 3, .q (xi (v3402.2.2.2.1.1.length : Int))), (82, 21, 5, .q (.d (.agg (aB 61 ((mfind zA (⟨s4_18, s34_10⟩ : zq) s34_18).getD (fun _ => false)))))), (82, 21, 7, .c (.agg (aB 61 v3906))), (82, 22, 5, .c (dl zH v3908.1 v3908.2)), (82, 23, 1, .q (xi (v3908.1.length : Int))), (82, 29, 10, .q (.d (.agg (aB 61 ((mfind zA (⟨(w64 (s4_18 - 1)), s24_12⟩ : zq) s34_18).getD (fun _ => false)))))), (82, 29, 12, .c (.agg (aB 61 v3912))), (82, 29, 13, .mp (em (fun k => D.agg (zB k)) (fun v => D.agg ((aB 61) v)) (mset zA (⟨(w64 (s4_18 - 1)), s24_12⟩ : zq) v3912 s34_18)))] [(97, 2, (.nor, zRe p0 v2 s4_18 s24_12 v3402 s34_10 s34_18 v3905)), (82, 10, (.nor, zVe p0 v2 s4_18 s24_12 v3402 s34_10 s34_18 v3908 v3910))] g7 (ob (o_b h3901) (ob (o_len zh v3402.2.2.2.1.1) (ob (block_ok (id := 2) (r' := (.nor, zRe p0 v2 s4_18 s24_12 v3402 s34_10 s34_18 v3905)) (zvc (zLe k p0 v2 s4_18 s24_12 v3402 s34_10 s34_18) k _ _ h3903) rfl) (ob (o_look (ek := (fun k => D.agg (zB k))) (evl := (fun v => D.agg ((aB 61) v))) (q := zA) (fun _ _ => rfl) (⟨s4_18, s34_10⟩ : zq) s34_18 (fun _ => false)) (ob (zPg k p0 ((mfind zA (⟨s4_18, s34_10⟩ : zq) s34_18).getD (fun _ => false)) s4_18 _ h3907) (ob (zdh k p0 s4_18 (andNot64 s34_10 s24_12) _ h3909) (ob (o_len zH v3908.1) (ob (block_ok (id := 10) (r' := (.nor, zVe p0 v2 s4_18 s24_12 v3402 s34_10 s34_18 v3908 v3910)) (zR (z7j k p0 v2 s4_18 s24_12 v3402 s34_10 s34_18 v3908) k _ _ h3911) rfl) (ob (o_look (ek := (fun k => D.agg (zB k))) (evl := (fun v => D.agg ((aB 61) v))) (q := zA) (fun _ _ => rfl) (⟨(w64 (s4_18 - 1)), s24_12⟩ : zq) s34_18 (fun _ => false)) (ob (zSk k ((mfind zA (⟨(w64 (s4_18 - 1)), s24_12⟩ : zq) s34_18).getD (fun _ => false)) v3910.2 _ h3913) (ob (set_em (ek := (fun k => D.agg (zB k))) (evl := (fun v => D.agg ((aB 61) v))) (q := zA) (fun _ _ => rfl) (⟨(w64 (s4_18 - 1)), s24_12⟩ : zq) v3912 s34_18) ob0))))))))))) (by kernel_rfl)
 ·exact zqo [(97, 1, 0, .q (xb false))] [] g1 (ob (o_b h3901) ob0) (by kernel_rfl)
noncomputable def zCn (p0 : zd) (v2 : zt6) (s24_12 : Int) : TM := [(0, (.d (.agg (zm p0)))), (zsp 1), (2, (.d .nilm)), (zsp 3), (19, (xi (shl64 1 (p0.ShelfBook.Deliveries.1.length : Int)))), (20, (xi v2.1)), (21, (xb false)), (zsp 7), (52, (xb true)), (59, (xi (shl64 1 (p0.ShelfBook.Deliveries.1.length : Int)))), (60, (xi s24_12))]
noncomputable def zok (p0 : zd) (v2 : zt6) (s4_18 s24_12 : Int) (s24_20 : zt2) : St := ⟨(zCn p0 v2 s24_12), ⟨[(zc 1 (zm p0)), (14, (.map (em (fun k => D.agg (zB k)) (fun v => D.agg ((aB 61) v)) s24_20))), (3, (.cells [(.map 0 14)])), (7, (.cells [(xi s4_18)]))], []⟩, []⟩
noncomputable def zHn (p0 : zd) (v2 r : zt6) : TM := [(0, (.d (.agg (zm p0)))), (zsp 1), (2, (.d .nilm)), (zsp 3), (19, (xi (shl64 1 (p0.ShelfBook.Deliveries.1.length : Int)))), (20, (xi v2.1)), (21, (xb false)), (zsp 7), (52, (xb true)), (59, (xi (shl64 1 (p0.ShelfBook.Deliveries.1.length : Int)))), (60, (xi r.1)), (61, (xb false))]
noncomputable def zTe (p0 : zd) (v2 : zt6) (s4_18 : Int) (r : zt6) : St := ⟨(zHn p0 v2 r), ⟨[(zc 1 (zm p0)), (14, (.map (em (fun k => D.agg (zB k)) (fun v => D.agg ((aB 61) v)) r.2))), (3, (.cells [(.map 0 14)])), (7, (.cells [(xi s4_18)]))], []⟩, []⟩
noncomputable def zik (p0 : zd) (v2 : zt6) (s4_18 : Int) : (Int × (List (zq × (Nat → Bool)))) → Ex × St := fun r => ((.exit 6), zTe p0 v2 s4_18 r)
theorem zgk (k : Nat) (p0 : zd) (v2 : zt6) (s4_18 s24_12 : Int) (s24_20 : zt2) (x : (Int × (List (zq × (Nat → Bool)))) ⊕ (Int × (List (zq × (Nat → Bool))))) (h : zuf k p0 v2 s4_18 s24_12 s24_20 = some x) : LoopOK TE 82 (blk TE 82 6) (fun s : (Int × (List (zq × (Nat → Bool)))) => zok p0 v2 s4_18 s.1 s.2) (zik p0 v2 s4_18) (s24_12, s24_20) x := by
 unfold zuf at h
 refine cond_ok h (fun h3401 g1 => ?_) (fun h3401 g1 => ?_)
 ·refine bind_ok g1 (fun v3402 h3403 g2 => ?_)
  refine cond_ok g2 (fun h3404 g3 => ?_) (fun h3404 g3 => ?_)
  ·cases g3
  ·refine bind_ok g3 (fun v3405 h3406 g4 => ?_)
   exact zqn ((w64 (s24_12 + 1)), v3405.2) [] [(82, 17, 0, .q (xb true)), (82, 19, 3, .c (.fn 97 [] [(.pin [(di v3402.1), (dl zk v3402.2.1.1 v3402.2.1.2), (dl zl v3402.2.2.1.1 v3402.2.2.1.2), (dl zh v3402.2.2.2.1.1 v3402.2.2.2.1.2), (dl zj v3402.2.2.2.2.1.1 v3402.2.2.2.2.1.2), (di v3402.2.2.2.2.2.1), (di v3402.2.2.2.2.2.2.1)]), (.pin [(di v3402.2.2.2.2.2.2.2.1)]), (.pin [(di v3402.2.2.2.2.2.2.2.2)])])), (97, 0, 3, .q (xi (v3402.2.2.2.1.1.length : Int))), (97, 0, 4, .q (xi (shl64 1 (v3402.2.2.2.1.1.length : Int))))] [(97, 0, (.nor, zKe p0 v2 s4_18 s24_12 v3402 v3405))] g4 (ob (o_b h3401) (ob (zSh k p0 s4_18 s24_12 _ h3403) (ob (o_len zh v3402.2.2.2.1.1) (ob (o_shl (x := 1) h3404) (ob (block_ok (id := 0) (r' := (.nor, zKe p0 v2 s4_18 s24_12 v3402 v3405)) (zR (zZj k p0 v2 s4_18 s24_12 v3402) k _ _ h3406) rfl) ob0))))) (by kernel_rfl)
 ·exact zqo [(82, 17, 0, .q (xb false))] [] g1 (ob (o_b h3401) ob0) (by kernel_rfl)
noncomputable def zlm (p0 : zd) (v2 : zt6) : TM := [(0, (.d (.agg (zm p0)))), (zsp 1), (2, (.d .nilm)), (zsp 3), (19, (xi (shl64 1 (p0.ShelfBook.Deliveries.1.length : Int)))), (20, (xi v2.1)), (21, (xb false)), (zsp 7)]
noncomputable def zPk (p0 : zd) (v2 : zt6) (s4_17 : zt2) (s4_18 : Int) : St := ⟨(zlm p0 v2), ⟨[(zc 1 (zm p0)), (14, (.map (em (fun k => D.agg (zB k)) (fun v => D.agg ((aB 61) v)) s4_17))), (3, (.cells [(.map 0 14)])), (7, (.cells [(xi s4_18)]))], []⟩, []⟩
noncomputable def z0e (p0 : zd) (v2 : zt6) (r : ((List (zq × (Nat → Bool))) × Int)) : St := ⟨(zlm p0 v2 ++ [(52, (xb false))]), ⟨[(zc 1 (zm p0)), (14, (.map (em (fun k => D.agg (zB k)) (fun v => D.agg ((aB 61) v)) r.1))), (3, (.cells [(.map 0 14)])), (7, (.cells [(xi r.2)]))], []⟩, []⟩
noncomputable def zOk (p0 : zd) (v2 : zt6) : ((List (zq × (Nat → Bool))) × Int) → Ex × St := fun r => ((.exit 4), z0e p0 v2 r)
theorem zEk (k : Nat) (p0 : zd) (v2 : zt6) (s4_17 : zt2) (s4_18 : Int) (x : ((List (zq × (Nat → Bool))) × Int) ⊕ ((List (zq × (Nat → Bool))) × Int)) (h : z4f k p0 v2 s4_17 s4_18 = some x) : LoopOK TE 82 (blk TE 82 4) (fun s : ((List (zq × (Nat → Bool))) × Int) => zPk p0 v2 s.1 s.2) (zOk p0 v2) (s4_17, s4_18) x := by
 unfold z4f at h
 refine cond_ok h (fun h2401 g1 => ?_) (fun h2401 g1 => ?_)
 ·refine cond_ok g1 (fun h2402 g2 => ?_) (fun h2402 g2 => ?_)
  ·cases g2
  ·refine bind_ok g2 (fun v2403 h2404 g3 => ?_)
   exact zqn (v2403.2, (w64 (s4_18 - 1))) [] [(82, 14, 1, .q (xb true)), (82, 16, 3, .q (xi (p0.ShelfBook.Deliveries.1.length : Int))), (82, 16, 4, .q (xi (shl64 1 (p0.ShelfBook.Deliveries.1.length : Int))))] [(82, 6, (.nor, zTe p0 v2 s4_18 v2403))] g3 (ob (o_b h2401) (ob (o_len zh p0.ShelfBook.Deliveries.1) (ob (o_shl (x := 1) h2402) (ob (block_ok (id := 6) (r' := (.nor, zTe p0 v2 s4_18 v2403)) (zR (zgk k p0 v2 s4_18) k _ _ h2404) rfl) ob0)))) (by kernel_rfl)
 ·exact zqo [(82, 14, 1, .q (xb false))] [] g1 (ob (o_b h2401) ob0) (by kernel_rfl)
theorem zYk (k : Nat) (p0 : zd) (r : zt2) (h : zbh k p0 = some r) : callP TE (ev TE) 82 [(.agg (zm p0))] = some (zpi r) := by
 unfold zbh at h
 refine cond_ok h (fun h1 g1 => ?_) (fun h1 g1 => ?_)
 ·cases g1
 ·refine bind_ok g1 (fun v2 h3 g2 => ?_)
  refine bind_ok g2 (fun v4 h5 g3 => ?_)
  exact fin_ok (g := zpi) g3 (zqc [(82, 2, 3, .q (xi (p0.ShelfBook.Deliveries.1.length : Int))), (82, 2, 4, .q (xi (shl64 1 (p0.ShelfBook.Deliveries.1.length : Int))))] [(82, 0, (.nor, z7e p0 v2)), (82, 4, (.nor, z0e p0 v2 v4))] (ob (o_len zh p0.ShelfBook.Deliveries.1) (ob (o_shl (x := 1) h1) (ob (block_ok (id := 0) (r' := (.nor, z7e p0 v2)) (zR (zwk k p0) k _ _ h3) rfl) (ob (block_ok (id := 4) (r' := (.nor, z0e p0 v2 v4)) (zR (zEk k p0 v2) k _ _ h5) rfl) ob0)))) (by kernel_rfl))
end Go.AM

