/- The statement SlipRosters holds for every input that its row lets in. Conditions: none. -/
import Derived.Test.YtobbgcagbnhecaaDoorC
set_option linter.all false
set_option linter.unusedVariables false
set_option maxRecDepth 100000
namespace Go.AM
open Go Go.Proofs
def zsp (n : Nat) : Nat × X := (n, .ptr 0 n 0)
def zc (n : Nat) (l : List D) : Nat × O := (n, .cells (l.map .d))
section
variable {E : Env} {fid : Nat} {c : Code}
theorem zqn {S R : Type} {S0 : S → St} {R0 : R → Ex × St} {s : S} {x : S ⊕ R} (s' : S) (rs : List Nat) (V : Ovs) (C : Cuts) (h : some (Sum.inl s') = some x) {P : List Prop} (hP : All P) (hr : zvj E V C rs 80 fid c (S0 s) = some (.inl (S0 s'), P)) : zE E fid c S0 R0 s x := z0y h hP hr
theorem zqo {S R : Type} {S0 : S → St} {R0 : R → Ex × St} {s : S} {r : R} {x : S ⊕ R} (V : Ovs) (C : Cuts) (h : some (Sum.inr r) = some x) {P : List Prop} (hP : All P) (hr : zvj E V C [] 80 fid c (S0 s) = some (.inr (R0 r), P)) : zE E fid c S0 R0 s x := zdz h hP hr
theorem zSd {A0 R : Type} {S0 : A0 → St} {R0 : R → Ex × St} {W : A0 → Option ((A0) ⊕ R)} (h : ∀ b0 x, W b0 = some x → zE E fid c S0 R0 b0 x) : ∀ (m : Nat) (s : A0) (r : R), iter (fun s => W s) m s = some r → ev E fid c (S0 s) = some (R0 r) := z6g fun s x e => h s x e
theorem zkb {A0 A1 R : Type} {S0 : A0 × A1 → St} {R0 : R → Ex × St} {W : A0 → A1 → Option ((A0 × A1) ⊕ R)} (h : ∀ b0 b1 x, W b0 b1 = some x → zE E fid c S0 R0 (b0, b1) x) : ∀ (m : Nat) (s : A0 × A1) (r : R), iter (fun s => W s.1 s.2) m s = some r → ev E fid c (S0 s) = some (R0 r) := z6g fun s x e => h s.1 s.2 x e
theorem zyo {A0 A1 A2 R : Type} {S0 : A0 × A1 × A2 → St} {R0 : R → Ex × St} {W : A0 → A1 → A2 → Option ((A0 × A1 × A2) ⊕ R)} (h : ∀ b0 b1 b2 x, W b0 b1 b2 = some x → zE E fid c S0 R0 (b0, b1, b2) x) : ∀ (m : Nat) (s : A0 × A1 × A2) (r : R), iter (fun s => W s.1 s.2.1 s.2.2) m s = some r → ev E fid c (S0 s) = some (R0 r) := z6g fun s x e => h s.1 s.2.1 s.2.2 x e
theorem zdq {A0 A1 A2 A3 R : Type} {S0 : A0 × A1 × A2 × A3 → St} {R0 : R → Ex × St} {W : A0 → A1 → A2 → A3 → Option ((A0 × A1 × A2 × A3) ⊕ R)} (h : ∀ b0 b1 b2 b3 x, W b0 b1 b2 b3 = some x → zE E fid c S0 R0 (b0, b1, b2, b3) x) : ∀ (m : Nat) (s : A0 × A1 × A2 × A3) (r : R), iter (fun s => W s.1 s.2.1 s.2.2.1 s.2.2.2) m s = some r → ev E fid c (S0 s) = some (R0 r) := z6g fun s x e => h s.1 s.2.1 s.2.2.1 s.2.2.2 x e
theorem zyC {A0 A1 A2 A3 A4 R : Type} {S0 : A0 × A1 × A2 × A3 × A4 → St} {R0 : R → Ex × St} {W : A0 → A1 → A2 → A3 → A4 → Option ((A0 × A1 × A2 × A3 × A4) ⊕ R)} (h : ∀ b0 b1 b2 b3 b4 x, W b0 b1 b2 b3 b4 = some x → zE E fid c S0 R0 (b0, b1, b2, b3, b4) x) : ∀ (m : Nat) (s : A0 × A1 × A2 × A3 × A4) (r : R), iter (fun s => W s.1 s.2.1 s.2.2.1 s.2.2.2.1 s.2.2.2.2) m s = some r → ev E fid c (S0 s) = some (R0 r) := z6g fun s x e => h s.1 s.2.1 s.2.2.1 s.2.2.2.1 s.2.2.2.2 x e
theorem zzC {A0 A1 A2 A3 A4 A5 R : Type} {S0 : A0 × A1 × A2 × A3 × A4 × A5 → St} {R0 : R → Ex × St} {W : A0 → A1 → A2 → A3 → A4 → A5 → Option ((A0 × A1 × A2 × A3 × A4 × A5) ⊕ R)} (h : ∀ b0 b1 b2 b3 b4 b5 x, W b0 b1 b2 b3 b4 b5 = some x → zE E fid c S0 R0 (b0, b1, b2, b3, b4, b5) x) : ∀ (m : Nat) (s : A0 × A1 × A2 × A3 × A4 × A5) (r : R), iter (fun s => W s.1 s.2.1 s.2.2.1 s.2.2.2.1 s.2.2.2.2.1 s.2.2.2.2.2) m s = some r → ev E fid c (S0 s) = some (R0 r) := z6g fun s x e => h s.1 s.2.1 s.2.2.1 s.2.2.2.1 s.2.2.2.2.1 s.2.2.2.2.2 x e
theorem zqe {st : St} {r : Ex × St} {P : List Prop} (V : Ovs) (C : Cuts) (hP : All P) (h : evV E V C 80 fid c st = some (r, P)) : ev E fid c st = some r := zxz hP h
theorem zqc {f : Nat} {ds : List D} {d : D} {P : List Prop} (V : Ovs) (C : Cuts) (hP : All P) (h : z8s E V C 80 f ds = some (d, P)) : zB E (ev E) f ds = some d := zVx hP h
theorem zqr {f : Nat} {ds : List D} {d : D} {P : List Prop} (V : Ovs) (C : Cuts) (res : List D) (hP : All P) (h : zdr E V C 80 f ds res = some (d, P)) : zB E (ev E) f ds = some d := zlw hP h
end
section
variable {α : Type}
theorem zqa (T : TypeId) (bt lv s : Nat) (n : Int) (b : Bool) (z : Nat) (e : α → List D) (l : List α) (w : Bool) {y : α} (ha : arT TE.P T = none) (hs : slT TE.P T = some (z, bt)) (h : idx l n = some y) : iaX TE.P (fun _ _ => some (rowO b z e l w)) T (.row lv s l.length) (xi n) = some (.rp lv s l.length n.toNat 0) := zry ha hs h
theorem zql (T : TypeId) (q : Nat × Bool) (lv s o : Nat) (n : Int) (x : X) (b : Bool) (z : Nat) (e : α → List D) (l : List α) (w : Bool) {y : α} (ht : tyT TE.P T = some q) (h : idx l n = some y) (hx : (ztj q.2 q.1 ((e y).drop o)).map X.d = some x) : ldX TE.P (fun _ _ => some (rowO b z e l w)) T (.rp lv s l.length n.toNat o) = some x := zsA ht h hx
theorem zqf (T : TypeId) (q : Nat × Nat × Bool) (lv s o f : Nat) (n : Int) (b : Bool) (z : Nat) (e : α → List D) (l : List α) (w : Bool) {y : α} (hf : fdT TE.P T f = some q) (hq : q.2.1 ≠ 0) (h : idx l n = some y) : faX TE.P (fun _ _ => some (rowO b z e l w)) T (.rp lv s l.length n.toNat o) f = some (.rp lv s l.length n.toNat (o + q.1)) := zvA hf hq h
end
theorem zS (k : Nat) (p0 p1 p2 : Int) (r : Bool) (h : ztb k p0 p1 p2 = some r) : zB TE (ev TE) 56 [(di p0), (di p1), (di p2)] = some (zdk r) := by
 unfold ztb at h
 refine zn h (fun h1 g1 => ?_) (fun h1 g1 => ?_)
 ·exact zy (g := zdk) g1 (zqc [(56, 1, 3, .q (xb true))] [] (ob (o_b h1) ob0) (by kernel_rfl))
 ·exact zy (g := zdk) g1 (zqc [(56, 1, 3, .q (xb false))] [] (ob (o_b h1) ob0) (by kernel_rfl))
theorem zyn (k : Nat) (p0 : zp) (p1 p2 : Int) (r : Bool) (h : zig k p0 p1 p2 = some r) : zB TE (ev TE) 61 [(.agg [(di p0.Low), (di p0.High)]), (di p1), (di p2)] = some (zrh r) := by
 unfold zig at h
 refine zn h (fun h1 g1 => ?_) (fun h1 g1 => ?_)
 ·refine zn g1 (fun h2 g2 => ?_) (fun h2 g2 => ?_)
  ·exact zy (g := zrh) g2 (zqc [(61, 1, 4, .q (xb true)), (61, 1, 11, .q (xb true))] [] (ob (o_b h1) (ob (o_b h2) ob0)) (by kernel_rfl))
  ·exact zy (g := zrh) g2 (zqc [(61, 1, 4, .q (xb true)), (61, 1, 11, .q (xb false))] [] (ob (o_b h1) (ob (o_b h2) ob0)) (by kernel_rfl))
 ·exact zy (g := zrh) g1 (zqc [(61, 1, 4, .q (xb false))] [] (ob (o_b h1) ob0) (by kernel_rfl))
noncomputable def zk1 (p0 : zd) (r : Bool) : TM := [(0, (.d (.agg (za p0)))), (zsp 1), (2, (xi 0)), (3, (xb r))]
noncomputable def zsc (p0 : zd) (r : Bool) : St := ⟨(zk1 p0 r), ⟨[(zc 1 (za p0))], []⟩, []⟩
theorem zQp (k : Nat) (p0 : zd) (r : Bool) (h : zbg k p0 = some r) : ev TE 16 (rgn TE 16 1) ⟨[(0, (.d (.agg (za p0)))), (zsp 1), (2, (xi 0))], ⟨[(zc 1 (za p0))], []⟩, []⟩ = some (.nor, zsc p0 r) := by
 unfold zbg at h
 refine zj h (fun v201 h202 g1 => ?_)
 have y1 := fun (d : Ex × St) (P : List Prop) (V : Ovs) (C : Cuts) (q : All P) h => (zqe ([(16, 1, 2, .q (xi (p0.Far.1.length : Int))), (16, 1, 3, .c (db v201))] ++ V) C (ob (zr eI p0.Far.1) (ob (zS k (p0.Far.1.length : Int) 1 12 _ h202) q)) h : ev TE 16 (rgn TE 16 1) ⟨[(0, (.d (.agg (za p0)))), (zsp 1), (2, (xi 0))], ⟨[(zc 1 (za p0))], []⟩, []⟩ = some d)
 refine zn g1 (fun h203 g2 => ?_) (fun h203 g2 => ?_)
 ·have y2 := fun (d : _) (P : List Prop) (V : Ovs) (C : Cuts) (q : All P) h => y1 d _ ([(16, 1, 4, .q (xb true)), (16, 1, 7, .q (xi (p0.Pick.1.length : Int))), (16, 1, 10, .q (xi (p0.Far.1.length : Int)))] ++ V) C (ob (o_b h203) (ob (zr zq p0.Pick.1) (ob (zr eI p0.Far.1) q))) h
  refine zn g2 (fun h204 g3 => ?_) (fun h204 g3 => ?_)
  ·refine zj g3 (fun v205 h206 g4 => ?_)
   have y3 := fun (d : _) (P : List Prop) (V : Ovs) (C : Cuts) (q : All P) h => y2 d _ ([(16, 1, 13, .q (xb true)), (16, 1, 16, .c (db v205))] ++ V) C (ob (o_b h204) (ob (zyn k p0.Step 1 10 _ h206) q)) h
   refine zn g4 (fun h207 g5 => ?_) (fun h207 g5 => ?_)
   ·refine zj g5 (fun v208 h209 g6 => ?_)
    refine zn g6 (fun h210 g7 => ?_) (fun h210 g7 => ?_)
    ·exact zA (g := fun r => (Ex.nor, zsc p0 r)) g7 (y3 _ _ [(16, 1, 18, .q (xb true)), (16, 1, 21, .c (db v208)), (16, 1, 23, .q (xb true)), (16, 1, 26, .q (xi (p0.Slips.1.length : Int)))] [] (ob (o_b h207) (ob (zS k p0.Carry 1 20 _ h209) (ob (o_b h210) (ob (zr zl p0.Slips.1) ob0)))) (by kernel_rfl))
    ·exact zA (g := fun r => (Ex.nor, zsc p0 r)) g7 (y3 _ _ [(16, 1, 18, .q (xb true)), (16, 1, 21, .c (db v208)), (16, 1, 23, .q (xb false))] [] (ob (o_b h207) (ob (zS k p0.Carry 1 20 _ h209) (ob (o_b h210) ob0))) (by kernel_rfl))
   ·exact zA (g := fun r => (Ex.nor, zsc p0 r)) g5 (y3 _ _ [(16, 1, 18, .q (xb false))] [] (ob (o_b h207) ob0) (by kernel_rfl))
  ·exact zA (g := fun r => (Ex.nor, zsc p0 r)) g3 (y2 _ _ [(16, 1, 13, .q (xb false))] [] (ob (o_b h204) ob0) (by kernel_rfl))
 ·exact zA (g := fun r => (Ex.nor, zsc p0 r)) g2 (y1 _ _ [(16, 1, 4, .q (xb false))] [] (ob (o_b h203) ob0) (by kernel_rfl))
noncomputable def zk2 (p0 : zd) (r : Bool) (s2_8 s2_11 v402 : Int) : TM := zk1 p0 r ++ [(4, (xi s2_8)), (44, (.d (dl eI p0.Far.1 p0.Far.2))), (45, (xi (p0.Far.1.length : Int))), (46, (xi s2_11)), (47, (xb true)), (6, (xi v402))]
noncomputable def zwg (p0 : zd) (s2_7 : Bool) (s2_8 s2_11 v402 : Int) (r : Bool) : St := ⟨(zk2 p0 r s2_8 s2_11 v402), ⟨[(zc 1 (za p0))], []⟩, []⟩
noncomputable def zk3 (p0 : zd) (s2_7 : Bool) (s2_8 s2_11 v402 : Int) : TM := [(0, (.d (.agg (za p0)))), (zsp 1), (2, (xi 0)), (3, (xb s2_7)), (4, (xi s2_8)), (44, (.d (dl eI p0.Far.1 p0.Far.2))), (45, (xi (p0.Far.1.length : Int))), (46, (xi s2_11)), (47, (xb true)), (6, (xi v402))]
theorem zbq (k : Nat) (p0 : zd) (s2_7 : Bool) (s2_8 s2_11 v402 : Int) (r : Bool) (h : zwh k p0 s2_7 s2_8 s2_11 v402 = some r) : ev TE 16 (rgn TE 16 6) ⟨(zk3 p0 s2_7 s2_8 s2_11 v402), ⟨[(zc 1 (za p0))], []⟩, []⟩ = some (.nor, zwg p0 s2_7 s2_8 s2_11 v402 r) := by
 unfold zwh at h
 refine zn h (fun h501 g1 => ?_) (fun h501 g1 => ?_)
 ·refine zj g1 (fun v502 h503 g2 => ?_)
  exact zA (g := fun r => (Ex.nor, zwg p0 s2_7 s2_8 s2_11 v402 r)) g2 (zqe [(16, 6, 1, .q (xb true)), (16, 6, 4, .c (db v502))] [] (ob (o_b h501) (ob (zS k v402 s2_8 500 _ h503) ob0)) (by kernel_rfl))
 ·exact zA (g := fun r => (Ex.nor, zwg p0 s2_7 s2_8 s2_11 v402 r)) g1 (zqe [(16, 6, 1, .q (xb false))] [] (ob (o_b h501) ob0) (by kernel_rfl))
noncomputable def zk4 (p0 : zd) (s2_7 : Bool) (s2_8 s2_11 : Int) : TM := [(0, (.d (.agg (za p0)))), (zsp 1), (2, (xi 0)), (3, (xb s2_7)), (4, (xi s2_8)), (44, (.d (dl eI p0.Far.1 p0.Far.2))), (45, (xi (p0.Far.1.length : Int))), (46, (xi s2_11))]
noncomputable def zCr (p0 : zd) (s2_7 : Bool) (s2_8 s2_11 : Int) : St := ⟨(zk4 p0 s2_7 s2_8 s2_11), ⟨[(zc 1 (za p0))], []⟩, []⟩
noncomputable def zk5 (p0 : zd) (r : zt4) : TM := [(0, (.d (.agg (za p0)))), (zsp 1), (2, (xi 0)), (3, (xb r.1)), (4, (xi r.2.1)), (44, (.d (dl eI p0.Far.1 p0.Far.2))), (45, (xi (p0.Far.1.length : Int))), (46, (xi r.2.2)), (47, (xb false))]
noncomputable def zZf (p0 : zd) (r : zt4) : St := ⟨(zk5 p0 r), ⟨[(zc 1 (za p0))], []⟩, []⟩
noncomputable def z0q (p0 : zd) : (Bool × Int × Int) → Ex × St := fun r => ((.exit 0), zZf p0 r)
theorem zNp (k : Nat) (p0 : zd) (s2_7 : Bool) (s2_8 s2_11 : Int) (x : (Bool × Int × Int) ⊕ (Bool × Int × Int)) (h : zOe k p0 s2_7 s2_8 s2_11 = some x) : zE TE 16 (blk TE 16 0) (fun s : (Bool × Int × Int) => zCr p0 s.1 s.2.1 s.2.2) (z0q p0) (s2_7, s2_8, s2_11) x := by
 unfold zOe at h
 refine zn h (fun h401 g1 => ?_) (fun h401 g1 => ?_)
 ·refine zj g1 (fun v402 h403 g2 => ?_)
  refine zj g2 (fun v404 h405 g3 => ?_)
  exact zqn (v404, v402, (w64 (s2_11 + 1))) [] [(16, 4, 0, .q (xb true)), (16, 5, 0, .q (.d (.pin [(di v402)])))] [(16, 1000006, (.nor, zwg p0 s2_7 s2_8 s2_11 v402 v404))] g3 (ob (o_b h401) (ob (o_ia (e := eI) 1 h403 rfl) (ob (zbq k p0 s2_7 s2_8 s2_11 v402 _ h405) ob0))) (by kernel_rfl)
 ·exact zqo [(16, 4, 0, .q (xb false))] [] g1 (ob (o_b h401) ob0) (by kernel_rfl)
noncomputable def zk6 (p0 : zd) (r : Bool) (v3 : zt4) (s5_15 : Int) : TM := zk1 p0 r ++ [(4, (xi v3.2.1)), (44, (.d (dl eI p0.Far.1 p0.Far.2))), (45, (xi (p0.Far.1.length : Int))), (46, (xi v3.2.2)), (47, (xb false)), (59, (.d (dl zq p0.Pick.1 p0.Pick.2))), (60, (xi (p0.Pick.1.length : Int))), (61, (xi s5_15)), (62, (xb true)), (zsp 8)]
noncomputable def zEg (p0 : zd) (v3 : zt4) (s5_7 : Bool) (s5_15 : Int) (v702 : zp) (r : Bool) : St := ⟨(zk6 p0 r v3 s5_15), ⟨[(zc 1 (za p0)), (8, (.cells [(xi v702.Low), (xi v702.High)]))], []⟩, []⟩
noncomputable def zk7 (p0 : zd) (s5_7 : Bool) (v3 : zt4) (s5_15 : Int) : TM := [(0, (.d (.agg (za p0)))), (zsp 1), (2, (xi 0)), (3, (xb s5_7)), (4, (xi v3.2.1)), (44, (.d (dl eI p0.Far.1 p0.Far.2))), (45, (xi (p0.Far.1.length : Int))), (46, (xi v3.2.2)), (47, (xb false)), (59, (.d (dl zq p0.Pick.1 p0.Pick.2))), (60, (xi (p0.Pick.1.length : Int))), (61, (xi s5_15)), (62, (xb true)), (zsp 8)]
theorem zlq (k : Nat) (p0 : zd) (v3 : zt4) (s5_7 : Bool) (s5_15 : Int) (v702 : zp) (r : Bool) (h : zuh k p0 v3 s5_7 s5_15 v702 = some r) : ev TE 16 (rgn TE 16 12) ⟨(zk7 p0 s5_7 v3 s5_15), ⟨[(zc 1 (za p0)), (8, (.cells [(xi v702.Low), (xi v702.High)]))], []⟩, []⟩ = some (.nor, zEg p0 v3 s5_7 s5_15 v702 r) := by
 unfold zuh at h
 refine zn h (fun h801 g1 => ?_) (fun h801 g1 => ?_)
 ·refine zj g1 (fun v802 h803 g2 => ?_)
  exact zA (g := fun r => (Ex.nor, zEg p0 v3 s5_7 s5_15 v702 r)) g2 (zqe [(16, 12, 1, .q (xb true)), (16, 12, 3, .c (db v802))] [] (ob (o_b h801) (ob (zyn k v702 0 300 _ h803) ob0)) (by kernel_rfl))
 ·exact zA (g := fun r => (Ex.nor, zEg p0 v3 s5_7 s5_15 v702 r)) g1 (zqe [(16, 12, 1, .q (xb false))] [] (ob (o_b h801) ob0) (by kernel_rfl))
noncomputable def zk8 (p0 : zd) (s5_7 : Bool) (v3 : zt4) (s5_15 : Int) : TM := [(0, (.d (.agg (za p0)))), (zsp 1), (2, (xi 0)), (3, (xb s5_7)), (4, (xi v3.2.1)), (44, (.d (dl eI p0.Far.1 p0.Far.2))), (45, (xi (p0.Far.1.length : Int))), (46, (xi v3.2.2)), (47, (xb false)), (59, (.d (dl zq p0.Pick.1 p0.Pick.2))), (60, (xi (p0.Pick.1.length : Int))), (61, (xi s5_15))]
noncomputable def z5q (p0 : zd) (v3 : zt4) (s5_7 : Bool) (s5_15 : Int) : St := ⟨(zk8 p0 s5_7 v3 s5_15), ⟨[(zc 1 (za p0))], []⟩, []⟩
noncomputable def zk9 (p0 : zd) (r : zt9) (v3 : zt4) : TM := [(0, (.d (.agg (za p0)))), (zsp 1), (2, (xi 0)), (3, (xb r.1)), (4, (xi v3.2.1)), (44, (.d (dl eI p0.Far.1 p0.Far.2))), (45, (xi (p0.Far.1.length : Int))), (46, (xi v3.2.2)), (47, (xb false)), (59, (.d (dl zq p0.Pick.1 p0.Pick.2))), (60, (xi (p0.Pick.1.length : Int))), (61, (xi r.2)), (62, (xb false))]
noncomputable def zUf (p0 : zd) (v3 : zt4) (r : zt9) : St := ⟨(zk9 p0 r v3), ⟨[(zc 1 (za p0))], []⟩, []⟩
noncomputable def zBr (p0 : zd) (v3 : zt4) : (Bool × Int) → Ex × St := fun r => ((.exit 2), zUf p0 v3 r)
theorem zRp (k : Nat) (p0 : zd) (v3 : zt4) (s5_7 : Bool) (s5_15 : Int) (x : (Bool × Int) ⊕ (Bool × Int)) (h : zQe k p0 v3 s5_7 s5_15 = some x) : zE TE 16 (blk TE 16 2) (fun s : (Bool × Int) => z5q p0 v3 s.1 s.2) (zBr p0 v3) (s5_7, s5_15) x := by
 unfold zQe at h
 refine zn h (fun h701 g1 => ?_) (fun h701 g1 => ?_)
 ·refine zj g1 (fun v702 h703 g2 => ?_)
  refine zj g2 (fun v704 h705 g3 => ?_)
  exact zqn (v704, (w64 (s5_15 + 1))) [] [(16, 10, 0, .q (xb true)), (16, 11, 0, .q (.d (.pin [(di v702.Low), (di v702.High)])))] [(16, 1000012, (.nor, zEg p0 v3 s5_7 s5_15 v702 v704))] g3 (ob (o_b h701) (ob (o_ia (e := zq) 2 h703 rfl) (ob (zlq k p0 v3 s5_7 s5_15 v702 _ h705) ob0))) (by kernel_rfl)
 ·exact zqo [(16, 10, 0, .q (xb false))] [] g1 (ob (o_b h701) ob0) (by kernel_rfl)
noncomputable def zwz (p0 : zd) (r : Bool) (v3 : zt4) (v5 : zt9) (s8_19 : Int) : TM := zk1 p0 r ++ [(4, (xi v3.2.1)), (44, (.d (dl eI p0.Far.1 p0.Far.2))), (45, (xi (p0.Far.1.length : Int))), (46, (xi v3.2.2)), (47, (xb false)), (59, (.d (dl zq p0.Pick.1 p0.Pick.2))), (60, (xi (p0.Pick.1.length : Int))), (61, (xi v5.2)), (62, (xb false)), (72, (.d (dl zl p0.Slips.1 p0.Slips.2))), (73, (xi (p0.Slips.1.length : Int))), (74, (xi s8_19)), (75, (xb true)), (zsp 10)]
noncomputable def zwe (p0 : zd) (v3 : zt4) (v5 : zt9) (s8_7 : Bool) (s8_19 : Int) (v1302 : zm) (r : Bool) : St := ⟨(zwz p0 r v3 v5 s8_19), ⟨[(zc 1 (za p0)), (10, (.cells [(.d (dl zi v1302.Lines.1 v1302.Lines.2)), (xi v1302.Until)]))], []⟩, []⟩
noncomputable def zqB (p0 : zd) (s8_7 : Bool) (v3 : zt4) (v5 : zt9) (s8_19 : Int) : TM := [(0, (.d (.agg (za p0)))), (zsp 1), (2, (xi 0)), (3, (xb s8_7)), (4, (xi v3.2.1)), (44, (.d (dl eI p0.Far.1 p0.Far.2))), (45, (xi (p0.Far.1.length : Int))), (46, (xi v3.2.2)), (47, (xb false)), (59, (.d (dl zq p0.Pick.1 p0.Pick.2))), (60, (xi (p0.Pick.1.length : Int))), (61, (xi v5.2)), (62, (xb false)), (72, (.d (dl zl p0.Slips.1 p0.Slips.2))), (73, (xi (p0.Slips.1.length : Int))), (74, (xi s8_19)), (75, (xb true)), (zsp 10)]
theorem znp (k : Nat) (p0 : zd) (v3 : zt4) (v5 : zt9) (s8_7 : Bool) (s8_19 : Int) (v1302 : zm) (r : Bool) (h : z5g k p0 v3 v5 s8_7 s8_19 v1302 = some r) : ev TE 16 (rgn TE 16 17) ⟨(zqB p0 s8_7 v3 v5 s8_19), ⟨[(zc 1 (za p0)), (10, (.cells [(.d (dl zi v1302.Lines.1 v1302.Lines.2)), (xi v1302.Until)]))], []⟩, []⟩ = some (.nor, zwe p0 v3 v5 s8_7 s8_19 v1302 r) := by
 unfold z5g at h
 refine zn h (fun h1401 g1 => ?_) (fun h1401 g1 => ?_)
 ·refine zj g1 (fun v1402 h1403 g2 => ?_)
  refine zn g2 (fun h1404 g3 => ?_) (fun h1404 g3 => ?_)
  ·exact zA (g := fun r => (Ex.nor, zwe p0 v3 v5 s8_7 s8_19 v1302 r)) g3 (zqe [(16, 17, 1, .q (xb true)), (16, 17, 4, .c (db v1402)), (16, 17, 6, .q (xb true)), (16, 17, 9, .q (xi (v1302.Lines.1.length : Int)))] [] (ob (o_b h1401) (ob (zS k v1302.Until 0 100000 _ h1403) (ob (o_b h1404) (ob (zr zi v1302.Lines.1) ob0)))) (by kernel_rfl))
  ·exact zA (g := fun r => (Ex.nor, zwe p0 v3 v5 s8_7 s8_19 v1302 r)) g3 (zqe [(16, 17, 1, .q (xb true)), (16, 17, 4, .c (db v1402)), (16, 17, 6, .q (xb false))] [] (ob (o_b h1401) (ob (zS k v1302.Until 0 100000 _ h1403) (ob (o_b h1404) ob0))) (by kernel_rfl))
 ·exact zA (g := fun r => (Ex.nor, zwe p0 v3 v5 s8_7 s8_19 v1302 r)) g1 (zqe [(16, 17, 1, .q (xb false))] [] (ob (o_b h1401) ob0) (by kernel_rfl))
noncomputable def zYB (p0 : zd) (r : Bool) (v3 : zt4) (v5 : zt9) (s8_19 s14_21 : Int) (v1302 : zm) (s14_24 : Int) : TM := zwz p0 r v3 v5 s8_19 ++ [(11, (xi s14_21)), (91, (.d (dl zi v1302.Lines.1 v1302.Lines.2))), (92, (xi (v1302.Lines.1.length : Int))), (93, (xi s14_24)), (94, (xb true)), (zsp 13)]
noncomputable def zre (p0 : zd) (v3 : zt4) (v5 : zt9) (s8_19 : Int) (v1302 : zm) (s14_7 : Bool) (s14_21 s14_24 : Int) (v1602 : zk) (r : Bool) : St := ⟨(zYB p0 r v3 v5 s8_19 s14_21 v1302 s14_24), ⟨[(zc 1 (za p0)), (10, (.cells [(.d (dl zi v1302.Lines.1 v1302.Lines.2)), (xi v1302.Until)])), (13, (.cells [(xi v1602.Shelf), (xi v1602.Many)]))], []⟩, []⟩
noncomputable def zaC (p0 : zd) (s14_7 : Bool) (v3 : zt4) (v5 : zt9) (s8_19 s14_21 : Int) (v1302 : zm) (s14_24 : Int) : TM := [(0, (.d (.agg (za p0)))), (zsp 1), (2, (xi 0)), (3, (xb s14_7)), (4, (xi v3.2.1)), (44, (.d (dl eI p0.Far.1 p0.Far.2))), (45, (xi (p0.Far.1.length : Int))), (46, (xi v3.2.2)), (47, (xb false)), (59, (.d (dl zq p0.Pick.1 p0.Pick.2))), (60, (xi (p0.Pick.1.length : Int))), (61, (xi v5.2)), (62, (xb false)), (72, (.d (dl zl p0.Slips.1 p0.Slips.2))), (73, (xi (p0.Slips.1.length : Int))), (74, (xi s8_19)), (75, (xb true)), (zsp 10), (11, (xi s14_21)), (91, (.d (dl zi v1302.Lines.1 v1302.Lines.2))), (92, (xi (v1302.Lines.1.length : Int))), (93, (xi s14_24)), (94, (xb true)), (zsp 13)]
theorem ztp (k : Nat) (p0 : zd) (v3 : zt4) (v5 : zt9) (s8_19 : Int) (v1302 : zm) (s14_7 : Bool) (s14_21 s14_24 : Int) (v1602 : zk) (r : Bool) (h : zYg k p0 v3 v5 s8_19 v1302 s14_7 s14_21 s14_24 v1602 = some r) : ev TE 16 (rgn TE 16 22) ⟨(zaC p0 s14_7 v3 v5 s8_19 s14_21 v1302 s14_24), ⟨[(zc 1 (za p0)), (10, (.cells [(.d (dl zi v1302.Lines.1 v1302.Lines.2)), (xi v1302.Until)])), (13, (.cells [(xi v1602.Shelf), (xi v1602.Many)]))], []⟩, []⟩ = some (.nor, zre p0 v3 v5 s8_19 v1302 s14_7 s14_21 s14_24 v1602 r) := by
 unfold zYg at h
 refine zn h (fun h1701 g1 => ?_) (fun h1701 g1 => ?_)
 ·refine zj g1 (fun v1702 h1703 g2 => ?_)
  refine zn g2 (fun h1704 g3 => ?_) (fun h1704 g3 => ?_)
  ·refine zj g3 (fun v1705 h1706 g4 => ?_)
   exact zA (g := fun r => (Ex.nor, zre p0 v3 v5 s8_19 v1302 s14_7 s14_21 s14_24 v1602 r)) g4 (zqe [(16, 22, 1, .q (xb true)), (16, 22, 8, .q (xi (p0.Far.1.length : Int))), (16, 22, 10, .c (db v1702)), (16, 22, 12, .q (xb true)), (16, 22, 15, .c (db v1705))] [] (ob (o_b h1701) (ob (zr eI p0.Far.1) (ob (zS k v1602.Shelf (w64 (s14_21 + 1)) (w64 ((p0.Far.1.length : Int) - 1)) _ h1703) (ob (o_b h1704) (ob (zS k v1602.Many 1 20 _ h1706) ob0))))) (by kernel_rfl))
  ·exact zA (g := fun r => (Ex.nor, zre p0 v3 v5 s8_19 v1302 s14_7 s14_21 s14_24 v1602 r)) g3 (zqe [(16, 22, 1, .q (xb true)), (16, 22, 8, .q (xi (p0.Far.1.length : Int))), (16, 22, 10, .c (db v1702)), (16, 22, 12, .q (xb false))] [] (ob (o_b h1701) (ob (zr eI p0.Far.1) (ob (zS k v1602.Shelf (w64 (s14_21 + 1)) (w64 ((p0.Far.1.length : Int) - 1)) _ h1703) (ob (o_b h1704) ob0)))) (by kernel_rfl))
 ·exact zA (g := fun r => (Ex.nor, zre p0 v3 v5 s8_19 v1302 s14_7 s14_21 s14_24 v1602 r)) g1 (zqe [(16, 22, 1, .q (xb false))] [] (ob (o_b h1701) ob0) (by kernel_rfl))
noncomputable def zvB (p0 : zd) (s14_7 : Bool) (v3 : zt4) (v5 : zt9) (s8_19 s14_21 : Int) (v1302 : zm) (s14_24 : Int) : TM := [(0, (.d (.agg (za p0)))), (zsp 1), (2, (xi 0)), (3, (xb s14_7)), (4, (xi v3.2.1)), (44, (.d (dl eI p0.Far.1 p0.Far.2))), (45, (xi (p0.Far.1.length : Int))), (46, (xi v3.2.2)), (47, (xb false)), (59, (.d (dl zq p0.Pick.1 p0.Pick.2))), (60, (xi (p0.Pick.1.length : Int))), (61, (xi v5.2)), (62, (xb false)), (72, (.d (dl zl p0.Slips.1 p0.Slips.2))), (73, (xi (p0.Slips.1.length : Int))), (74, (xi s8_19)), (75, (xb true)), (zsp 10), (11, (xi s14_21)), (91, (.d (dl zi v1302.Lines.1 v1302.Lines.2))), (92, (xi (v1302.Lines.1.length : Int))), (93, (xi s14_24))]
noncomputable def zUp (p0 : zd) (v3 : zt4) (v5 : zt9) (s8_19 : Int) (v1302 : zm) (s14_7 : Bool) (s14_21 s14_24 : Int) : St := ⟨(zvB p0 s14_7 v3 v5 s8_19 s14_21 v1302 s14_24), ⟨[(zc 1 (za p0)), (10, (.cells [(.d (dl zi v1302.Lines.1 v1302.Lines.2)), (xi v1302.Until)]))], []⟩, []⟩
noncomputable def zRB (p0 : zd) (r v3 : zt4) (v5 : zt9) (s8_19 : Int) (v1302 : zm) : TM := [(0, (.d (.agg (za p0)))), (zsp 1), (2, (xi 0)), (3, (xb r.1)), (4, (xi v3.2.1)), (44, (.d (dl eI p0.Far.1 p0.Far.2))), (45, (xi (p0.Far.1.length : Int))), (46, (xi v3.2.2)), (47, (xb false)), (59, (.d (dl zq p0.Pick.1 p0.Pick.2))), (60, (xi (p0.Pick.1.length : Int))), (61, (xi v5.2)), (62, (xb false)), (72, (.d (dl zl p0.Slips.1 p0.Slips.2))), (73, (xi (p0.Slips.1.length : Int))), (74, (xi s8_19)), (75, (xb true)), (zsp 10), (11, (xi r.2.1)), (91, (.d (dl zi v1302.Lines.1 v1302.Lines.2))), (92, (xi (v1302.Lines.1.length : Int))), (93, (xi r.2.2)), (94, (xb false))]
noncomputable def zeh (p0 : zd) (v3 : zt4) (v5 : zt9) (s8_19 : Int) (v1302 : zm) (r : zt4) : St := ⟨(zRB p0 r v3 v5 s8_19 v1302), ⟨[(zc 1 (za p0)), (10, (.cells [(.d (dl zi v1302.Lines.1 v1302.Lines.2)), (xi v1302.Until)]))], []⟩, []⟩
noncomputable def zjq (p0 : zd) (v3 : zt4) (v5 : zt9) (s8_19 : Int) (v1302 : zm) : (Bool × Int × Int) → Ex × St := fun r => ((.exit 6), zeh p0 v3 v5 s8_19 v1302 r)
theorem zup (k : Nat) (p0 : zd) (v3 : zt4) (v5 : zt9) (s8_19 : Int) (v1302 : zm) (s14_7 : Bool) (s14_21 s14_24 : Int) (x : (Bool × Int × Int) ⊕ (Bool × Int × Int)) (h : zme k p0 v3 v5 s8_19 v1302 s14_7 s14_21 s14_24 = some x) : zE TE 16 (blk TE 16 6) (fun s : (Bool × Int × Int) => zUp p0 v3 v5 s8_19 v1302 s.1 s.2.1 s.2.2) (zjq p0 v3 v5 s8_19 v1302) (s14_7, s14_21, s14_24) x := by
 unfold zme at h
 refine zn h (fun h1601 g1 => ?_) (fun h1601 g1 => ?_)
 ·refine zj g1 (fun v1602 h1603 g2 => ?_)
  refine zj g2 (fun v1604 h1605 g3 => ?_)
  exact zqn (v1604, v1602.Shelf, (w64 (s14_24 + 1))) [] [(16, 20, 0, .q (xb true)), (16, 21, 0, .q (.d (.pin [(di v1602.Shelf), (di v1602.Many)])))] [(16, 1000022, (.nor, zre p0 v3 v5 s8_19 v1302 s14_7 s14_21 s14_24 v1602 v1604))] g3 (ob (o_b h1601) (ob (o_ia (e := zi) 2 h1603 rfl) (ob (ztp k p0 v3 v5 s8_19 v1302 s14_7 s14_21 s14_24 v1602 _ h1605) ob0))) (by kernel_rfl)
 ·exact zqo [(16, 20, 0, .q (xb false))] [] g1 (ob (o_b h1601) ob0) (by kernel_rfl)
noncomputable def zBB (p0 : zd) (s8_7 : Bool) (v3 : zt4) (v5 : zt9) (s8_19 : Int) : TM := [(0, (.d (.agg (za p0)))), (zsp 1), (2, (xi 0)), (3, (xb s8_7)), (4, (xi v3.2.1)), (44, (.d (dl eI p0.Far.1 p0.Far.2))), (45, (xi (p0.Far.1.length : Int))), (46, (xi v3.2.2)), (47, (xb false)), (59, (.d (dl zq p0.Pick.1 p0.Pick.2))), (60, (xi (p0.Pick.1.length : Int))), (61, (xi v5.2)), (62, (xb false)), (72, (.d (dl zl p0.Slips.1 p0.Slips.2))), (73, (xi (p0.Slips.1.length : Int))), (74, (xi s8_19))]
noncomputable def zFq (p0 : zd) (v3 : zt4) (v5 : zt9) (s8_7 : Bool) (s8_19 : Int) : St := ⟨(zBB p0 s8_7 v3 v5 s8_19), ⟨[(zc 1 (za p0))], []⟩, []⟩
noncomputable def zhB (p0 : zd) (r : zt9) (v3 : zt4) (v5 : zt9) : TM := [(0, (.d (.agg (za p0)))), (zsp 1), (2, (xi 0)), (3, (xb r.1)), (4, (xi v3.2.1)), (44, (.d (dl eI p0.Far.1 p0.Far.2))), (45, (xi (p0.Far.1.length : Int))), (46, (xi v3.2.2)), (47, (xb false)), (59, (.d (dl zq p0.Pick.1 p0.Pick.2))), (60, (xi (p0.Pick.1.length : Int))), (61, (xi v5.2)), (62, (xb false)), (72, (.d (dl zl p0.Slips.1 p0.Slips.2))), (73, (xi (p0.Slips.1.length : Int))), (74, (xi r.2)), (75, (xb false))]
noncomputable def zOf (p0 : zd) (v3 : zt4) (v5 r : zt9) : St := ⟨(zhB p0 r v3 v5), ⟨[(zc 1 (za p0))], []⟩, []⟩
noncomputable def zzr (p0 : zd) (v3 : zt4) (v5 : zt9) : (Bool × Int) → Ex × St := fun r => ((.exit 4), zOf p0 v3 v5 r)
theorem z5p (k : Nat) (p0 : zd) (v3 : zt4) (v5 : zt9) (s8_7 : Bool) (s8_19 : Int) (x : (Bool × Int) ⊕ (Bool × Int)) (h : zTe k p0 v3 v5 s8_7 s8_19 = some x) : zE TE 16 (blk TE 16 4) (fun s : (Bool × Int) => zFq p0 v3 v5 s.1 s.2) (zzr p0 v3 v5) (s8_7, s8_19) x := by
 unfold zTe at h
 refine zn h (fun h1301 g1 => ?_) (fun h1301 g1 => ?_)
 ·refine zj g1 (fun v1302 h1303 g2 => ?_)
  refine zj g2 (fun v1304 h1305 g3 => ?_)
  refine zj g3 (fun v1306 h1307 g4 => ?_)
  exact zqn (v1306.1, (w64 (s8_19 + 1))) [] [(16, 15, 0, .q (xb true)), (16, 16, 0, .q (.d (.pin [(dl zi v1302.Lines.1 v1302.Lines.2), (di v1302.Until)]))), (16, 19, 2, .q (xi (v1302.Lines.1.length : Int)))] [(16, 1000017, (.nor, zwe p0 v3 v5 s8_7 s8_19 v1302 v1304)), (16, 6, (.nor, zeh p0 v3 v5 s8_19 v1302 v1306))] g4 (ob (o_b h1301) (ob (o_ia (e := zl) 2 h1303 rfl) (ob (znp k p0 v3 v5 s8_7 s8_19 v1302 _ h1305) (ob (zr zi v1302.Lines.1) (ob (zx (id := 6) (r' := (.nor, zeh p0 v3 v5 s8_19 v1302 v1306)) (zyo (zup k p0 v3 v5 s8_19 v1302) k _ _ h1307) rfl) ob0))))) (by kernel_rfl)
 ·exact zqo [(16, 15, 0, .q (xb false))] [] g1 (ob (o_b h1301) ob0) (by kernel_rfl)
theorem zQ (k : Nat) (p0 : zd) (r : Int) (h : zRc k p0 = some r) : zB TE (ev TE) 16 [(.agg (za p0))] = some (zZl r) := by
 unfold zRc at h
 refine zj h (fun v1 h2 g1 => ?_)
 refine zj g1 (fun v3 h4 g2 => ?_)
 refine zj g2 (fun v5 h6 g3 => ?_)
 refine zj g3 (fun v7 h8 g4 => ?_)
 have y1 := fun (d : D) (P : List Prop) (V : Ovs) (C : Cuts) (q : All P) h => (zqc ([(16, 3, 2, .q (xi (p0.Far.1.length : Int))), (16, 9, 2, .q (xi (p0.Pick.1.length : Int))), (16, 14, 2, .q (xi (p0.Slips.1.length : Int)))] ++ V) C (ob (zQp k p0 _ h2) (ob (zr eI p0.Far.1) (ob (zx (id := 0) (r' := (.nor, zZf p0 v3)) (zyo (zNp k p0) k _ _ h4) rfl) (ob (zr zq p0.Pick.1) (ob (zx (id := 2) (r' := (.nor, zUf p0 v3 v5)) (zkb (zRp k p0 v3) k _ _ h6) rfl) (ob (zr zl p0.Slips.1) (ob (zx (id := 4) (r' := (.nor, zOf p0 v3 v5 v7)) (zkb (z5p k p0 v3 v5) k _ _ h8) rfl) q))))))) h : zB TE (ev TE) 16 [(.agg (za p0))] = some d)
 refine zn g4 (fun h9 g5 => ?_) (fun h9 g5 => ?_)
 ·exact zy (g := zZl) g5 (y1 _ _ [(16, 26, 1, .q (xb true))] [(16, 1000001, (.nor, zsc p0 v1)), (16, 0, (.nor, zZf p0 v3)), (16, 2, (.nor, zUf p0 v3 v5)), (16, 4, (.nor, zOf p0 v3 v5 v7))] (ob (o_b h9) ob0) (by kernel_rfl))
 ·exact zy (g := zZl) g5 (y1 _ _ [(16, 26, 1, .q (xb false))] [(16, 1000001, (.nor, zsc p0 v1)), (16, 0, (.nor, zZf p0 v3)), (16, 2, (.nor, zUf p0 v3 v5)), (16, 4, (.nor, zOf p0 v3 v5 v7))] (ob (o_b h9) ob0) (by kernel_rfl))
theorem zab (k : Nat) (p0 : zh) (p1 : Int) (r : Bool) (h : zsb k p0 p1 = some r) : zB TE (ev TE) 54 [(.agg (za p0.SlipFloor)), (di p1)] = some (z7i r) := by
 unfold zsb at h
 refine zj h (fun v1 h2 g1 => ?_)
 exact zy (g := z7i) g1 (zqc [(54, 1, 4, .q (xi (p0.SlipFloor.Slips.1.length : Int))), (54, 1, 6, .c (db v1))] [] (ob (zr zl p0.SlipFloor.Slips.1) (ob (zS k p1 0 (w64 ((p0.SlipFloor.Slips.1.length : Int) - 1)) _ h2) ob0)) (by kernel_rfl))
theorem zbj (k : Nat) (p0 : zh) (p1 : Int) (r : zt5) (h : zxe k p0 p1 = some r) : zB TE (ev TE) 69 [(.agg (za p0.SlipFloor)), (di p1)] = some (zAj r) := by
 unfold zxe at h
 exact zy (g := zAj) h (zqc [] [] ob0 (by kernel_rfl))
noncomputable def znC (p0 : zh) (p1 : Int) (v1 : zm) (s1_9 : Int) : TM := [(0, (.d (.agg (za p0.SlipFloor)))), (1, (xi p1)), (zsp 2), (zsp 4), (zsp 5), (14, (.d (dl zi v1.Lines.1 v1.Lines.2))), (15, (xi (v1.Lines.1.length : Int))), (16, (xi s1_9))]
noncomputable def zbn (p0 : zh) (p1 : Int) (v1 : zm) (s1_9 : Int) (s1_17 : zt6) : St := ⟨(znC p0 p1 v1 s1_9), ⟨[(zc 2 (za p0.SlipFloor)), (zc 4 (aI 12 (fun _ => 0))), (zc 5 (aI 12 s1_17))], []⟩, []⟩
noncomputable def ziC (p0 : zh) (p1 : Int) (v1 : zm) (r : (Int × (Nat → Int))) : TM := [(0, (.d (.agg (za p0.SlipFloor)))), (1, (xi p1)), (zsp 2), (zsp 4), (zsp 5), (14, (.d (dl zi v1.Lines.1 v1.Lines.2))), (15, (xi (v1.Lines.1.length : Int))), (16, (xi r.1)), (17, (xb false))]
noncomputable def zLe (p0 : zh) (p1 : Int) (v1 : zm) (r : (Int × (Nat → Int))) : St := ⟨(ziC p0 p1 v1 r), ⟨[(zc 2 (za p0.SlipFloor)), (zc 4 (aI 12 (fun _ => 0))), (zc 5 (aI 12 r.2))], []⟩, []⟩
noncomputable def zWm (p0 : zh) (p1 : Int) (v1 : zm) : (Int × (Nat → Int)) → Ex × St := fun r => ((.exit 0), zLe p0 p1 v1 r)
theorem zam (k : Nat) (p0 : zh) (p1 : Int) (v1 : zm) (s1_9 : Int) (s1_17 : zt6) (x : (Int × (Nat → Int)) ⊕ (Int × (Nat → Int))) (h : zad k p0 p1 v1 s1_9 s1_17 = some x) : zE TE 55 (blk TE 55 0) (fun s : (Int × (Nat → Int)) => zbn p0 p1 v1 s.1 s.2) (zWm p0 p1 v1) (s1_9, s1_17) x := by
 unfold zad at h
 refine zn h (fun h201 g1 => ?_) (fun h201 g1 => ?_)
 ·refine zj g1 (fun v202 h203 g2 => ?_)
  refine zO g2 (fun h204 g3 => ?_)
  exact zqn ((w64 (s1_9 + 1)), (upd s1_17 v202.Shelf.toNat v202.Many)) [] [(55, 3, 0, .q (xb true)), (55, 4, 0, .q (.d (.pin [(di v202.Shelf), (di v202.Many)]))), (55, 5, 4, .q (.ptr 0 5 (v202.Shelf.toNat))), (55, 5, 5, .st ((aI 12 (upd s1_17 v202.Shelf.toNat v202.Many)).map .d))] [] g3 (ob (o_b h201) (ob (o_ia (e := zi) 2 h203 rfl) (ob (zrf (m := 12) 0 5 0 1 v202.Shelf.toNat h204 (by omega)) (ob (zmp 12 s1_17 v202.Shelf.toNat v202.Many (by have := h204; simp only [Bool.and_eq_true, decide_eq_true_eq] at this; omega)) ob0)))) (by kernel_rfl)
 ·exact zqo [(55, 3, 0, .q (xb false))] [] g1 (ob (o_b h201) ob0) (by kernel_rfl)
theorem zWf (k : Nat) (p0 : zh) (p1 : Int) (r : zt6) (h : zoc k p0 p1 = some r) : zB TE (ev TE) 55 [(.agg (za p0.SlipFloor)), (di p1)] = some (zaj r) := by
 unfold zoc at h
 refine zj h (fun v1 h2 g1 => ?_)
 refine zj g1 (fun v3 h4 g2 => ?_)
 exact zy (g := zaj) g2 (zqc [(55, 2, 4, .q (.d (.pin [(dl zi v1.Lines.1 v1.Lines.2), (di v1.Until)]))), (55, 2, 7, .q (xi (v1.Lines.1.length : Int)))] [(55, 0, (.nor, zLe p0 p1 v1 v3))] (ob (o_ia (e := zl) 2 h2 rfl) (ob (zr zi v1.Lines.1) (ob (zx (id := 0) (r' := (.nor, zLe p0 p1 v1 v3)) (zkb (zam k p0 p1 v1) k _ _ h4) rfl) ob0))) (by kernel_rfl))
theorem zZe (k : Nat) (r : zt6) (h : zpf k = some r) : zB TE (ev TE) 57 [] = some (zBn r) := by
 unfold zpf at h
 exact zy (g := zBn) h (zqc [] [] ob0 (by kernel_rfl))
noncomputable def zuC (v1 : zt5) (s6_8 s6_9 : Int) : TM := [(0, (.yld 0)), (1, (.d (.pin [(dl eI v1.1.1 v1.1.2), (di v1.2.1), (di v1.2.2.1), (dl zq v1.2.2.2.1.1 v1.2.2.2.1.2), (di v1.2.2.2.2.1), (dl zl v1.2.2.2.2.2.1.1 v1.2.2.2.2.2.1.2)]))), (2, (.d (.pin [(di v1.2.2.2.2.2.2)]))), (4, (.ptr 1 4 0)), (14, (xb true)), (5, (.ptr 1 5 0)), (6, (xi s6_8)), (7, (xi s6_9))]
noncomputable def z4j (p0 : zh) (p1 : Int) (v1 : zt5) : TM := [(0, (.d (.agg (za p0.SlipFloor)))), (1, (xi p1)), (zsp 2), (4, (xi 0)), (zsp 5), (11, (.d (.fn 86 [] [(.pin [(dl eI v1.1.1 v1.1.2), (di v1.2.1), (di v1.2.2.1), (dl zq v1.2.2.2.1.1 v1.2.2.2.1.2), (di v1.2.2.2.2.1), (dl zl v1.2.2.2.2.2.1.1 v1.2.2.2.2.2.1.2)]), (.pin [(di v1.2.2.2.2.2.2)])])))]
noncomputable def zAn (p0 : zh) (p1 : Int) (v1 : zt5) (s1_14 s6_8 s6_9 : Int) (s6_10 s6_11 : zt6) : St := ⟨(zuC v1 s6_8 s6_9), ⟨[(zc 4 (aI 12 s6_10)), (zc 5 (aI 12 s6_11))], [[(zc 2 (za p0.SlipFloor)), (5, (.cells [(xi s1_14)]))]]⟩, [⟨(z4j p0 p1 v1), 0, rfP (blk TE 64 0), rfA (blk TE 64 0), rfB (blk TE 64 0), 64, .rdy⟩]⟩
noncomputable def zwC (v1 : zt5) (r : zt12) : TM := [(0, (.yld 0)), (1, (.d (.pin [(dl eI v1.1.1 v1.1.2), (di v1.2.1), (di v1.2.2.1), (dl zq v1.2.2.2.1.1 v1.2.2.2.1.2), (di v1.2.2.2.2.1), (dl zl v1.2.2.2.2.2.1.1 v1.2.2.2.2.2.1.2)]))), (2, (.d (.pin [(di v1.2.2.2.2.2.2)]))), (4, (.ptr 1 4 0)), (14, (xb true)), (5, (.ptr 1 5 0)), (6, (xi r.1)), (7, (xi r.2.1)), (24, (xb false))]
noncomputable def zgf (p0 : zh) (p1 : Int) (v1 : zt5) (s1_14 : Int) (r : zt12) : St := ⟨(zwC v1 r), ⟨[(zc 4 (aI 12 r.2.2.1)), (zc 5 (aI 12 r.2.2.2))], [[(zc 2 (za p0.SlipFloor)), (5, (.cells [(xi s1_14)]))]]⟩, [⟨(z4j p0 p1 v1), 0, rfP (blk TE 64 0), rfA (blk TE 64 0), rfB (blk TE 64 0), 64, .rdy⟩]⟩
noncomputable def zun (p0 : zh) (p1 : Int) (v1 : zt5) (s1_14 : Int) : (Int × Int × (Nat → Int) × (Nat → Int)) → Ex × St := fun r => ((.exit 2), zgf p0 p1 v1 s1_14 r)
theorem z2m (k : Nat) (p0 : zh) (p1 : Int) (v1 : zt5) (s1_14 s6_8 s6_9 : Int) (s6_10 s6_11 : zt6) (x : (Int × Int × (Nat → Int) × (Nat → Int)) ⊕ (Int × Int × (Nat → Int) × (Nat → Int))) (h : zuc k p0 p1 v1 s1_14 s6_8 s6_9 s6_10 s6_11 = some x) : zE TE 86 (blk TE 86 2) (fun s : (Int × Int × (Nat → Int) × (Nat → Int)) => zAn p0 p1 v1 s1_14 s.1 s.2.1 s.2.2.1 s.2.2.2) (zun p0 p1 v1 s1_14) (s6_8, s6_9, s6_10, s6_11) x := by
 unfold zuc at h
 refine zn h (fun h701 g1 => ?_) (fun h701 g1 => ?_)
 ·refine zO g1 (fun h702 g2 => ?_)
  exact zqn ((w64 (s6_8 - (if (s6_10 s6_9.toNat) < s6_8 then (s6_10 s6_9.toNat) else s6_8))), (w64 (s6_9 - 1)), (upd s6_10 s6_9.toNat (w64 ((s6_10 s6_9.toNat) - (if (s6_10 s6_9.toNat) < s6_8 then (s6_10 s6_9.toNat) else s6_8)))), (upd s6_11 s6_9.toNat (if (s6_10 s6_9.toNat) < s6_8 then (s6_10 s6_9.toNat) else s6_8))) [] [(86, 5, 1, .q (xb true)), (86, 7, 2, .q (.ptr 1 4 (s6_9.toNat))), (86, 7, 3, .q (xi (s6_10 s6_9.toNat))), (86, 8, 4, .q (.ptr 1 4 (s6_9.toNat))), (86, 8, 5, .q (xi (s6_10 s6_9.toNat))), (86, 8, 11, .q (.ptr 1 5 (s6_9.toNat))), (86, 8, 12, .st ((aI 12 (upd s6_11 s6_9.toNat (if (s6_10 s6_9.toNat) < s6_8 then (s6_10 s6_9.toNat) else s6_8))).map .d)), (86, 8, 13, .q (.ptr 1 4 (s6_9.toNat))), (86, 8, 14, .st ((aI 12 (upd s6_10 s6_9.toNat (w64 ((s6_10 s6_9.toNat) - (if (s6_10 s6_9.toNat) < s6_8 then (s6_10 s6_9.toNat) else s6_8))))).map .d))] [] g2 (ob (o_b h701) (ob (zrf (m := 12) 1 4 0 1 s6_9.toNat h702 (by omega)) (ob (z8n 12 s6_10 s6_9.toNat (by have := h702; simp only [Bool.and_eq_true, decide_eq_true_eq] at this; omega)) (ob (zrf (m := 12) 1 4 0 1 s6_9.toNat h702 (by omega)) (ob (z8n 12 s6_10 s6_9.toNat (by have := h702; simp only [Bool.and_eq_true, decide_eq_true_eq] at this; omega)) (ob (zrf (m := 12) 1 5 0 1 s6_9.toNat h702 (by omega)) (ob (zmp 12 s6_11 s6_9.toNat (if (s6_10 s6_9.toNat) < s6_8 then (s6_10 s6_9.toNat) else s6_8) (by have := h702; simp only [Bool.and_eq_true, decide_eq_true_eq] at this; omega)) (ob (zrf (m := 12) 1 4 0 1 s6_9.toNat h702 (by omega)) (ob (zmp 12 s6_10 s6_9.toNat (w64 ((s6_10 s6_9.toNat) - (if (s6_10 s6_9.toNat) < s6_8 then (s6_10 s6_9.toNat) else s6_8))) (by have := h702; simp only [Bool.and_eq_true, decide_eq_true_eq] at this; omega)) ob0))))))))) (by kernel_rfl)
 ·exact zqo [(86, 5, 1, .q (xb false))] [] g1 (ob (o_b h701) ob0) (by kernel_rfl)
noncomputable def zHB (p0 : zh) (p1 : Int) (v1 : zt5) (v604 : zt12) (r : zt1) (s7_18 : Int) : TM := z4j p0 p1 v1 ++ [(12, (.d (.agg (aI 12 v604.2.2.2)))), (6, (.ptr 2 6 0)), (7, (xi r.1)), (16, (xi (p0.SlipFloor.Far.1.length : Int))), (17, (xi s7_18)), (18, (xb true)), (8, (xi s7_18)), (23, (xb r.2))]
noncomputable def zVd (p0 : zh) (p1 : Int) (v1 : zt5) (s1_14 : Int) (v604 : zt12) (s7_16 s7_18 : Int) (cb : Bool) (r : zt1) : St := ⟨(zHB p0 p1 v1 v604 r s7_18), ⟨[(zc 6 (aI 12 v604.2.2.2))], [[(zc 2 (za p0.SlipFloor)), (5, (.cells [(xi s1_14)]))], [(zc 4 (aI 12 v604.2.2.1)), (zc 5 (aI 12 v604.2.2.2))]]⟩, [⟨(z4j p0 p1 v1), 0, rfP (blk TE 64 0), rfA (blk TE 64 0), rfB (blk TE 64 0), 64, .busy⟩]⟩
noncomputable def zEB (p0 : zh) (p1 : Int) (v1 : zt5) (v604 : zt12) (s7_16 s7_18 : Int) (cb : Bool) : TM := z4j p0 p1 v1 ++ [(12, (.d (.agg (aI 12 v604.2.2.2)))), (6, (.ptr 2 6 0)), (7, (xi s7_16)), (16, (xi (p0.SlipFloor.Far.1.length : Int))), (17, (xi s7_18)), (18, (xb true)), (8, (xi s7_18)), (23, (xb cb))]
theorem zUm (k : Nat) (p0 : zh) (p1 : Int) (v1 : zt5) (s1_14 : Int) (v604 : zt12) (s7_16 s7_18 : Int) (cb : Bool) (r : zt1) (h : zCe k p0 p1 v1 s1_14 v604 s7_16 s7_18 cb = some r) : ev TE 64 (cnd TE 64 23) ⟨(zEB p0 p1 v1 v604 s7_16 s7_18 cb), ⟨[(zc 6 (aI 12 v604.2.2.2))], [[(zc 2 (za p0.SlipFloor)), (5, (.cells [(xi s1_14)]))], [(zc 4 (aI 12 v604.2.2.1)), (zc 5 (aI 12 v604.2.2.2))]]⟩, [⟨(z4j p0 p1 v1), 0, rfP (blk TE 64 0), rfA (blk TE 64 0), rfB (blk TE 64 0), 64, .busy⟩]⟩ = some (.nor, zVd p0 p1 v1 s1_14 v604 s7_16 s7_18 cb r) := by
 unfold zCe at h
 refine zn h (fun h1001 g1 => ?_) (fun h1001 g1 => ?_)
 ·subst h1001
  refine zj g1 (fun v1002 h1003 g2 => ?_)
  exact zA (g := fun r => (Ex.nor, zVd p0 p1 v1 s1_14 v604 s7_16 s7_18 true r)) g2 (zqe [(64, 9, 4, .q (.d (.pin [(di v1002)])))] [] (ob (o_ia (e := eI) 1 h1003 rfl) ob0) (by kernel_rfl))
 ·subst h1001
  exact zA (g := fun r => (Ex.nor, zVd p0 p1 v1 s1_14 v604 s7_16 s7_18 false r)) g1 (zqe [] [] ob0 (by kernel_rfl))
noncomputable def zxB (p0 : zh) (p1 : Int) (v1 : zt5) (v604 : zt12) (s7_16 s7_18 : Int) : TM := z4j p0 p1 v1 ++ [(12, (.d (.agg (aI 12 v604.2.2.2)))), (6, (.ptr 2 6 0)), (7, (xi s7_16)), (16, (xi (p0.SlipFloor.Far.1.length : Int))), (17, (xi s7_18))]
noncomputable def zsn (p0 : zh) (p1 : Int) (v1 : zt5) (s1_14 : Int) (v604 : zt12) (s7_16 s7_18 : Int) : St := ⟨(zxB p0 p1 v1 v604 s7_16 s7_18), ⟨[(zc 6 (aI 12 v604.2.2.2))], [[(zc 2 (za p0.SlipFloor)), (5, (.cells [(xi s1_14)]))], [(zc 4 (aI 12 v604.2.2.1)), (zc 5 (aI 12 v604.2.2.2))]]⟩, [⟨(z4j p0 p1 v1), 0, rfP (blk TE 64 0), rfA (blk TE 64 0), rfB (blk TE 64 0), 64, .busy⟩]⟩
noncomputable def zeC (p0 : zh) (p1 : Int) (v1 : zt5) (v604 : zt12) (r : zt7) : TM := z4j p0 p1 v1 ++ [(12, (.d (.agg (aI 12 v604.2.2.2)))), (6, (.ptr 2 6 0)), (7, (xi r.1)), (16, (xi (p0.SlipFloor.Far.1.length : Int))), (17, (xi r.2)), (18, (xb false))]
noncomputable def zhf (p0 : zh) (p1 : Int) (v1 : zt5) (s1_14 : Int) (v604 : zt12) (r : zt7) : St := ⟨(zeC p0 p1 v1 v604 r), ⟨[(zc 6 (aI 12 v604.2.2.2))], [[(zc 2 (za p0.SlipFloor)), (5, (.cells [(xi s1_14)]))], [(zc 4 (aI 12 v604.2.2.1)), (zc 5 (aI 12 v604.2.2.2))]]⟩, [⟨(z4j p0 p1 v1), 0, rfP (blk TE 64 0), rfA (blk TE 64 0), rfB (blk TE 64 0), 64, .busy⟩]⟩
noncomputable def zEn (p0 : zh) (p1 : Int) (v1 : zt5) (s1_14 : Int) (v604 : zt12) : (Int × Int) → Ex × St := fun r => ((.exit 2), zhf p0 p1 v1 s1_14 v604 r)
theorem zrn (k : Nat) (p0 : zh) (p1 : Int) (v1 : zt5) (s1_14 : Int) (v604 : zt12) (s7_16 s7_18 : Int) (x : (Int × Int) ⊕ (Int × Int)) (h : zAc k p0 p1 v1 s1_14 v604 s7_16 s7_18 = some x) : zE TE 64 (blk TE 64 2) (fun s : (Int × Int) => zsn p0 p1 v1 s1_14 v604 s.1 s.2) (zEn p0 p1 v1 s1_14 v604) (s7_16, s7_18) x := by
 unfold zAc at h
 refine zn h (fun h901 g1 => ?_) (fun h901 g1 => ?_)
 ·refine zO g1 (fun h902 g2 => ?_)
  refine zj g2 (fun v903 h904 g3 => ?_)
  exact zqn (v903.1, (w64 (s7_18 + 1))) [] [(64, 6, 0, .q (xb true)), (64, 8, 1, .q (.ptr 2 6 (s7_18.toNat))), (64, 8, 2, .q (xi (v604.2.2.2 s7_18.toNat)))] [(64, 2000023, (.nor, zVd p0 p1 v1 s1_14 v604 s7_16 s7_18 (decide ((v604.2.2.2 s7_18.toNat) > 0)) v903))] g3 (ob (o_b h901) (ob (zrf (m := 12) 2 6 0 1 s7_18.toNat h902 (by omega)) (ob (z8n 12 v604.2.2.2 s7_18.toNat (by have := h902; simp only [Bool.and_eq_true, decide_eq_true_eq] at this; omega)) (ob (zUm k p0 p1 v1 s1_14 v604 s7_16 s7_18 (decide ((v604.2.2.2 s7_18.toNat) > 0)) _ h904) ob0)))) (by kernel_rfl)
 ·exact zqo [(64, 6, 0, .q (xb false))] [] g1 (ob (o_b h901) ob0) (by kernel_rfl)
noncomputable def zCz (v1 : zt5) : TM := [(0, (.yld 0)), (1, (.d (.pin [(dl eI v1.1.1 v1.1.2), (di v1.2.1), (di v1.2.2.1), (dl zq v1.2.2.2.1.1 v1.2.2.2.1.2), (di v1.2.2.2.2.1), (dl zl v1.2.2.2.2.2.1.1 v1.2.2.2.2.2.1.2)]))), (2, (.d (.pin [(di v1.2.2.2.2.2.2)]))), (4, (.ptr 1 4 0))]
noncomputable def zJn (p0 : zh) (p1 : Int) (v1 : zt5) (s1_7 : zt6) (s1_14 : Int) : St := ⟨(zCz v1), ⟨[(zc 4 (aI 12 s1_7))], [[(zc 2 (za p0.SlipFloor)), (5, (.cells [(xi s1_14)]))]]⟩, [⟨(z4j p0 p1 v1), 0, rfP (blk TE 64 0), rfA (blk TE 64 0), rfB (blk TE 64 0), 64, .rdy⟩]⟩
noncomputable def zbf (p0 : zh) (p1 : Int) (v1 : zt5) (r : ((Nat → Int) × Int)) : St := ⟨(zCz v1 ++ [(14, (xb false))]), ⟨[(zc 4 (aI 12 r.1))], [[(zc 2 (za p0.SlipFloor)), (5, (.cells [(xi r.2)]))]]⟩, [⟨(z4j p0 p1 v1), 0, rfP (blk TE 64 0), rfA (blk TE 64 0), rfB (blk TE 64 0), 64, .rdy⟩]⟩
noncomputable def zwn (p0 : zh) (p1 : Int) (v1 : zt5) : ((Nat → Int) × Int) → Ex × St := fun r => ((.exit 0), zbf p0 p1 v1 r)
theorem zan (k : Nat) (p0 : zh) (p1 : Int) (v1 : zt5) (s1_7 : zt6) (s1_14 : Int) (x : ((Nat → Int) × Int) ⊕ ((Nat → Int) × Int)) (h : zDe k p0 p1 v1 s1_7 s1_14 = some x) : zE TE 86 (blk TE 86 0) (fun s : ((Nat → Int) × Int) => zJn p0 p1 v1 s.1 s.2) (zwn p0 p1 v1) (s1_7, s1_14) x := by
 unfold zDe at h
 refine zj h (fun v601 h602 g1 => ?_)
 refine zn g1 (fun h603 g2 => ?_) (fun h603 g2 => ?_)
 ·refine zj g2 (fun v604 h605 g3 => ?_)
  refine zj g3 (fun v606 h607 g4 => ?_)
  exact zqn (v604.2.2.1, (w64 (s1_14 + (w64 (2 * v606.1))))) [] [(86, 1, 1, .c (.agg (aI 12 v601))), (86, 1, 2, .q (xb true)), (86, 4, 3, .q (xi (v1.1.1.length : Int))), (64, 5, 3, .q (xi (p0.SlipFloor.Far.1.length : Int)))] [(86, 2, (.nor, zgf p0 p1 v1 s1_14 v604)), (64, 2, (.nor, zhf p0 p1 v1 s1_14 v604 v606))] g4 (ob (zZe k _ h602) (ob (o_b h603) (ob (zr eI v1.1.1) (ob (zx (id := 2) (r' := (.nor, zgf p0 p1 v1 s1_14 v604)) (zdq (z2m k p0 p1 v1 s1_14) k _ _ h605) rfl) (ob (zr eI p0.SlipFloor.Far.1) (ob (zx (id := 2) (r' := (.nor, zhf p0 p1 v1 s1_14 v604 v606)) (zkb (zrn k p0 p1 v1 s1_14 v604) k _ _ h607) rfl) ob0)))))) (by kernel_rfl)
 ·exact zqo [(86, 1, 1, .c (.agg (aI 12 v601))), (86, 1, 2, .q (xb false))] [] g2 (ob (zZe k _ h602) (ob (o_b h603) ob0)) (by kernel_rfl)
theorem zog (k : Nat) (p0 : zh) (p1 r : Int) (h : zTc k p0 p1 = some r) : zB TE (ev TE) 64 [(.agg (za p0.SlipFloor)), (di p1)] = some (zEj r) := by
 unfold zTc at h
 refine zj h (fun v1 h2 g1 => ?_)
 refine zj g1 (fun v3 h4 g2 => ?_)
 refine zj g2 (fun v5 h6 g3 => ?_)
 exact zy (g := zEj) g3 (zqc [(64, 2, 2, .c (.fn 86 [] [(.pin [(dl eI v1.1.1 v1.1.2), (di v1.2.1), (di v1.2.2.1), (dl zq v1.2.2.2.1.1 v1.2.2.2.1.2), (di v1.2.2.2.2.1), (dl zl v1.2.2.2.2.2.1.1 v1.2.2.2.2.2.1.2)]), (.pin [(di v1.2.2.2.2.2.2)])])), (86, 0, 2, .c (.agg (aI 12 v3)))] [(86, 0, (.nor, zbf p0 p1 v1 v5))] (ob (zbj k p0 p1 _ h2) (ob (zWf k (⟨(⟨v1.1, (⟨v1.2.1, v1.2.2.1⟩ : zp), v1.2.2.2.1, v1.2.2.2.2.1, v1.2.2.2.2.2.1⟩ : zd)⟩ : zh) v1.2.2.2.2.2.2 _ h4) (ob (zx (id := 0) (r' := (.nor, zbf p0 p1 v1 v5)) (zkb (zan k p0 p1 v1) k _ _ h6) rfl) ob0))) (by kernel_rfl))
theorem z1h (k : Nat) (p0 : zp) (r : Int) (h : zZc k p0 = some r) : zB TE (ev TE) 119 [(.agg [(di p0.Low), (di p0.High)])] = some (zsi r) := by
 unfold zZc at h
 exact zy (g := zsi) h (zqc [] [] ob0 (by kernel_rfl))
noncomputable def zpB (p0 : zh) (p1 s1_8 : Int) (v5 : zm) (s1_11 : Int) : TM := [(0, (.d (.agg (za p0.SlipFloor)))), (1, (xi p1)), (2, (.d (.agg [(.fn 119 [] [])]))), (zsp 3), (zsp 5), (6, (xi 0)), (7, (xi s1_8)), (26, (.d (dl zi v5.Lines.1 v5.Lines.2))), (27, (xi (v5.Lines.1.length : Int))), (28, (xi s1_11))]
noncomputable def zvn (p0 : zh) (p1 : Int) (v5 : zm) (s1_8 s1_11 : Int) : St := ⟨(zpB p0 p1 s1_8 v5 s1_11), ⟨[(zc 3 (za p0.SlipFloor)), (5, (.cells [(.d (.fn 119 [] []))]))], []⟩, []⟩
noncomputable def zVB (p0 : zh) (p1 : Int) (r : zt7) (v5 : zm) : TM := [(0, (.d (.agg (za p0.SlipFloor)))), (1, (xi p1)), (2, (.d (.agg [(.fn 119 [] [])]))), (zsp 3), (zsp 5), (6, (xi 0)), (7, (xi r.1)), (26, (.d (dl zi v5.Lines.1 v5.Lines.2))), (27, (xi (v5.Lines.1.length : Int))), (28, (xi r.2)), (29, (xb false))]
noncomputable def zdf (p0 : zh) (p1 : Int) (v5 : zm) (r : zt7) : St := ⟨(zVB p0 p1 r v5), ⟨[(zc 3 (za p0.SlipFloor)), (5, (.cells [(.d (.fn 119 [] []))]))], []⟩, []⟩
noncomputable def zFn (p0 : zh) (p1 : Int) (v5 : zm) : (Int × Int) → Ex × St := fun r => ((.exit 0), zdf p0 p1 v5 r)
theorem zgn (k : Nat) (p0 : zh) (p1 : Int) (v5 : zm) (s1_8 s1_11 : Int) (x : (Int × Int) ⊕ (Int × Int)) (h : zwd k p0 p1 v5 s1_8 s1_11 = some x) : zE TE 118 (blk TE 118 0) (fun s : (Int × Int) => zvn p0 p1 v5 s.1 s.2) (zFn p0 p1 v5) (s1_8, s1_11) x := by
 unfold zwd at h
 refine zn h (fun h201 g1 => ?_) (fun h201 g1 => ?_)
 ·refine zj g1 (fun v202 h203 g2 => ?_)
  refine zj g2 (fun v204 h205 g3 => ?_)
  refine zj g3 (fun v206 h207 g4 => ?_)
  exact zqn ((w64 (s1_8 + (w64 (v202.Many * v206)))), (w64 (s1_11 + 1))) [] [(118, 3, 0, .q (xb true)), (118, 4, 0, .q (.d (.pin [(di v202.Shelf), (di v202.Many)]))), (118, 5, 10, .q (.d (.pin [(di v204.Low), (di v204.High)]))), (118, 5, 12, .c (di v206))] [] g4 (ob (o_b h201) (ob (o_ia (e := zi) 2 h203 rfl) (ob (o_ia (e := zq) 2 h205 rfl) (ob (z1h k v204 _ h207) ob0)))) (by kernel_rfl)
 ·exact zqo [(118, 3, 0, .q (xb false))] [] g1 (ob (o_b h201) ob0) (by kernel_rfl)
theorem zFo (k : Nat) (p0 : zh) (p1 r : Int) (h : z0f k p0 p1 = some r) : zB TE (ev TE) 118 [(.agg (za p0.SlipFloor)), (di p1), (.agg [(.fn 119 [] [])])] = some (zUj r) := by
 unfold z0f at h
 refine zj h (fun v1 h2 g1 => ?_)
 refine zj g1 (fun v3 h4 g2 => ?_)
 refine zj g2 (fun v5 h6 g3 => ?_)
 refine zj g3 (fun v7 h8 g4 => ?_)
 exact zy (g := zUj) g4 (zqc [(118, 1, 2, .c (di v1)), (118, 1, 8, .c (di v3)), (118, 2, 4, .q (.d (.pin [(dl zi v5.Lines.1 v5.Lines.2), (di v5.Until)]))), (118, 2, 7, .q (xi (v5.Lines.1.length : Int)))] [(118, 0, (.nor, zdf p0 p1 v5 v7))] (ob (zog k p0 p1 _ h2) (ob (z1h k p0.SlipFloor.Step _ h4) (ob (o_ia (e := zl) 2 h6 rfl) (ob (zr zi v5.Lines.1) (ob (zx (id := 0) (r' := (.nor, zdf p0 p1 v5 v7)) (zkb (zgn k p0 p1 v5) k _ _ h8) rfl) ob0))))) (by kernel_rfl))
theorem zdj (k : Nat) (p0 : zh) (p1 r : Int) (h : zCd k p0 p1 = some r) : zB TE (ev TE) 116 [(.agg (za p0.SlipFloor)), (di p1)] = some (zRj r) := by
 unfold zCd at h
 refine zj h (fun v1 h2 g1 => ?_)
 exact zy (g := zRj) g1 (zqc [(116, 1, 3, .c (di v1))] [] (ob (zFo k p0 p1 _ h2) ob0) (by kernel_rfl))
theorem zoi (k : Nat) (p0 : zp) (r : Int) (h : zjd k p0 = some r) : zB TE (ev TE) 120 [(.agg [(di p0.Low), (di p0.High)])] = some (z8i r) := by
 unfold zjd at h
 exact zy (g := z8i) h (zqc [] [] ob0 (by kernel_rfl))
noncomputable def z5B (p0 : zh) (p1 s1_8 : Int) (v5 : zm) (s1_11 : Int) : TM := [(0, (.d (.agg (za p0.SlipFloor)))), (1, (xi p1)), (2, (.d (.agg [(.fn 120 [] [])]))), (zsp 3), (zsp 5), (6, (xi 0)), (7, (xi s1_8)), (26, (.d (dl zi v5.Lines.1 v5.Lines.2))), (27, (xi (v5.Lines.1.length : Int))), (28, (xi s1_11))]
noncomputable def zYk (p0 : zh) (p1 : Int) (v5 : zm) (s1_8 s1_11 : Int) : St := ⟨(z5B p0 p1 s1_8 v5 s1_11), ⟨[(zc 3 (za p0.SlipFloor)), (5, (.cells [(.d (.fn 120 [] []))]))], []⟩, []⟩
noncomputable def zFB (p0 : zh) (p1 : Int) (r : zt7) (v5 : zm) : TM := [(0, (.d (.agg (za p0.SlipFloor)))), (1, (xi p1)), (2, (.d (.agg [(.fn 120 [] [])]))), (zsp 3), (zsp 5), (6, (xi 0)), (7, (xi r.1)), (26, (.d (dl zi v5.Lines.1 v5.Lines.2))), (27, (xi (v5.Lines.1.length : Int))), (28, (xi r.2)), (29, (xb false))]
noncomputable def z1d (p0 : zh) (p1 : Int) (v5 : zm) (r : zt7) : St := ⟨(zFB p0 p1 r v5), ⟨[(zc 3 (za p0.SlipFloor)), (5, (.cells [(.d (.fn 120 [] []))]))], []⟩, []⟩
noncomputable def z6k (p0 : zh) (p1 : Int) (v5 : zm) : (Int × Int) → Ex × St := fun r => ((.exit 0), z1d p0 p1 v5 r)
theorem zNk (k : Nat) (p0 : zh) (p1 : Int) (v5 : zm) (s1_8 s1_11 : Int) (x : (Int × Int) ⊕ (Int × Int)) (h : zFc k p0 p1 v5 s1_8 s1_11 = some x) : zE TE 118 (blk TE 118 0) (fun s : (Int × Int) => zYk p0 p1 v5 s.1 s.2) (z6k p0 p1 v5) (s1_8, s1_11) x := by
 unfold zFc at h
 refine zn h (fun h201 g1 => ?_) (fun h201 g1 => ?_)
 ·refine zj g1 (fun v202 h203 g2 => ?_)
  refine zj g2 (fun v204 h205 g3 => ?_)
  refine zj g3 (fun v206 h207 g4 => ?_)
  exact zqn ((w64 (s1_8 + (w64 (v202.Many * v206)))), (w64 (s1_11 + 1))) [] [(118, 3, 0, .q (xb true)), (118, 4, 0, .q (.d (.pin [(di v202.Shelf), (di v202.Many)]))), (118, 5, 10, .q (.d (.pin [(di v204.Low), (di v204.High)]))), (118, 5, 12, .c (di v206))] [] g4 (ob (o_b h201) (ob (o_ia (e := zi) 2 h203 rfl) (ob (o_ia (e := zq) 2 h205 rfl) (ob (zoi k v204 _ h207) ob0)))) (by kernel_rfl)
 ·exact zqo [(118, 3, 0, .q (xb false))] [] g1 (ob (o_b h201) ob0) (by kernel_rfl)
theorem znn (k : Nat) (p0 : zh) (p1 r : Int) (h : zBe k p0 p1 = some r) : zB TE (ev TE) 118 [(.agg (za p0.SlipFloor)), (di p1), (.agg [(.fn 120 [] [])])] = some (z9h r) := by
 unfold zBe at h
 refine zj h (fun v1 h2 g1 => ?_)
 refine zj g1 (fun v3 h4 g2 => ?_)
 refine zj g2 (fun v5 h6 g3 => ?_)
 refine zj g3 (fun v7 h8 g4 => ?_)
 exact zy (g := z9h) g4 (zqc [(118, 1, 2, .c (di v1)), (118, 1, 8, .c (di v3)), (118, 2, 4, .q (.d (.pin [(dl zi v5.Lines.1 v5.Lines.2), (di v5.Until)]))), (118, 2, 7, .q (xi (v5.Lines.1.length : Int)))] [(118, 0, (.nor, z1d p0 p1 v5 v7))] (ob (zog k p0 p1 _ h2) (ob (zoi k p0.SlipFloor.Step _ h4) (ob (o_ia (e := zl) 2 h6 rfl) (ob (zr zi v5.Lines.1) (ob (zx (id := 0) (r' := (.nor, z1d p0 p1 v5 v7)) (zkb (zNk k p0 p1 v5) k _ _ h8) rfl) ob0))))) (by kernel_rfl))
theorem z3e (k : Nat) (p0 : zh) (p1 r : Int) (h : zpc k p0 p1 = some r) : zB TE (ev TE) 117 [(.agg (za p0.SlipFloor)), (di p1)] = some (zok r) := by
 unfold zpc at h
 refine zj h (fun v1 h2 g1 => ?_)
 exact zy (g := zok) g1 (zqc [(117, 1, 3, .c (di v1))] [] (ob (znn k p0 p1 _ h2) ob0) (by kernel_rfl))
theorem zUs (k : Nat) (p0 : zd) (p1 : Int) (r : (zp × Int)) (h : z1n k p0 p1 = some r) : zB TE (ev TE) 20 [(.agg (za p0)), (di p1)] = some (zli r) := by
 unfold z1n at h
 refine zj h (fun v1 h2 g1 => ?_)
 refine zn g1 (fun h3 g2 => ?_) (fun h3 g2 => ?_)
 ·exact zy (g := zli) g2 (zqc [(52, 1, 1, .c (di v1)), (52, 2, 1, .q (xb true)), (20, 2, 1, .q (xb true))] [] (ob (zQ k p0 _ h2) (ob (o_b h3) (ob (o_b h3) ob0))) (by kernel_rfl))
 ·refine zj g2 (fun v4 h5 g3 => ?_)
  refine zn g3 (fun h6 g4 => ?_) (fun h6 g4 => ?_)
  ·exact zy (g := zli) g4 (zqc [(52, 1, 1, .c (di v1)), (52, 2, 1, .q (xb false)), (66, 1, 2, .c (db v4)), (52, 4, 4, .q (xb true))] [] (ob (zQ k p0 _ h2) (ob (o_b h3) (ob (zab k (⟨p0⟩ : zh) p1 _ h5) (ob (o_b h6) ob0)))) (by kernel_rfl))
  ·refine zj g4 (fun v7 h8 g5 => ?_)
   refine zj g5 (fun v9 h10 g6 => ?_)
   exact zy (g := zli) g6 (zqc [(52, 1, 1, .c (di v1)), (52, 2, 1, .q (xb false)), (66, 1, 2, .c (db v4)), (52, 4, 4, .q (xb false)), (20, 4, 4, .c (di v7)), (20, 4, 9, .c (di v9))] [] (ob (zQ k p0 _ h2) (ob (o_b h3) (ob (zab k (⟨p0⟩ : zh) p1 _ h5) (ob (o_b h6) (ob (zdj k (⟨p0⟩ : zh) p1 _ h8) (ob (z3e k (⟨p0⟩ : zh) p1 _ h10) ob0)))))) (by kernel_rfl))
noncomputable def zZB (p0 : zh) (p1 : (SL (SL Int))) (s5_9 s1_12 : Int) (v502 : (SL Int)) (s5_17 v702 : Int) (r : Bool) : TM := [(0, (.d (.agg (za p0.SlipFloor)))), (1, (.d (dl (eL eI) p1.1 p1.2))), (zsp 2), (4, (xb false)), (13, (xb false)), (5, (xi s5_9)), (14, (.d (dl (eL eI) p1.1 p1.2))), (15, (xi (p1.1.length : Int))), (16, (xi s1_12)), (17, (xb true)), (7, (.d (dl eI v502.1 v502.2))), (20, (.d (dl eI v502.1 v502.2))), (21, (xi (v502.1.length : Int))), (22, (xi s5_17)), (23, (xb true)), (9, (xi v702)), (36, (xb r))]
noncomputable def z8b (p0 : zh) (p1 : (SL (SL Int))) (s1_12 : Int) (v502 : (SL Int)) (s5_9 s5_17 v702 : Int) (r : Bool) : St := ⟨(zZB p0 p1 s5_9 s1_12 v502 s5_17 v702 r), ⟨[(zc 2 (za p0.SlipFloor))], []⟩, []⟩
noncomputable def zuB (p0 : zh) (p1 : (SL (SL Int))) (s5_9 s1_12 : Int) (v502 : (SL Int)) (s5_17 v702 : Int) : TM := [(0, (.d (.agg (za p0.SlipFloor)))), (1, (.d (dl (eL eI) p1.1 p1.2))), (zsp 2), (4, (xb false)), (13, (xb false)), (5, (xi s5_9)), (14, (.d (dl (eL eI) p1.1 p1.2))), (15, (xi (p1.1.length : Int))), (16, (xi s1_12)), (17, (xb true)), (7, (.d (dl eI v502.1 v502.2))), (20, (.d (dl eI v502.1 v502.2))), (21, (xi (v502.1.length : Int))), (22, (xi s5_17)), (23, (xb true)), (9, (xi v702))]
theorem zvg (k : Nat) (p0 : zh) (p1 : (SL (SL Int))) (s1_12 : Int) (v502 : (SL Int)) (s5_9 s5_17 v702 : Int) (r : Bool) (h : zKd k p0 p1 s1_12 v502 s5_9 s5_17 v702 = some r) : ev TE 71 (rgn TE 71 10) ⟨(zuB p0 p1 s5_9 s1_12 v502 s5_17 v702), ⟨[(zc 2 (za p0.SlipFloor))], []⟩, []⟩ = some (.nor, z8b p0 p1 s1_12 v502 s5_9 s5_17 v702 r) := by
 unfold zKd at h
 refine zj h (fun v801 h802 g1 => ?_)
 refine zn g1 (fun h803 g2 => ?_) (fun h803 g2 => ?_)
 ·exact zA (g := fun r => (Ex.nor, z8b p0 p1 s1_12 v502 s5_9 s5_17 v702 r)) g2 (zqe [(71, 10, 2, .c (db v801)), (71, 10, 4, .q (xb true))] [] (ob (zab k p0 v702 _ h802) (ob (o_b h803) ob0)) (by kernel_rfl))
 ·refine zn g2 (fun h804 g3 => ?_) (fun h804 g3 => ?_)
  ·cases g3
  ·exact zA (g := fun r => (Ex.nor, z8b p0 p1 s1_12 v502 s5_9 s5_17 v702 r)) g3 (zqe [(71, 10, 2, .c (db v801)), (71, 10, 4, .q (xb false)), (71, 10, 7, .q (xi (zSi s5_9 v702)))] [] (ob (zab k p0 v702 _ h802) (ob (o_b h803) (ob (zct (x := s5_9) h804) ob0))) (by kernel_rfl))
noncomputable def zOB (p0 : zh) (p1 : (SL (SL Int))) (s5_9 s1_12 : Int) (v502 : (SL Int)) (s5_17 : Int) : TM := [(0, (.d (.agg (za p0.SlipFloor)))), (1, (.d (dl (eL eI) p1.1 p1.2))), (zsp 2), (4, (xb false)), (13, (xb false)), (5, (xi s5_9)), (14, (.d (dl (eL eI) p1.1 p1.2))), (15, (xi (p1.1.length : Int))), (16, (xi s1_12)), (17, (xb true)), (7, (.d (dl eI v502.1 v502.2))), (20, (.d (dl eI v502.1 v502.2))), (21, (xi (v502.1.length : Int))), (22, (xi s5_17))]
noncomputable def zPl (p0 : zh) (p1 : (SL (SL Int))) (s1_12 : Int) (v502 : (SL Int)) (s5_9 s5_17 : Int) : St := ⟨(zOB p0 p1 s5_9 s1_12 v502 s5_17), ⟨[(zc 2 (za p0.SlipFloor))], []⟩, []⟩
noncomputable def z0B (p0 : zh) (p1 : (SL (SL Int))) (r : (Int × Int × Int)) (s1_12 : Int) (v502 : (SL Int)) : TM := [(0, (.d (.agg (za p0.SlipFloor)))), (1, (.d (dl (eL eI) p1.1 p1.2))), (zsp 2), (4, (xb false)), (13, (xb false)), (5, (xi r.1)), (14, (.d (dl (eL eI) p1.1 p1.2))), (15, (xi (p1.1.length : Int))), (16, (xi s1_12)), (17, (xb true)), (7, (.d (dl eI v502.1 v502.2))), (20, (.d (dl eI v502.1 v502.2))), (21, (xi (v502.1.length : Int))), (22, (xi r.2.1)), (23, (xb true)), (9, (xi r.2.2)), (36, (xb true))]
noncomputable def zbe (p0 : zh) (p1 : (SL (SL Int))) (s1_12 : Int) (v502 : (SL Int)) (r : (Int × Int × Int)) : St := ⟨(z0B p0 p1 r s1_12 v502), ⟨[(zc 2 (za p0.SlipFloor))], []⟩, []⟩
noncomputable def zPB (p0 : zh) (p1 : (SL (SL Int))) (r : zt7) (s1_12 : Int) (v502 : (SL Int)) : TM := [(0, (.d (.agg (za p0.SlipFloor)))), (1, (.d (dl (eL eI) p1.1 p1.2))), (zsp 2), (4, (xb false)), (13, (xb false)), (5, (xi r.1)), (14, (.d (dl (eL eI) p1.1 p1.2))), (15, (xi (p1.1.length : Int))), (16, (xi s1_12)), (17, (xb true)), (7, (.d (dl eI v502.1 v502.2))), (20, (.d (dl eI v502.1 v502.2))), (21, (xi (v502.1.length : Int))), (22, (xi r.2)), (23, (xb false))]
noncomputable def zae (p0 : zh) (p1 : (SL (SL Int))) (s1_12 : Int) (v502 : (SL Int)) (r : zt7) : St := ⟨(zPB p0 p1 r s1_12 v502), ⟨[(zc 2 (za p0.SlipFloor))], []⟩, []⟩
noncomputable def z8k (p0 : zh) (p1 : (SL (SL Int))) (s1_12 : Int) (v502 : (SL Int)) : ((Int × Int × Int) ⊕ (Int × Int)) → Ex × St := Sum.elim (fun r => (.ret, zbe p0 p1 s1_12 v502 r)) (fun r => ((.exit 2), zae p0 p1 s1_12 v502 r))
theorem zCg (k : Nat) (p0 : zh) (p1 : (SL (SL Int))) (s1_12 : Int) (v502 : (SL Int)) (s5_9 s5_17 : Int) (x : (Int × Int) ⊕ ((Int × Int × Int) ⊕ (Int × Int))) (h : zVb k p0 p1 s1_12 v502 s5_9 s5_17 = some x) : zE TE 71 (blk TE 71 2) (fun s : (Int × Int) => zPl p0 p1 s1_12 v502 s.1 s.2) (z8k p0 p1 s1_12 v502) (s5_9, s5_17) x := by
 unfold zVb at h
 refine zn h (fun h701 g1 => ?_) (fun h701 g1 => ?_)
 ·refine zj g1 (fun v702 h703 g2 => ?_)
  refine zj g2 (fun v704 h705 g3 => ?_)
  refine zn g3 (fun h706 g4 => ?_) (fun h706 g4 => ?_)
  ·subst h706
   exact zqo [(71, 8, 0, .q (xb true)), (71, 9, 0, .q (.d (.pin [(di v702)])))] [(71, 1000010, (.nor, z8b p0 p1 s1_12 v502 s5_9 s5_17 v702 true))] g4 (ob (o_b h701) (ob (o_ia (e := eI) 1 h703 rfl) (ob (zvg k p0 p1 s1_12 v502 s5_9 s5_17 v702 _ h705) ob0))) (by kernel_rfl)
  ·subst h706
   refine zn g4 (fun h707 g5 => ?_) (fun h707 g5 => ?_)
   ·cases g5
   ·exact zqn ((or64 s5_9 (zo 1 v702)), (w64 (s5_17 + 1))) [] [(71, 8, 0, .q (xb true)), (71, 9, 0, .q (.d (.pin [(di v702)]))), (71, 12, 2, .q (xi (zo 1 v702)))] [(71, 1000010, (.nor, z8b p0 p1 s1_12 v502 s5_9 s5_17 v702 false))] g5 (ob (o_b h701) (ob (o_ia (e := eI) 1 h703 rfl) (ob (zvg k p0 p1 s1_12 v502 s5_9 s5_17 v702 _ h705) (ob (zIb (x := 1) h707) ob0)))) (by kernel_rfl)
 ·exact zqo [(71, 8, 0, .q (xb false))] [] g1 (ob (o_b h701) ob0) (by kernel_rfl)
noncomputable def zmB (p0 : zh) (p1 : (SL (SL Int))) (s1_9 s1_12 : Int) : TM := [(0, (.d (.agg (za p0.SlipFloor)))), (1, (.d (dl (eL eI) p1.1 p1.2))), (zsp 2), (4, (xb false)), (13, (xb false)), (5, (xi s1_9)), (14, (.d (dl (eL eI) p1.1 p1.2))), (15, (xi (p1.1.length : Int))), (16, (xi s1_12))]
noncomputable def zCl (p0 : zh) (p1 : (SL (SL Int))) (s1_9 s1_12 : Int) : St := ⟨(zmB p0 p1 s1_9 s1_12), ⟨[(zc 2 (za p0.SlipFloor))], []⟩, []⟩
noncomputable def zwB (p0 : zh) (p1 : (SL (SL Int))) (r : (Int × Int × (SL Int) × Int × Int × Int)) : TM := [(0, (.d (.agg (za p0.SlipFloor)))), (1, (.d (dl (eL eI) p1.1 p1.2))), (zsp 2), (4, (xb false)), (13, (xb false)), (5, (xi r.1)), (14, (.d (dl (eL eI) p1.1 p1.2))), (15, (xi (p1.1.length : Int))), (16, (xi r.2.1)), (17, (xb true)), (7, (.d (dl eI r.2.2.1.1 r.2.2.1.2))), (20, (.d (dl eI r.2.2.1.1 r.2.2.1.2))), (21, (xi r.2.2.2.1)), (22, (xi r.2.2.2.2.1)), (23, (xb true)), (9, (xi r.2.2.2.2.2)), (36, (xb true))]
noncomputable def z5d (p0 : zh) (p1 : (SL (SL Int))) (r : (Int × Int × (SL Int) × Int × Int × Int)) : St := ⟨(zwB p0 p1 r), ⟨[(zc 2 (za p0.SlipFloor))], []⟩, []⟩
noncomputable def zzB (p0 : zh) (p1 : (SL (SL Int))) (r : zt7) : TM := [(0, (.d (.agg (za p0.SlipFloor)))), (1, (.d (dl (eL eI) p1.1 p1.2))), (zsp 2), (4, (xb false)), (13, (xb false)), (5, (xi r.1)), (14, (.d (dl (eL eI) p1.1 p1.2))), (15, (xi (p1.1.length : Int))), (16, (xi r.2)), (17, (xb false))]
noncomputable def z6d (p0 : zh) (p1 : (SL (SL Int))) (r : zt7) : St := ⟨(zzB p0 p1 r), ⟨[(zc 2 (za p0.SlipFloor))], []⟩, []⟩
noncomputable def zjl (p0 : zh) (p1 : (SL (SL Int))) : ((Int × Int × (SL Int) × Int × Int × Int) ⊕ (Int × Int)) → Ex × St := Sum.elim (fun r => (.ret, z5d p0 p1 r)) (fun r => ((.exit 0), z6d p0 p1 r))
theorem zGg (k : Nat) (p0 : zh) (p1 : (SL (SL Int))) (s1_9 s1_12 : Int) (x : (Int × Int) ⊕ ((Int × Int × (SL Int) × Int × Int × Int) ⊕ (Int × Int))) (h : zEc k p0 p1 s1_9 s1_12 = some x) : zE TE 71 (blk TE 71 0) (fun s : (Int × Int) => zCl p0 p1 s.1 s.2) (zjl p0 p1) (s1_9, s1_12) x := by
 unfold zEc at h
 refine zn h (fun h501 g1 => ?_) (fun h501 g1 => ?_)
 ·refine zj g1 (fun v502 h503 g2 => ?_)
  refine zj g2 (fun v504 h505 g3 => ?_)
  refine zPb g3 (fun v507 hh g4_0 => ?_) (fun v507 hh g4_0 => ?_)
  ·subst hh
   exact zqo [(71, 5, 0, .q (xb true)), (71, 6, 0, .q (.d (.pin [(dl eI v502.1 v502.2)]))), (71, 7, 1, .q (xi (v502.1.length : Int)))] [(71, 2, (.ret, zbe p0 p1 s1_12 v502 v507))] g4_0 (ob (o_b h501) (ob (o_ia (e := (eL eI)) 1 h503 rfl) (ob (zr eI v502.1) (ob (zx (id := 2) (r' := (.ret, zbe p0 p1 s1_12 v502 v507)) (zkb (zCg k p0 p1 s1_12 v502) k _ _ h505) rfl) ob0)))) (by kernel_rfl)
  ·subst hh
   exact zqn (v507.1, (w64 (s1_12 + 1))) [] [(71, 5, 0, .q (xb true)), (71, 6, 0, .q (.d (.pin [(dl eI v502.1 v502.2)]))), (71, 7, 1, .q (xi (v502.1.length : Int)))] [(71, 2, (.nor, zae p0 p1 s1_12 v502 v507))] g4_0 (ob (o_b h501) (ob (o_ia (e := (eL eI)) 1 h503 rfl) (ob (zr eI v502.1) (ob (zx (id := 2) (r' := (.nor, zae p0 p1 s1_12 v502 v507)) (zkb (zCg k p0 p1 s1_12 v502) k _ _ h505) rfl) ob0)))) (by kernel_rfl)
 ·exact zqo [(71, 5, 0, .q (xb false))] [] g1 (ob (o_b h501) ob0) (by kernel_rfl)
theorem zjh (k : Nat) (p0 : zh) (p1 : (SL (SL Int))) (r : Bool) (h : zvd k p0 p1 = some r) : zB TE (ev TE) 71 [(.agg (za p0.SlipFloor)), (dl (eL eI) p1.1 p1.2)] = some (zUd r) := by
 unfold zvd at h
 refine zj h (fun v1 h2 g1 => ?_)
 refine zn g1 (fun h3 g2 => ?_) (fun h3 g2 => ?_)
 ·exact zy (g := zUd) g2 (zqc [(71, 1, 1, .q (xi (p1.1.length : Int))), (71, 1, 2, .c (db v1)), (71, 1, 3, .q (xb true))] [] (ob (zr (eL eI) p1.1) (ob (zS k (p1.1.length : Int) 1 5 _ h2) (ob (o_b h3) ob0))) (by kernel_rfl))
 ·refine zj g2 (fun v4 h5 g3 => ?_)
  refine zPb g3 (fun v7 hh g4_0 => ?_) (fun v7 hh g4_0 => ?_)
  ·subst hh
   exact zy (g := zUd) g4_0 (zqc [(71, 1, 1, .q (xi (p1.1.length : Int))), (71, 1, 2, .c (db v1)), (71, 1, 3, .q (xb false)), (71, 4, 1, .q (xi (p1.1.length : Int)))] [(71, 0, (.ret, z5d p0 p1 v7))] (ob (zr (eL eI) p1.1) (ob (zS k (p1.1.length : Int) 1 5 _ h2) (ob (o_b h3) (ob (zr (eL eI) p1.1) (ob (zx (id := 0) (r' := (.ret, z5d p0 p1 v7)) (zkb (zGg k p0 p1) k _ _ h5) rfl) ob0))))) (by kernel_rfl))
  ·subst hh
   refine zn g4_0 (fun h8 g5 => ?_) (fun h8 g5 => ?_)
   ·cases g5
   ·exact zy (g := zUd) g5 (zqc [(71, 1, 1, .q (xi (p1.1.length : Int))), (71, 1, 2, .c (db v1)), (71, 1, 3, .q (xb false)), (71, 4, 1, .q (xi (p1.1.length : Int))), (71, 15, 4, .q (xi (p0.SlipFloor.Slips.1.length : Int))), (71, 15, 5, .q (xi (zo 1 (p0.SlipFloor.Slips.1.length : Int))))] [(71, 0, (.nor, z6d p0 p1 v7))] (ob (zr (eL eI) p1.1) (ob (zS k (p1.1.length : Int) 1 5 _ h2) (ob (o_b h3) (ob (zr (eL eI) p1.1) (ob (zx (id := 0) (r' := (.nor, z6d p0 p1 v7)) (zkb (zGg k p0 p1) k _ _ h5) rfl) (ob (zr zl p0.SlipFloor.Slips.1) (ob (zIb (x := 1) h8) ob0))))))) (by kernel_rfl))
noncomputable def zQB (p0 : zd) (p1 : (SL (SL Int))) (s3_32 : zt16) (s1_13 : Int) (v302 : (SL Int)) (s3_18 : Int) : TM := [(0, (.d (.agg (za p0)))), (1, (.d (dl (eL eI) p1.1 p1.2))), (zsp 2), (zsp 3), (4, (.d (.sl [] .nil))), (5, (xi 0)), (zsp 6), (7, (xi 0)), (21, (xb false)), (8, (.row 0 27 s3_32.length)), (28, (.d (dl (eL eI) p1.1 p1.2))), (29, (xi (p1.1.length : Int))), (30, (xi s1_13)), (31, (xb true)), (10, (.d (dl eI v302.1 v302.2))), (zsp 11), (34, (.d (dl eI v302.1 v302.2))), (35, (xi (v302.1.length : Int))), (36, (xi s3_18))]
noncomputable def zMr (p0 : zd) (p1 : (SL (SL Int))) (s1_13 : Int) (v302 : (SL Int)) (s3_18 : Int) (s3_32 : zt16) (s3_34 s3_35 : Int) : St := ⟨(zQB p0 p1 s3_32 s1_13 v302 s3_18), ⟨[(zc 2 (za p0)), (3, (.cells [(.d (dl (eL eI) p1.1 p1.2))])), (zc 6 (za p0)), (27, (rowO false 2 zq s3_32 true)), (11, (.cells [(xi s3_34), (xi s3_35)]))], []⟩, []⟩
noncomputable def zUB (p0 : zd) (p1 : (SL (SL Int))) (r : (Int × (List zp) × Int × Int)) (s1_13 : Int) (v302 : (SL Int)) : TM := [(0, (.d (.agg (za p0)))), (1, (.d (dl (eL eI) p1.1 p1.2))), (zsp 2), (zsp 3), (4, (.d (.sl [] .nil))), (5, (xi 0)), (zsp 6), (7, (xi 0)), (21, (xb false)), (8, (.row 0 27 r.2.1.length)), (28, (.d (dl (eL eI) p1.1 p1.2))), (29, (xi (p1.1.length : Int))), (30, (xi s1_13)), (31, (xb true)), (10, (.d (dl eI v302.1 v302.2))), (zsp 11), (34, (.d (dl eI v302.1 v302.2))), (35, (xi (v302.1.length : Int))), (36, (xi r.1)), (37, (xb false))]
noncomputable def zJi (p0 : zd) (p1 : (SL (SL Int))) (s1_13 : Int) (v302 : (SL Int)) (r : (Int × (List zp) × Int × Int)) : St := ⟨(zUB p0 p1 r s1_13 v302), ⟨[(zc 2 (za p0)), (3, (.cells [(.d (dl (eL eI) p1.1 p1.2))])), (zc 6 (za p0)), (27, (rowO false 2 zq r.2.1 true)), (11, (.cells [(xi r.2.2.1), (xi r.2.2.2)]))], []⟩, []⟩
noncomputable def zZr (p0 : zd) (p1 : (SL (SL Int))) (s1_13 : Int) (v302 : (SL Int)) : (Int × (List zp) × Int × Int) → Ex × St := fun r => ((.exit 2), zJi p0 p1 s1_13 v302 r)
theorem zEr (k : Nat) (p0 : zd) (p1 : (SL (SL Int))) (s1_13 : Int) (v302 : (SL Int)) (s3_18 : Int) (s3_32 : zt16) (s3_34 s3_35 : Int) (x : (Int × (List zp) × Int × Int) ⊕ (Int × (List zp) × Int × Int)) (h : zBf k p0 p1 s1_13 v302 s3_18 s3_32 s3_34 s3_35 = some x) : zE TE 25 (blk TE 25 2) (fun s : (Int × (List zp) × Int × Int) => zMr p0 p1 s1_13 v302 s.1 s.2.1 s.2.2.1 s.2.2.2) (zZr p0 p1 s1_13 v302) (s3_18, s3_32, s3_34, s3_35) x := by
 unfold zBf at h
 refine zn h (fun h401 g1 => ?_) (fun h401 g1 => ?_)
 ·refine zj g1 (fun v402 h403 g2 => ?_)
  refine zj g2 (fun v404 h405 g3 => ?_)
  refine zj g3 (fun v406 h407 g4 => ?_)
  refine zj g4 (fun v408 h409 g5 => ?_)
  exact zqn ((w64 (s3_18 + 1)), (s3_32.set v402.toNat (⟨(w64 (s3_34 + v404)), (w64 (s3_35 + v406))⟩ : zp)), (w64 (s3_34 + v404)), (w64 (s3_35 + v406))) [27] [(25, 10, 0, .q (xb true)), (25, 11, 0, .q (.d (.pin [(di v402)]))), (25, 12, 6, .c (di v404)), (25, 12, 14, .c (di v406)), (25, 13, 3, .q (.rp 0 27 s3_32.length v402.toNat 0)), (25, 13, 4, .rs (rowO false 2 zq (s3_32.set v402.toNat (⟨(w64 (s3_34 + v404)), (w64 (s3_35 + v406))⟩ : zp)) true)), (25, 13, 999, .nm [(8, (s3_32.set v402.toNat (⟨(w64 (s3_34 + v404)), (w64 (s3_35 + v406))⟩ : zp)).length)] [])] [] g5 (ob (o_b h401) (ob (o_ia (e := eI) 1 h403 rfl) (ob (zdj k (⟨p0⟩ : zh) v402 _ h405) (ob (z3e k (⟨p0⟩ : zh) v402 _ h407) (ob (zqa 25 16 0 27 v402 false 2 zq s3_32 true (by kernel_rfl) (by kernel_rfl) h409) (ob (o_rs (b := false) (z := 2) (e := zq) (l := s3_32) (o := 0) (n := 2) (ds := [(di (w64 (s3_34 + v404))), (di (w64 (s3_35 + v406)))]) (i := v402) (y' := (⟨(w64 (s3_34 + v404)), (w64 (s3_35 + v406))⟩ : zp)) h409 (Nat.le_of_ble_eq_true rfl) rfl) (ob (show s3_32.length = (s3_32.set v402.toNat (⟨(w64 (s3_34 + v404)), (w64 (s3_35 + v406))⟩ : zp)).length by simp) (ob (zlf false 2 zq (s3_32.set v402.toNat (⟨(w64 (s3_34 + v404)), (w64 (s3_35 + v406))⟩ : zp)) true) ob0)))))))) (by kernel_rfl)
 ·exact zqo [(25, 10, 0, .q (xb false))] [] g1 (ob (o_b h401) ob0) (by kernel_rfl)
noncomputable def zoC (p0 : zd) (p1 : (SL (SL Int))) (s1_27 : zt16) (s1_13 : Int) : TM := [(0, (.d (.agg (za p0)))), (1, (.d (dl (eL eI) p1.1 p1.2))), (zsp 2), (zsp 3), (4, (.d (.sl [] .nil))), (5, (xi 0)), (zsp 6), (7, (xi 0)), (21, (xb false)), (8, (.row 0 27 s1_27.length)), (28, (.d (dl (eL eI) p1.1 p1.2))), (29, (xi (p1.1.length : Int))), (30, (xi s1_13))]
noncomputable def zYr (p0 : zd) (p1 : (SL (SL Int))) (s1_13 : Int) (s1_27 : zt16) : St := ⟨(zoC p0 p1 s1_27 s1_13), ⟨[(zc 2 (za p0)), (3, (.cells [(.d (dl (eL eI) p1.1 p1.2))])), (zc 6 (za p0)), (27, (rowO false 2 zq s1_27 true))], []⟩, []⟩
noncomputable def zJB (p0 : zd) (p1 : (SL (SL Int))) (r : (Int × (List zp))) : TM := [(0, (.d (.agg (za p0)))), (1, (.d (dl (eL eI) p1.1 p1.2))), (zsp 2), (zsp 3), (4, (.d (.sl [] .nil))), (5, (xi 0)), (zsp 6), (7, (xi 0)), (21, (xb false)), (8, (.row 0 27 r.2.length)), (28, (.d (dl (eL eI) p1.1 p1.2))), (29, (xi (p1.1.length : Int))), (30, (xi r.1)), (31, (xb false))]
noncomputable def zui (p0 : zd) (p1 : (SL (SL Int))) (r : (Int × (List zp))) : St := ⟨(zJB p0 p1 r), ⟨[(zc 2 (za p0)), (3, (.cells [(.d (dl (eL eI) p1.1 p1.2))])), (zc 6 (za p0)), (27, (rowO false 2 zq r.2 true))], []⟩, []⟩
noncomputable def zgs (p0 : zd) (p1 : (SL (SL Int))) : (Int × (List zp)) → Ex × St := fun r => ((.exit 0), zui p0 p1 r)
theorem zAq (k : Nat) (p0 : zd) (p1 : (SL (SL Int))) (s1_13 : Int) (s1_27 : zt16) (x : (Int × (List zp)) ⊕ (Int × (List zp))) (h : zTg k p0 p1 s1_13 s1_27 = some x) : zE TE 25 (blk TE 25 0) (fun s : (Int × (List zp)) => zYr p0 p1 s.1 s.2) (zgs p0 p1) (s1_13, s1_27) x := by
 unfold zTg at h
 refine zn h (fun h301 g1 => ?_) (fun h301 g1 => ?_)
 ·refine zj g1 (fun v302 h303 g2 => ?_)
  refine zj g2 (fun v304 h305 g3 => ?_)
  exact zqn ((w64 (s1_13 + 1)), v304.2.1) [27] [(25, 6, 0, .q (xb true)), (25, 7, 0, .q (.d (.pin [(dl eI v302.1 v302.2)]))), (25, 9, 1, .q (xi (v302.1.length : Int)))] [(25, 2, (.nor, zJi p0 p1 s1_13 v302 v304))] g3 (ob (o_b h301) (ob (o_ia (e := (eL eI)) 1 h303 rfl) (ob (zr eI v302.1) (ob (zx (id := 2) (r' := (.nor, zJi p0 p1 s1_13 v302 v304)) (zdq (zEr k p0 p1 s1_13 v302) k _ _ h305) rfl) (ob (zlf false 2 zq v304.2.1 true) ob0))))) (by kernel_rfl)
 ·exact zqo [(25, 6, 0, .q (xb false))] [] g1 (ob (o_b h301) ob0) (by kernel_rfl)
theorem zJo (k : Nat) (p0 : zd) (p1 : (SL (SL Int))) (r : zt8) (h : zai k p0 p1 = some r) : zB TE (ev TE) 25 [(.agg (za p0)), (dl (eL eI) p1.1 p1.2)] = some (zuj r) := by
 unfold zai at h
 refine zj h (fun v1 h2 g1 => ?_)
 refine zn g1 (fun h3 g2 => ?_) (fun h3 g2 => ?_)
 ·exact zy (g := zuj) g2 (zqc [(52, 1, 1, .c (di v1)), (52, 2, 1, .q (xb true)), (25, 2, 1, .q (xb true))] [] (ob (zQ k p0 _ h2) (ob (o_b h3) (ob (o_b h3) ob0))) (by kernel_rfl))
 ·refine zj g2 (fun v4 h5 g3 => ?_)
  refine zn g3 (fun h6 g4 => ?_) (fun h6 g4 => ?_)
  ·exact zy (g := zuj) g4 (zqc [(52, 1, 1, .c (di v1)), (52, 2, 1, .q (xb false)), (70, 2, 2, .c (db v4)), (52, 4, 4, .q (xb true))] [] (ob (zQ k p0 _ h2) (ob (o_b h3) (ob (zjh k (⟨p0⟩ : zh) p1 _ h5) (ob (o_b h6) ob0)))) (by kernel_rfl))
  ·refine zO g4 (fun h7 g5 => ?_)
   refine zj g5 (fun v8 h9 g6 => ?_)
   exact zy (g := zuj) g6 (zqc [(52, 1, 1, .c (di v1)), (52, 2, 1, .q (xb false)), (70, 2, 2, .c (db v4)), (52, 4, 4, .q (xb false)), (25, 4, 3, .q (xi (p0.Slips.1.length : Int))), (25, 4, 4, .ms (List.replicate (p0.Slips.1.length : Int).toNat (⟨0, 0⟩ : zp) : List zp).length ((List.replicate (p0.Slips.1.length : Int).toNat (⟨0, 0⟩ : zp) : List zp).map zq)), (25, 5, 1, .q (xi (p1.1.length : Int))), (25, 16, 2, .q (xi (v8.2.length : Int))), (25, 16, 4, .q (xi (v8.2.length : Int))), (25, 16, 5, .sr (.d (dl zq v8.2 (xcap false v8.2))) (rowO false 2 zq v8.2 false))] [(25, 0, (.nor, zui p0 p1 v8))] (ob (zQ k p0 _ h2) (ob (o_b h3) (ob (zjh k (⟨p0⟩ : zh) p1 _ h5) (ob (o_b h6) (ob (zr zl p0.Slips.1) (ob (o_ms (z := 0) (n := (p0.Slips.1.length : Int)) (⟨0, 0⟩ : zp) h7) (ob (by simp : (p0.Slips.1.length : Int).toNat = (List.replicate (p0.Slips.1.length : Int).toNat (⟨0, 0⟩ : zp) : List zp).length) (ob (zLq (e := zq) (p0.Slips.1.length : Int).toNat (⟨0, 0⟩ : zp)) (ob (zr (eL eI) p1.1) (ob (zx (id := 0) (r' := (.nor, zui p0 p1 v8)) (zkb (zAq k p0 p1) k _ _ h9) rfl) (ob (zqh false 2 zq v8.2 true) (ob (zqh false 2 zq v8.2 true) (ob (o_sr (P := TE.P) (T := 25) (U := 24) (by' := 16) (ρ := fun _ => xi (v8.2.length : Int)) (lv := 0) (s := 27) (lo := none) (hi := some (.tmp 0)) (mx := some (.tmp 0)) false 2 zq v8.2 true (by kernel_rfl) (by kernel_rfl) rfl rfl rfl) ob0))))))))))))) (by kernel_rfl))
theorem zG (k : Nat) (p0 p1 p2 : Int) (r : Bool) (h : zY k p0 p1 p2 = some r) : zB TE (ev TE) 39 [(di p0), (di p1), (di p2)] = some (zwf r) := by
 unfold zY at h
 refine zn h (fun h1 g1 => ?_) (fun h1 g1 => ?_)
 ·exact zy (g := zwf) g1 (zqc [(39, 1, 3, .q (xb true))] [] (ob (o_b h1) ob0) (by kernel_rfl))
 ·exact zy (g := zwf) g1 (zqc [(39, 1, 3, .q (xb false))] [] (ob (o_b h1) ob0) (by kernel_rfl))
theorem z7g (k : Nat) (p0 : zd) (p1 : Int) (r : Bool) (h : zhd k p0 p1 = some r) : zB TE (ev TE) 59 [(.agg (za p0)), (di p1)] = some (zfh r) := by
 unfold zhd at h
 refine zj h (fun v1 h2 g1 => ?_)
 exact zy (g := zfh) g1 (zqc [(59, 1, 3, .q (xi (p0.Slips.1.length : Int))), (59, 1, 5, .c (db v1))] [] (ob (zr zl p0.Slips.1) (ob (zG k p1 0 (w64 ((p0.Slips.1.length : Int) - 1)) _ h2) ob0)) (by kernel_rfl))
noncomputable def znB (p0 : (SL Int)) (s1_2 s1_3 : Int) : TM := [(0, (.d (dl eI p0.1 p0.2))), (2, (xi 0)), (3, (xi s1_2)), (4, (xi s1_3))]
noncomputable def zWk (p0 : (SL Int)) (s1_2 s1_3 : Int) : St := ⟨(znB p0 s1_2 s1_3), ⟨[], []⟩, []⟩
noncomputable def zbC (p0 : (SL Int)) (r : zt7) : TM := [(0, (.d (dl eI p0.1 p0.2))), (2, (xi 0)), (3, (xi r.1)), (4, (xi r.2)), (8, (xb false))]
noncomputable def zhe (p0 : (SL Int)) (r : zt7) : St := ⟨(zbC p0 r), ⟨[], []⟩, []⟩
noncomputable def zIl (p0 : (SL Int)) : (Int × Int) → Ex × St := fun r => ((.exit 0), zhe p0 r)
theorem zyk (k : Nat) (p0 : (SL Int)) (s1_2 s1_3 : Int) (x : (Int × Int) ⊕ (Int × Int)) (h : zCc k p0 s1_2 s1_3 = some x) : zE TE 87 (blk TE 87 0) (fun s : (Int × Int) => zWk p0 s.1 s.2) (zIl p0) (s1_2, s1_3) x := by
 unfold zCc at h
 refine zn h (fun h201 g1 => ?_) (fun h201 g1 => ?_)
 ·refine zj g1 (fun v202 h203 g2 => ?_)
  exact zqn ((w64 (s1_2 + v202)), (w64 (s1_3 + 1))) [] [(87, 3, 2, .q (xi (p0.1.length : Int))), (87, 3, 3, .q (xb true)), (87, 5, 3, .q (.d (.pin [(di v202)])))] [] g2 (ob (zr eI p0.1) (ob (o_b h201) (ob (o_ia (e := eI) 1 h203 rfl) ob0))) (by kernel_rfl)
 ·exact zqo [(87, 3, 2, .q (xi (p0.1.length : Int))), (87, 3, 3, .q (xb false))] [] g1 (ob (zr eI p0.1) (ob (o_b h201) ob0)) (by kernel_rfl)
theorem zYm (k : Nat) (p0 : (SL Int)) (r : Int) (h : zzd k p0 = some r) : zB TE (ev TE) 87 [(dl eI p0.1 p0.2)] = some (z5h r) := by
 unfold zzd at h
 refine zj h (fun v1 h2 g1 => ?_)
 exact zy (g := z5h) g1 (zqc [] [(87, 0, (.nor, zhe p0 v1))] (ob (zx (id := 0) (r' := (.nor, zhe p0 v1)) (zkb (zyk k p0) k _ _ h2) rfl) ob0) (by kernel_rfl))
noncomputable def zrB (p0 : zd) (p1 : (SL (SL Int))) (s5_17 : zt3) (s1_8 s5_10 v706 : Int) (r : Bool) : TM := [(0, (.d (.agg (za p0)))), (1, (.d (dl (eL eI) p1.1 p1.2))), (zsp 2), (4, (xb false)), (5, (.row 0 12 s5_17.length)), (6, (xi s1_8)), (16, (xb true)), (7, (xi s5_10)), (25, (xb true)), (8, (xi v706)), (45, (xb r))]
noncomputable def zJb (p0 : zd) (p1 : (SL (SL Int))) (s1_8 s5_10 : Int) (s5_17 : zt3) (v706 : Int) (r : Bool) : St := ⟨(zrB p0 p1 s5_17 s1_8 s5_10 v706 r), ⟨[(zc 2 (za p0)), (12, (rowO false 1 eI s5_17 true))], []⟩, []⟩
noncomputable def zgC (p0 : zd) (p1 : (SL (SL Int))) (s5_17 : zt3) (s1_8 s5_10 v706 : Int) : TM := [(0, (.d (.agg (za p0)))), (1, (.d (dl (eL eI) p1.1 p1.2))), (zsp 2), (4, (xb false)), (5, (.row 0 12 s5_17.length)), (6, (xi s1_8)), (16, (xb true)), (7, (xi s5_10)), (25, (xb true)), (8, (xi v706))]
theorem zHf (k : Nat) (p0 : zd) (p1 : (SL (SL Int))) (s1_8 s5_10 : Int) (s5_17 : zt3) (v706 : Int) (r : Bool) (h : z3c k p0 p1 s1_8 s5_10 s5_17 v706 = some r) : ev TE 72 (rgn TE 72 9) ⟨(zgC p0 p1 s5_17 s1_8 s5_10 v706), ⟨[(zc 2 (za p0)), (12, (rowO false 1 eI s5_17 true))], []⟩, []⟩ = some (.nor, zJb p0 p1 s1_8 s5_10 s5_17 v706 r) := by
 unfold z3c at h
 refine zj h (fun v801 h802 g1 => ?_)
 refine zn g1 (fun h803 g2 => ?_) (fun h803 g2 => ?_)
 ·exact zA (g := fun r => (Ex.nor, zJb p0 p1 s1_8 s5_10 s5_17 v706 r)) g2 (zqe [(72, 9, 2, .c (db v801)), (72, 9, 4, .q (xb true))] [] (ob (z7g k p0 v706 _ h802) (ob (o_b h803) ob0)) (by kernel_rfl))
 ·refine zj g2 (fun v804 h805 g3 => ?_)
  exact zA (g := fun r => (Ex.nor, zJb p0 p1 s1_8 s5_10 s5_17 v706 r)) g3 (zqe [(72, 9, 2, .c (db v801)), (72, 9, 4, .q (xb false)), (72, 9, 7, .q (.rp 0 12 s5_17.length v706.toNat 0)), (72, 9, 8, .q (xi v804))] [] (ob (z7g k p0 v706 _ h802) (ob (o_b h803) (ob (zqa 22 8 0 12 v706 false 1 eI s5_17 true (by kernel_rfl) (by kernel_rfl) h805) (ob (zql 3 (1, false) 0 12 0 v706 (xi v804) false 1 eI s5_17 true (by kernel_rfl) h805 (by kernel_rfl)) ob0)))) (by kernel_rfl))
noncomputable def zSB (p0 : zd) (p1 : (SL (SL Int))) (s5_17 : zt3) (s1_8 s5_10 : Int) : TM := [(0, (.d (.agg (za p0)))), (1, (.d (dl (eL eI) p1.1 p1.2))), (zsp 2), (4, (xb false)), (5, (.row 0 12 s5_17.length)), (6, (xi s1_8)), (16, (xb true)), (7, (xi s5_10))]
noncomputable def zCj (p0 : zd) (p1 : (SL (SL Int))) (s1_8 s5_10 : Int) (s5_17 : zt3) : St := ⟨(zSB p0 p1 s5_17 s1_8 s5_10), ⟨[(zc 2 (za p0)), (12, (rowO false 1 eI s5_17 true))], []⟩, []⟩
noncomputable def zkB (p0 : zd) (p1 : (SL (SL Int))) (r : zt10) (s1_8 : Int) : TM := [(0, (.d (.agg (za p0)))), (1, (.d (dl (eL eI) p1.1 p1.2))), (zsp 2), (4, (xb false)), (5, (.row 0 12 r.2.2.length)), (6, (xi s1_8)), (16, (xb true)), (7, (xi r.1)), (25, (xb true)), (8, (xi r.2.1)), (45, (xb true))]
noncomputable def zAd (p0 : zd) (p1 : (SL (SL Int))) (s1_8 : Int) (r : zt10) : St := ⟨(zkB p0 p1 r s1_8), ⟨[(zc 2 (za p0)), (12, (rowO false 1 eI r.2.2 true))], []⟩, []⟩
noncomputable def zlC (p0 : zd) (p1 : (SL (SL Int))) (r : zt2) (s1_8 : Int) : TM := [(0, (.d (.agg (za p0)))), (1, (.d (dl (eL eI) p1.1 p1.2))), (zsp 2), (4, (xb false)), (5, (.row 0 12 r.2.length)), (6, (xi s1_8)), (16, (xb true)), (7, (xi r.1)), (25, (xb false))]
noncomputable def zBd (p0 : zd) (p1 : (SL (SL Int))) (s1_8 : Int) (r : zt2) : St := ⟨(zlC p0 p1 r s1_8), ⟨[(zc 2 (za p0)), (12, (rowO false 1 eI r.2 true))], []⟩, []⟩
noncomputable def zPj (p0 : zd) (p1 : (SL (SL Int))) (s1_8 : Int) : ((Int × Int × (List Int)) ⊕ (Int × (List Int))) → Ex × St := Sum.elim (fun r => (.ret, zAd p0 p1 s1_8 r)) (fun r => ((.exit 2), zBd p0 p1 s1_8 r))
theorem zuf (k : Nat) (p0 : zd) (p1 : (SL (SL Int))) (s1_8 s5_10 : Int) (s5_17 : zt3) (x : (Int × (List Int)) ⊕ ((Int × Int × (List Int)) ⊕ (Int × (List Int)))) (h : zAb k p0 p1 s1_8 s5_10 s5_17 = some x) : zE TE 72 (blk TE 72 2) (fun s : (Int × (List Int)) => zCj p0 p1 s1_8 s.1 s.2) (zPj p0 p1 s1_8) (s5_10, s5_17) x := by
 unfold zAb at h
 refine zj h (fun v701 h702 g1 => ?_)
 refine zn g1 (fun h703 g2 => ?_) (fun h703 g2 => ?_)
 ·refine zj g2 (fun v704 h705 g3 => ?_)
  refine zj g3 (fun v706 h707 g4 => ?_)
  refine zj g4 (fun v708 h709 g5 => ?_)
  refine zn g5 (fun h710 g6 => ?_) (fun h710 g6 => ?_)
  ·subst h710
   exact zqo [(72, 6, 3, .q (.d (.pin [(dl eI v701.1 v701.2)]))), (72, 6, 5, .q (xi (v701.1.length : Int))), (72, 6, 6, .q (xb true)), (72, 8, 2, .q (.d (.pin [(dl eI v704.1 v704.2)]))), (72, 8, 5, .q (.d (.pin [(di v706)])))] [(72, 1000009, (.nor, zJb p0 p1 s1_8 s5_10 s5_17 v706 true))] g6 (ob (o_ia (e := (eL eI)) 1 h702 rfl) (ob (zr eI v701.1) (ob (o_b h703) (ob (o_ia (e := (eL eI)) 1 h705 rfl) (ob (o_ia (e := eI) 1 h707 rfl) (ob (zHf k p0 p1 s1_8 s5_10 s5_17 v706 _ h709) ob0)))))) (by kernel_rfl)
  ·subst h710
   refine zj g6 (fun v711 h712 g7 => ?_)
   refine zj g7 (fun v713 h714 g8 => ?_)
   exact zqn ((w64 (s5_10 + 1)), (s5_17.set v706.toNat (w64 (v711 + 1)))) [12] [(72, 6, 3, .q (.d (.pin [(dl eI v701.1 v701.2)]))), (72, 6, 5, .q (xi (v701.1.length : Int))), (72, 6, 6, .q (xb true)), (72, 8, 2, .q (.d (.pin [(dl eI v704.1 v704.2)]))), (72, 8, 5, .q (.d (.pin [(di v706)]))), (72, 11, 2, .q (.rp 0 12 s5_17.length v706.toNat 0)), (72, 11, 3, .q (xi v711)), (72, 11, 5, .q (.rp 0 12 s5_17.length v706.toNat 0)), (72, 11, 6, .rs (rowO false 1 eI (s5_17.set v706.toNat (w64 (v711 + 1))) true)), (72, 11, 999, .nm [(5, (s5_17.set v706.toNat (w64 (v711 + 1))).length)] [])] [(72, 1000009, (.nor, zJb p0 p1 s1_8 s5_10 s5_17 v706 false))] g8 (ob (o_ia (e := (eL eI)) 1 h702 rfl) (ob (zr eI v701.1) (ob (o_b h703) (ob (o_ia (e := (eL eI)) 1 h705 rfl) (ob (o_ia (e := eI) 1 h707 rfl) (ob (zHf k p0 p1 s1_8 s5_10 s5_17 v706 _ h709) (ob (zqa 22 8 0 12 v706 false 1 eI s5_17 true (by kernel_rfl) (by kernel_rfl) h712) (ob (zql 3 (1, false) 0 12 0 v706 (xi v711) false 1 eI s5_17 true (by kernel_rfl) h712 (by kernel_rfl)) (ob (zqa 22 8 0 12 v706 false 1 eI s5_17 true (by kernel_rfl) (by kernel_rfl) h714) (ob (o_rs (b := false) (z := 1) (e := eI) (l := s5_17) (o := 0) (n := 1) (ds := [(di (w64 (v711 + 1)))]) (i := v706) (y' := (w64 (v711 + 1))) h714 (Nat.le_of_ble_eq_true rfl) rfl) (ob (show s5_17.length = (s5_17.set v706.toNat (w64 (v711 + 1))).length by simp) (ob (zlf false 1 eI (s5_17.set v706.toNat (w64 (v711 + 1))) true) ob0)))))))))))) (by kernel_rfl)
 ·exact zqo [(72, 6, 3, .q (.d (.pin [(dl eI v701.1 v701.2)]))), (72, 6, 5, .q (xi (v701.1.length : Int))), (72, 6, 6, .q (xb false))] [] g2 (ob (o_ia (e := (eL eI)) 1 h702 rfl) (ob (zr eI v701.1) (ob (o_b h703) ob0))) (by kernel_rfl)
noncomputable def zAB (p0 : zd) (p1 : (SL (SL Int))) (s1_15 : zt3) (s1_8 : Int) : TM := [(0, (.d (.agg (za p0)))), (1, (.d (dl (eL eI) p1.1 p1.2))), (zsp 2), (4, (xb false)), (5, (.row 0 12 s1_15.length)), (6, (xi s1_8))]
noncomputable def zBj (p0 : zd) (p1 : (SL (SL Int))) (s1_8 : Int) (s1_15 : zt3) : St := ⟨(zAB p0 p1 s1_15 s1_8), ⟨[(zc 2 (za p0)), (12, (rowO false 1 eI s1_15 true))], []⟩, []⟩
noncomputable def zcC (p0 : zd) (p1 : (SL (SL Int))) (r : (Int × Int × Int × (List Int))) : TM := [(0, (.d (.agg (za p0)))), (1, (.d (dl (eL eI) p1.1 p1.2))), (zsp 2), (4, (xb false)), (5, (.row 0 12 r.2.2.2.length)), (6, (xi r.1)), (16, (xb true)), (7, (xi r.2.1)), (25, (xb true)), (8, (xi r.2.2.1)), (45, (xb true))]
noncomputable def zFd (p0 : zd) (p1 : (SL (SL Int))) (r : (Int × Int × Int × (List Int))) : St := ⟨(zcC p0 p1 r), ⟨[(zc 2 (za p0)), (12, (rowO false 1 eI r.2.2.2 true))], []⟩, []⟩
noncomputable def zCB (p0 : zd) (p1 : (SL (SL Int))) (r : zt2) : TM := [(0, (.d (.agg (za p0)))), (1, (.d (dl (eL eI) p1.1 p1.2))), (zsp 2), (4, (xb false)), (5, (.row 0 12 r.2.length)), (6, (xi r.1)), (16, (xb false))]
noncomputable def zDd (p0 : zd) (p1 : (SL (SL Int))) (r : zt2) : St := ⟨(zCB p0 p1 r), ⟨[(zc 2 (za p0)), (12, (rowO false 1 eI r.2 true))], []⟩, []⟩
noncomputable def zOj (p0 : zd) (p1 : (SL (SL Int))) : ((Int × Int × Int × (List Int)) ⊕ (Int × (List Int))) → Ex × St := Sum.elim (fun r => (.ret, zFd p0 p1 r)) (fun r => ((.exit 0), zDd p0 p1 r))
theorem zzf (k : Nat) (p0 : zd) (p1 : (SL (SL Int))) (s1_8 : Int) (s1_15 : zt3) (x : (Int × (List Int)) ⊕ ((Int × Int × Int × (List Int)) ⊕ (Int × (List Int)))) (h : z1b k p0 p1 s1_8 s1_15 = some x) : zE TE 72 (blk TE 72 0) (fun s : (Int × (List Int)) => zBj p0 p1 s.1 s.2) (zOj p0 p1) (s1_8, s1_15) x := by
 unfold z1b at h
 refine zn h (fun h501 g1 => ?_) (fun h501 g1 => ?_)
 ·refine zj g1 (fun v502 h503 g2 => ?_)
  refine zPb g2 (fun v505 hh g3_0 => ?_) (fun v505 hh g3_0 => ?_)
  ·subst hh
   exact zqo [(72, 3, 2, .q (xi (p1.1.length : Int))), (72, 3, 3, .q (xb true))] [(72, 2, (.ret, zAd p0 p1 s1_8 v505))] g3_0 (ob (zr (eL eI) p1.1) (ob (o_b h501) (ob (zx (id := 2) (r' := (.ret, zAd p0 p1 s1_8 v505)) (zkb (zuf k p0 p1 s1_8) k _ _ h503) rfl) ob0))) (by kernel_rfl)
  ·subst hh
   exact zqn ((w64 (s1_8 + 1)), v505.2) [12] [(72, 3, 2, .q (xi (p1.1.length : Int))), (72, 3, 3, .q (xb true))] [(72, 2, (.nor, zBd p0 p1 s1_8 v505))] g3_0 (ob (zr (eL eI) p1.1) (ob (o_b h501) (ob (zx (id := 2) (r' := (.nor, zBd p0 p1 s1_8 v505)) (zkb (zuf k p0 p1 s1_8) k _ _ h503) rfl) (ob (zlf false 1 eI v505.2 true) ob0)))) (by kernel_rfl)
 ·exact zqo [(72, 3, 2, .q (xi (p1.1.length : Int))), (72, 3, 3, .q (xb false))] [] g1 (ob (zr (eL eI) p1.1) (ob (o_b h501) ob0)) (by kernel_rfl)
theorem zwk (k : Nat) (p0 : zd) (p1 : (SL (SL Int))) (r : Bool) (h : zJc k p0 p1 = some r) : zB TE (ev TE) 72 [(.agg (za p0)), (dl (eL eI) p1.1 p1.2)] = some (zte r) := by
 unfold zJc at h
 refine zO h (fun h1 g1 => ?_)
 refine zj g1 (fun v2 h3 g2 => ?_)
 have y1 := fun (d : D) (P : List Prop) (V : Ovs) (C : Cuts) (q : All P) h => (zqc ([(72, 1, 2, .q (xi (p0.Slips.1.length : Int))), (72, 1, 3, .ms (List.replicate (p0.Slips.1.length : Int).toNat 0 : List Int).length ((List.replicate (p0.Slips.1.length : Int).toNat 0 : List Int).map eI))] ++ V) C (ob (zr zl p0.Slips.1) (ob (o_ms (z := 0) (n := (p0.Slips.1.length : Int)) 0 h1) (ob (by simp : (p0.Slips.1.length : Int).toNat = (List.replicate (p0.Slips.1.length : Int).toNat 0 : List Int).length) (ob (zLq (e := eI) (p0.Slips.1.length : Int).toNat 0) q)))) h : zB TE (ev TE) 72 [(.agg (za p0)), (dl (eL eI) p1.1 p1.2)] = some d)
 refine zPb g2 (fun v5 hh g3_0 => ?_) (fun v5 hh g3_0 => ?_)
 ·subst hh
  exact zy (g := zte) g3_0 (y1 _ _ [] [(72, 0, (.ret, zFd p0 p1 v5))] (ob (zx (id := 0) (r' := (.ret, zFd p0 p1 v5)) (zkb (zzf k p0 p1) k _ _ h3) rfl) ob0) (by kernel_rfl))
 ·subst hh
  refine zj g3_0 (fun v6 h7 g4 => ?_)
  exact zy (g := zte) g4 (y1 _ _ [(72, 12, 1, .cr [((dl eI v5.2 (rcap false v5.2)), (rowO false 1 eI v5.2 false))] (di v6)), (72, 12, 4, .q (xi (p0.Slips.1.length : Int)))] [(72, 0, (.nor, zDd p0 p1 v5))] (ob (zx (id := 0) (r' := (.nor, zDd p0 p1 v5)) (zkb (zzf k p0 p1) k _ _ h3) rfl) (ob (o_cr false 1 eI v5.2 true 0 12) (ob (zYm k (v5.2, (rcap false v5.2)) _ h7) (ob (zr zl p0.Slips.1) ob0)))) (by kernel_rfl))
theorem zch (k : Nat) (p0 : zp) (p1 p2 : Int) (r : Bool) (h : zdc k p0 p1 p2 = some r) : zB TE (ev TE) 62 [(.agg [(di p0.Low), (di p0.High)]), (di p1), (di p2)] = some (zId r) := by
 unfold zdc at h
 refine zn h (fun h1 g1 => ?_) (fun h1 g1 => ?_)
 ·refine zn g1 (fun h2 g2 => ?_) (fun h2 g2 => ?_)
  ·exact zy (g := zId) g2 (zqc [(62, 1, 4, .q (xb true)), (62, 1, 11, .q (xb true))] [] (ob (o_b h1) (ob (o_b h2) ob0)) (by kernel_rfl))
  ·exact zy (g := zId) g2 (zqc [(62, 1, 4, .q (xb true)), (62, 1, 11, .q (xb false))] [] (ob (o_b h1) (ob (o_b h2) ob0)) (by kernel_rfl))
 ·exact zy (g := zId) g1 (zqc [(62, 1, 4, .q (xb false))] [] (ob (o_b h1) ob0) (by kernel_rfl))
noncomputable def zGB (p0 : zd) (p1 : (SL zk)) (s1_8 s1_9 : Int) (r : Bool) : TM := [(0, (.d (.agg (za p0)))), (1, (.d (dl zi p1.1 p1.2))), (zsp 2), (4, (xb false)), (5, (xi s1_8)), (6, (xi s1_9)), (10, (xb true)), (34, (xb r))]
noncomputable def z6b (p0 : zd) (p1 : (SL zk)) (s1_8 s1_9 : Int) (r : Bool) : St := ⟨(zGB p0 p1 s1_8 s1_9 r), ⟨[(zc 2 (za p0))], []⟩, []⟩
noncomputable def ztC (p0 : zd) (p1 : (SL zk)) (s1_8 s1_9 : Int) : TM := [(0, (.d (.agg (za p0)))), (1, (.d (dl zi p1.1 p1.2))), (zsp 2), (4, (xb false)), (5, (xi s1_8)), (6, (xi s1_9)), (10, (xb true))]
theorem zxg (k : Nat) (p0 : zd) (p1 : (SL zk)) (s1_8 s1_9 : Int) (r : Bool) (h : zOc k p0 p1 s1_8 s1_9 = some r) : ev TE 60 (rgn TE 60 5) ⟨(ztC p0 p1 s1_8 s1_9), ⟨[(zc 2 (za p0))], []⟩, []⟩ = some (.nor, z6b p0 p1 s1_8 s1_9 r) := by
 unfold zOc at h
 refine zj h (fun v401 h402 g1 => ?_)
 refine zj g1 (fun v403 h404 g2 => ?_)
 refine zn g2 (fun h405 g3 => ?_) (fun h405 g3 => ?_)
 ·exact zA (g := fun r => (Ex.nor, z6b p0 p1 s1_8 s1_9 r)) g3 (zqe [(60, 5, 2, .q (.d (.pin [(di v401.Shelf), (di v401.Many)]))), (60, 5, 9, .q (xi (p0.Far.1.length : Int))), (60, 5, 11, .c (db v403)), (60, 5, 13, .q (xb true))] [] (ob (o_ia (e := zi) 2 h402 rfl) (ob (zr eI p0.Far.1) (ob (zG k v401.Shelf (w64 (s1_8 + 1)) (w64 ((p0.Far.1.length : Int) - 1)) _ h404) (ob (o_b h405) ob0)))) (by kernel_rfl))
 ·refine zj g3 (fun v406 h407 g4 => ?_)
  refine zj g4 (fun v408 h409 g5 => ?_)
  exact zA (g := fun r => (Ex.nor, z6b p0 p1 s1_8 s1_9 r)) g5 (zqe [(60, 5, 2, .q (.d (.pin [(di v401.Shelf), (di v401.Many)]))), (60, 5, 9, .q (xi (p0.Far.1.length : Int))), (60, 5, 11, .c (db v403)), (60, 5, 13, .q (xb false)), (60, 5, 16, .q (.d (.pin [(di v406.Shelf), (di v406.Many)]))), (60, 5, 19, .c (db v408))] [] (ob (o_ia (e := zi) 2 h402 rfl) (ob (zr eI p0.Far.1) (ob (zG k v401.Shelf (w64 (s1_8 + 1)) (w64 ((p0.Far.1.length : Int) - 1)) _ h404) (ob (o_b h405) (ob (o_ia (e := zi) 2 h407 rfl) (ob (zG k v406.Many 1 20 _ h409) ob0)))))) (by kernel_rfl))
noncomputable def zDB (p0 : zd) (p1 : (SL zk)) (s1_8 s1_9 : Int) : TM := [(0, (.d (.agg (za p0)))), (1, (.d (dl zi p1.1 p1.2))), (zsp 2), (4, (xb false)), (5, (xi s1_8)), (6, (xi s1_9))]
noncomputable def zyl (p0 : zd) (p1 : (SL zk)) (s1_8 s1_9 : Int) : St := ⟨(zDB p0 p1 s1_8 s1_9), ⟨[(zc 2 (za p0))], []⟩, []⟩
noncomputable def zrC (p0 : zd) (p1 : (SL zk)) (r : zt7) : TM := [(0, (.d (.agg (za p0)))), (1, (.d (dl zi p1.1 p1.2))), (zsp 2), (4, (xb false)), (5, (xi r.1)), (6, (xi r.2)), (10, (xb true)), (34, (xb true))]
noncomputable def z2d (p0 : zd) (p1 : (SL zk)) (r : zt7) : St := ⟨(zrC p0 p1 r), ⟨[(zc 2 (za p0))], []⟩, []⟩
noncomputable def zdC (p0 : zd) (p1 : (SL zk)) (r : zt7) : TM := [(0, (.d (.agg (za p0)))), (1, (.d (dl zi p1.1 p1.2))), (zsp 2), (4, (xb false)), (5, (xi r.1)), (6, (xi r.2)), (10, (xb false))]
noncomputable def zde (p0 : zd) (p1 : (SL zk)) (r : zt7) : St := ⟨(zdC p0 p1 r), ⟨[(zc 2 (za p0))], []⟩, []⟩
noncomputable def z3l (p0 : zd) (p1 : (SL zk)) : ((Int × Int) ⊕ (Int × Int)) → Ex × St := Sum.elim (fun r => (.ret, z2d p0 p1 r)) (fun r => ((.exit 0), zde p0 p1 r))
theorem zyg (k : Nat) (p0 : zd) (p1 : (SL zk)) (s1_8 s1_9 : Int) (x : (Int × Int) ⊕ ((Int × Int) ⊕ (Int × Int))) (h : zIc k p0 p1 s1_8 s1_9 = some x) : zE TE 60 (blk TE 60 0) (fun s : (Int × Int) => zyl p0 p1 s.1 s.2) (z3l p0 p1) (s1_8, s1_9) x := by
 unfold zIc at h
 refine zn h (fun h301 g1 => ?_) (fun h301 g1 => ?_)
 ·refine zj g1 (fun v302 h303 g2 => ?_)
  refine zn g2 (fun h304 g3 => ?_) (fun h304 g3 => ?_)
  ·subst h304
   exact zqo [(60, 3, 2, .q (xi (p1.1.length : Int))), (60, 3, 3, .q (xb true))] [(60, 1000005, (.nor, z6b p0 p1 s1_8 s1_9 true))] g3 (ob (zr zi p1.1) (ob (o_b h301) (ob (zxg k p0 p1 s1_8 s1_9 _ h303) ob0))) (by kernel_rfl)
  ·subst h304
   refine zj g3 (fun v305 h306 g4 => ?_)
   exact zqn (v305.Shelf, (w64 (s1_9 + 1))) [] [(60, 3, 2, .q (xi (p1.1.length : Int))), (60, 3, 3, .q (xb true)), (60, 7, 2, .q (.d (.pin [(di v305.Shelf), (di v305.Many)])))] [(60, 1000005, (.nor, z6b p0 p1 s1_8 s1_9 false))] g4 (ob (zr zi p1.1) (ob (o_b h301) (ob (zxg k p0 p1 s1_8 s1_9 _ h303) (ob (o_ia (e := zi) 2 h306 rfl) ob0)))) (by kernel_rfl)
 ·exact zqo [(60, 3, 2, .q (xi (p1.1.length : Int))), (60, 3, 3, .q (xb false))] [] g1 (ob (zr zi p1.1) (ob (o_b h301) ob0)) (by kernel_rfl)
theorem zTm (k : Nat) (p0 : zd) (p1 : (SL zk)) (r : Bool) (h : zsd k p0 p1 = some r) : zB TE (ev TE) 60 [(.agg (za p0)), (dl zi p1.1 p1.2)] = some (zxf r) := by
 unfold zsd at h
 refine zj h (fun v1 h2 g1 => ?_)
 refine zPb g1 (fun v4 hh g2_0 => ?_) (fun v4 hh g2_0 => ?_)
 ·subst hh
  exact zy (g := zxf) g2_0 (zqc [] [(60, 0, (.ret, z2d p0 p1 v4))] (ob (zx (id := 0) (r' := (.ret, z2d p0 p1 v4)) (zkb (zyg k p0 p1) k _ _ h2) rfl) ob0) (by kernel_rfl))
 ·subst hh
  exact zy (g := zxf) g2_0 (zqc [] [(60, 0, (.nor, zde p0 p1 v4))] (ob (zx (id := 0) (r' := (.nor, zde p0 p1 v4)) (zkb (zyg k p0 p1) k _ _ h2) rfl) ob0) (by kernel_rfl))
noncomputable def ztx (p0 : zd) (r : Bool) : TM := [(0, (.d (.agg (za p0)))), (zsp 1), (2, (xi 0)), (3, (xb r))]
noncomputable def zbb (p0 : zd) (r : Bool) : St := ⟨(ztx p0 r), ⟨[(zc 1 (za p0))], []⟩, []⟩
theorem ztg (k : Nat) (p0 : zd) (r : Bool) (h : zHc k p0 = some r) : ev TE 17 (rgn TE 17 1) ⟨[(0, (.d (.agg (za p0)))), (zsp 1), (2, (xi 0))], ⟨[(zc 1 (za p0))], []⟩, []⟩ = some (.nor, zbb p0 r) := by
 unfold zHc at h
 refine zj h (fun v201 h202 g1 => ?_)
 have y1 := fun (d : Ex × St) (P : List Prop) (V : Ovs) (C : Cuts) (q : All P) h => (zqe ([(17, 1, 2, .q (xi (p0.Far.1.length : Int))), (17, 1, 3, .c (db v201))] ++ V) C (ob (zr eI p0.Far.1) (ob (zG k (p0.Far.1.length : Int) 1 12 _ h202) q)) h : ev TE 17 (rgn TE 17 1) ⟨[(0, (.d (.agg (za p0)))), (zsp 1), (2, (xi 0))], ⟨[(zc 1 (za p0))], []⟩, []⟩ = some d)
 refine zn g1 (fun h203 g2 => ?_) (fun h203 g2 => ?_)
 ·have y2 := fun (d : _) (P : List Prop) (V : Ovs) (C : Cuts) (q : All P) h => y1 d _ ([(17, 1, 4, .q (xb true)), (17, 1, 7, .q (xi (p0.Pick.1.length : Int))), (17, 1, 10, .q (xi (p0.Far.1.length : Int)))] ++ V) C (ob (o_b h203) (ob (zr zq p0.Pick.1) (ob (zr eI p0.Far.1) q))) h
  refine zn g2 (fun h204 g3 => ?_) (fun h204 g3 => ?_)
  ·refine zj g3 (fun v205 h206 g4 => ?_)
   have y3 := fun (d : _) (P : List Prop) (V : Ovs) (C : Cuts) (q : All P) h => y2 d _ ([(17, 1, 13, .q (xb true)), (17, 1, 16, .c (db v205))] ++ V) C (ob (o_b h204) (ob (zch k p0.Step 1 10 _ h206) q)) h
   refine zn g4 (fun h207 g5 => ?_) (fun h207 g5 => ?_)
   ·refine zj g5 (fun v208 h209 g6 => ?_)
    refine zn g6 (fun h210 g7 => ?_) (fun h210 g7 => ?_)
    ·exact zA (g := fun r => (Ex.nor, zbb p0 r)) g7 (y3 _ _ [(17, 1, 18, .q (xb true)), (17, 1, 21, .c (db v208)), (17, 1, 23, .q (xb true)), (17, 1, 26, .q (xi (p0.Slips.1.length : Int)))] [] (ob (o_b h207) (ob (zG k p0.Carry 1 20 _ h209) (ob (o_b h210) (ob (zr zl p0.Slips.1) ob0)))) (by kernel_rfl))
    ·exact zA (g := fun r => (Ex.nor, zbb p0 r)) g7 (y3 _ _ [(17, 1, 18, .q (xb true)), (17, 1, 21, .c (db v208)), (17, 1, 23, .q (xb false))] [] (ob (o_b h207) (ob (zG k p0.Carry 1 20 _ h209) (ob (o_b h210) ob0))) (by kernel_rfl))
   ·exact zA (g := fun r => (Ex.nor, zbb p0 r)) g5 (y3 _ _ [(17, 1, 18, .q (xb false))] [] (ob (o_b h207) ob0) (by kernel_rfl))
  ·exact zA (g := fun r => (Ex.nor, zbb p0 r)) g3 (y2 _ _ [(17, 1, 13, .q (xb false))] [] (ob (o_b h204) ob0) (by kernel_rfl))
 ·exact zA (g := fun r => (Ex.nor, zbb p0 r)) g2 (y1 _ _ [(17, 1, 4, .q (xb false))] [] (ob (o_b h203) ob0) (by kernel_rfl))
noncomputable def zvC (p0 : zd) (s2_7 : Bool) (s2_8 s2_9 : Int) (r : Bool) : TM := [(0, (.d (.agg (za p0)))), (zsp 1), (2, (xi 0)), (3, (xb s2_7)), (4, (xi s2_8)), (5, (xi s2_9)), (44, (xb r))]
noncomputable def z7b (p0 : zd) (s2_7 : Bool) (s2_8 s2_9 : Int) (r : Bool) : St := ⟨(zvC p0 s2_7 s2_8 s2_9 r), ⟨[(zc 1 (za p0))], []⟩, []⟩
noncomputable def zCx (p0 : zd) (s2_7 : Bool) (s2_8 s2_9 : Int) : TM := [(0, (.d (.agg (za p0)))), (zsp 1), (2, (xi 0)), (3, (xb s2_7)), (4, (xi s2_8)), (5, (xi s2_9))]
theorem zAg (k : Nat) (p0 : zd) (s2_7 : Bool) (s2_8 s2_9 : Int) (r : Bool) (h : zyb k p0 s2_7 s2_8 s2_9 = some r) : ev TE 17 (rgn TE 17 4) ⟨(zCx p0 s2_7 s2_8 s2_9), ⟨[(zc 1 (za p0))], []⟩, []⟩ = some (.nor, z7b p0 s2_7 s2_8 s2_9 r) := by
 unfold zyb at h
 refine zn h (fun h601 g1 => ?_) (fun h601 g1 => ?_)
 ·exact zA (g := fun r => (Ex.nor, z7b p0 s2_7 s2_8 s2_9 r)) g1 (zqe [(17, 4, 1, .q (xb true)), (17, 4, 5, .q (xi (p0.Far.1.length : Int)))] [] (ob (o_b h601) (ob (zr eI p0.Far.1) ob0)) (by kernel_rfl))
 ·exact zA (g := fun r => (Ex.nor, z7b p0 s2_7 s2_8 s2_9 r)) g1 (zqe [(17, 4, 1, .q (xb false))] [] (ob (o_b h601) ob0) (by kernel_rfl))
noncomputable def z7c (p0 : zd) (s2_7 : Bool) (s2_8 s2_9 : Int) (r : Bool) : St := ⟨(ztx p0 r ++ [(4, (xi s2_8)), (5, (xi s2_9)), (44, (xb true))]), ⟨[(zc 1 (za p0))], []⟩, []⟩
theorem ztk (k : Nat) (p0 : zd) (s2_7 : Bool) (s2_8 s2_9 : Int) (r : Bool) (h : zJd k p0 s2_7 s2_8 s2_9 = some r) : ev TE 17 (rgn TE 17 6) ⟨(zCx p0 s2_7 s2_8 s2_9 ++ [(44, (xb true))]), ⟨[(zc 1 (za p0))], []⟩, []⟩ = some (.nor, z7c p0 s2_7 s2_8 s2_9 r) := by
 unfold zJd at h
 refine zj h (fun v701 h702 g1 => ?_)
 refine zj g1 (fun v703 h704 g2 => ?_)
 refine zn g2 (fun h705 g3 => ?_) (fun h705 g3 => ?_)
 ·refine zj g3 (fun v706 h707 g4 => ?_)
  refine zj g4 (fun v708 h709 g5 => ?_)
  exact zA (g := fun r => (Ex.nor, z7c p0 s2_7 s2_8 s2_9 r)) g5 (zqe [(17, 6, 3, .q (.d (.pin [(di v701)]))), (17, 6, 6, .c (db v703)), (17, 6, 7, .q (xb true)), (17, 6, 11, .q (.d (.pin [(di v706.Low), (di v706.High)]))), (17, 6, 13, .c (db v708))] [] (ob (o_ia (e := eI) 1 h702 rfl) (ob (zG k v701 s2_8 500 _ h704) (ob (o_b h705) (ob (o_ia (e := zq) 2 h707 rfl) (ob (zch k v706 0 300 _ h709) ob0))))) (by kernel_rfl))
 ·exact zA (g := fun r => (Ex.nor, z7c p0 s2_7 s2_8 s2_9 r)) g3 (zqe [(17, 6, 3, .q (.d (.pin [(di v701)]))), (17, 6, 6, .c (db v703)), (17, 6, 7, .q (xb false))] [] (ob (o_ia (e := eI) 1 h702 rfl) (ob (zG k v701 s2_8 500 _ h704) (ob (o_b h705) ob0))) (by kernel_rfl))
noncomputable def zNl (p0 : zd) (s2_7 : Bool) (s2_8 s2_9 : Int) : St := ⟨(zCx p0 s2_7 s2_8 s2_9), ⟨[(zc 1 (za p0))], []⟩, []⟩
noncomputable def zIB (p0 : zd) (r : zt4) : TM := [(0, (.d (.agg (za p0)))), (zsp 1), (2, (xi 0)), (3, (xb r.1)), (4, (xi r.2.1)), (5, (xi r.2.2)), (44, (xb false))]
noncomputable def z3b (p0 : zd) (r : zt4) : St := ⟨(zIB p0 r), ⟨[(zc 1 (za p0))], []⟩, []⟩
noncomputable def zbl (p0 : zd) : (Bool × Int × Int) → Ex × St := fun r => ((.exit 0), z3b p0 r)
theorem zHg (k : Nat) (p0 : zd) (s2_7 : Bool) (s2_8 s2_9 : Int) (x : (Bool × Int × Int) ⊕ (Bool × Int × Int)) (h : zpb k p0 s2_7 s2_8 s2_9 = some x) : zE TE 17 (blk TE 17 0) (fun s : (Bool × Int × Int) => zNl p0 s.1 s.2.1 s.2.2) (zbl p0) (s2_7, s2_8, s2_9) x := by
 unfold zpb at h
 refine zj h (fun v501 h502 g1 => ?_)
 refine zn g1 (fun h503 g2 => ?_) (fun h503 g2 => ?_)
 ·subst h503
  refine zj g2 (fun v504 h505 g3 => ?_)
  refine zj g3 (fun v506 h507 g4 => ?_)
  exact zqn (v504, v506, (w64 (s2_9 + 1))) [] [(17, 7, 3, .q (.d (.pin [(di v506)])))] [(17, 1000004, (.nor, z7b p0 s2_7 s2_8 s2_9 true)), (17, 1000006, (.nor, z7c p0 s2_7 s2_8 s2_9 v504))] g4 (ob (zAg k p0 s2_7 s2_8 s2_9 _ h502) (ob (ztk k p0 s2_7 s2_8 s2_9 _ h505) (ob (o_ia (e := eI) 1 h507 rfl) ob0))) (by kernel_rfl)
 ·subst h503
  exact zqo [] [(17, 1000004, (.nor, z7b p0 s2_7 s2_8 s2_9 false))] g2 (ob (zAg k p0 s2_7 s2_8 s2_9 _ h502) ob0) (by kernel_rfl)
noncomputable def zgB (p0 : zd) (s7_7 : Bool) (v3 : zt4) (s7_11 : Int) (r : Bool) : TM := [(0, (.d (.agg (za p0)))), (zsp 1), (2, (xi 0)), (3, (xb s7_7)), (4, (xi v3.2.1)), (5, (xi v3.2.2)), (44, (xb false)), (6, (xi s7_11)), (74, (xb r))]
noncomputable def zZb (p0 : zd) (v3 : zt4) (s7_7 : Bool) (s7_11 : Int) (r : Bool) : St := ⟨(zgB p0 s7_7 v3 s7_11 r), ⟨[(zc 1 (za p0))], []⟩, []⟩
noncomputable def zay (p0 : zd) (s7_7 : Bool) (v3 : zt4) (s7_11 : Int) : TM := [(0, (.d (.agg (za p0)))), (zsp 1), (2, (xi 0)), (3, (xb s7_7)), (4, (xi v3.2.1)), (5, (xi v3.2.2)), (44, (xb false)), (6, (xi s7_11))]
theorem zag (k : Nat) (p0 : zd) (v3 : zt4) (s7_7 : Bool) (s7_11 : Int) (r : Bool) (h : zxb k p0 v3 s7_7 s7_11 = some r) : ev TE 17 (rgn TE 17 9) ⟨(zay p0 s7_7 v3 s7_11), ⟨[(zc 1 (za p0))], []⟩, []⟩ = some (.nor, zZb p0 v3 s7_7 s7_11 r) := by
 unfold zxb at h
 refine zn h (fun h1101 g1 => ?_) (fun h1101 g1 => ?_)
 ·exact zA (g := fun r => (Ex.nor, zZb p0 v3 s7_7 s7_11 r)) g1 (zqe [(17, 9, 1, .q (xb true)), (17, 9, 5, .q (xi (p0.Slips.1.length : Int)))] [] (ob (o_b h1101) (ob (zr zl p0.Slips.1) ob0)) (by kernel_rfl))
 ·exact zA (g := fun r => (Ex.nor, zZb p0 v3 s7_7 s7_11 r)) g1 (zqe [(17, 9, 1, .q (xb false))] [] (ob (o_b h1101) ob0) (by kernel_rfl))
noncomputable def zyB (p0 : zd) (r : Bool) (v3 : zt4) (s7_11 : Int) : TM := ztx p0 r ++ [(4, (xi v3.2.1)), (5, (xi v3.2.2)), (44, (xb false)), (6, (xi s7_11)), (74, (xb true)), (zsp 7)]
noncomputable def z0b (p0 : zd) (v3 : zt4) (s7_7 : Bool) (s7_11 : Int) (v1004 : zm) (r : Bool) : St := ⟨(zyB p0 r v3 s7_11), ⟨[(zc 1 (za p0)), (7, (.cells [(.d (dl zi v1004.Lines.1 v1004.Lines.2)), (xi v1004.Until)]))], []⟩, []⟩
theorem z3j (k : Nat) (p0 : zd) (v3 : zt4) (s7_7 : Bool) (s7_11 : Int) (v1004 : zm) (r : Bool) (h : zlc k p0 v3 s7_7 s7_11 v1004 = some r) : ev TE 17 (rgn TE 17 12) ⟨(zay p0 s7_7 v3 s7_11 ++ [(74, (xb true)), (zsp 7)]), ⟨[(zc 1 (za p0)), (7, (.cells [(.d (dl zi v1004.Lines.1 v1004.Lines.2)), (xi v1004.Until)]))], []⟩, []⟩ = some (.nor, z0b p0 v3 s7_7 s7_11 v1004 r) := by
 unfold zlc at h
 refine zj h (fun v1201 h1202 g1 => ?_)
 refine zn g1 (fun h1203 g2 => ?_) (fun h1203 g2 => ?_)
 ·refine zj g2 (fun v1204 h1205 g3 => ?_)
  refine zn g3 (fun h1206 g4 => ?_) (fun h1206 g4 => ?_)
  ·refine zj g4 (fun v1207 h1208 g5 => ?_)
   exact zA (g := fun r => (Ex.nor, z0b p0 v3 s7_7 s7_11 v1004 r)) g5 (zqe [(17, 12, 2, .c (db v1201)), (17, 12, 3, .q (xb true)), (17, 12, 6, .q (xi (v1004.Lines.1.length : Int))), (17, 12, 7, .c (db v1204)), (17, 12, 9, .q (xb true)), (17, 12, 13, .c (db v1207))] [] (ob (zG k v1004.Until 0 100000 _ h1202) (ob (o_b h1203) (ob (zr zi v1004.Lines.1) (ob (zG k (v1004.Lines.1.length : Int) 1 12 _ h1205) (ob (o_b h1206) (ob (zTm k p0 v1004.Lines _ h1208) ob0)))))) (by kernel_rfl))
  ·exact zA (g := fun r => (Ex.nor, z0b p0 v3 s7_7 s7_11 v1004 r)) g4 (zqe [(17, 12, 2, .c (db v1201)), (17, 12, 3, .q (xb true)), (17, 12, 6, .q (xi (v1004.Lines.1.length : Int))), (17, 12, 7, .c (db v1204)), (17, 12, 9, .q (xb false))] [] (ob (zG k v1004.Until 0 100000 _ h1202) (ob (o_b h1203) (ob (zr zi v1004.Lines.1) (ob (zG k (v1004.Lines.1.length : Int) 1 12 _ h1205) (ob (o_b h1206) ob0))))) (by kernel_rfl))
 ·exact zA (g := fun r => (Ex.nor, z0b p0 v3 s7_7 s7_11 v1004 r)) g2 (zqe [(17, 12, 2, .c (db v1201)), (17, 12, 3, .q (xb false))] [] (ob (zG k v1004.Until 0 100000 _ h1202) (ob (o_b h1203) ob0)) (by kernel_rfl))
noncomputable def zdl (p0 : zd) (v3 : zt4) (s7_7 : Bool) (s7_11 : Int) : St := ⟨(zay p0 s7_7 v3 s7_11), ⟨[(zc 1 (za p0))], []⟩, []⟩
noncomputable def ziB (p0 : zd) (r : zt9) (v3 : zt4) : TM := [(0, (.d (.agg (za p0)))), (zsp 1), (2, (xi 0)), (3, (xb r.1)), (4, (xi v3.2.1)), (5, (xi v3.2.2)), (44, (xb false)), (6, (xi r.2)), (74, (xb false))]
noncomputable def z4b (p0 : zd) (v3 : zt4) (r : zt9) : St := ⟨(ziB p0 r v3), ⟨[(zc 1 (za p0))], []⟩, []⟩
noncomputable def zMl (p0 : zd) (v3 : zt4) : (Bool × Int) → Ex × St := fun r => ((.exit 2), z4b p0 v3 r)
theorem zrg (k : Nat) (p0 : zd) (v3 : zt4) (s7_7 : Bool) (s7_11 : Int) (x : (Bool × Int) ⊕ (Bool × Int)) (h : zob k p0 v3 s7_7 s7_11 = some x) : zE TE 17 (blk TE 17 2) (fun s : (Bool × Int) => zdl p0 v3 s.1 s.2) (zMl p0 v3) (s7_7, s7_11) x := by
 unfold zob at h
 refine zj h (fun v1001 h1002 g1 => ?_)
 refine zn g1 (fun h1003 g2 => ?_) (fun h1003 g2 => ?_)
 ·subst h1003
  refine zj g2 (fun v1004 h1005 g3 => ?_)
  refine zj g3 (fun v1006 h1007 g4 => ?_)
  exact zqn (v1006, (w64 (s7_11 + 1))) [] [(17, 11, 3, .q (.d (.pin [(dl zi v1004.Lines.1 v1004.Lines.2), (di v1004.Until)])))] [(17, 1000009, (.nor, zZb p0 v3 s7_7 s7_11 true)), (17, 1000012, (.nor, z0b p0 v3 s7_7 s7_11 v1004 v1006))] g4 (ob (zag k p0 v3 s7_7 s7_11 _ h1002) (ob (o_ia (e := zl) 2 h1005 rfl) (ob (z3j k p0 v3 s7_7 s7_11 v1004 _ h1007) ob0))) (by kernel_rfl)
 ·subst h1003
  exact zqo [] [(17, 1000009, (.nor, zZb p0 v3 s7_7 s7_11 false))] g2 (ob (zag k p0 v3 s7_7 s7_11 _ h1002) ob0) (by kernel_rfl)
theorem zTb (k : Nat) (p0 : zd) (r : Int) (h : zwc k p0 = some r) : zB TE (ev TE) 17 [(.agg (za p0))] = some (zyf r) := by
 unfold zwc at h
 refine zj h (fun v1 h2 g1 => ?_)
 refine zj g1 (fun v3 h4 g2 => ?_)
 refine zj g2 (fun v5 h6 g3 => ?_)
 refine zn g3 (fun h7 g4 => ?_) (fun h7 g4 => ?_)
 ·exact zy (g := zyf) g4 (zqc [(17, 13, 1, .q (xb true))] [(17, 1000001, (.nor, zbb p0 v1)), (17, 0, (.nor, z3b p0 v3)), (17, 2, (.nor, z4b p0 v3 v5))] (ob (ztg k p0 _ h2) (ob (zx (id := 0) (r' := (.nor, z3b p0 v3)) (zyo (zHg k p0) k _ _ h4) rfl) (ob (zx (id := 2) (r' := (.nor, z4b p0 v3 v5)) (zkb (zrg k p0 v3) k _ _ h6) rfl) (ob (o_b h7) ob0)))) (by kernel_rfl))
 ·exact zy (g := zyf) g4 (zqc [(17, 13, 1, .q (xb false))] [(17, 1000001, (.nor, zbb p0 v1)), (17, 0, (.nor, z3b p0 v3)), (17, 2, (.nor, z4b p0 v3 v5))] (ob (ztg k p0 _ h2) (ob (zx (id := 0) (r' := (.nor, z3b p0 v3)) (zyo (zHg k p0) k _ _ h4) rfl) (ob (zx (id := 2) (r' := (.nor, z4b p0 v3 v5)) (zkb (zrg k p0 v3) k _ _ h6) rfl) (ob (o_b h7) ob0)))) (by kernel_rfl))
theorem zkh (k : Nat) (p0 : zd) (p1 : Bool) (r : Int) (h : zWb k p0 p1 = some r) : zB TE (ev TE) 58 [(.agg (za p0)), (db p1)] = some (zTd r) := by
 unfold zWb at h
 refine zj h (fun v1 h2 g1 => ?_)
 refine zn g1 (fun h3 g2 => ?_) (fun h3 g2 => ?_)
 ·exact zy (g := zTd) g2 (zqc [(58, 1, 1, .c (di v1)), (58, 2, 1, .q (xb true))] [] (ob (zTb k p0 _ h2) (ob (o_b h3) ob0)) (by kernel_rfl))
 ·refine zn g2 (fun h4 g3 => ?_) (fun h4 g3 => ?_)
  ·exact zy (g := zTd) g3 (zqc [(58, 1, 1, .c (di v1)), (58, 2, 1, .q (xb false)), (58, 4, 1, .q (xb true))] [] (ob (zTb k p0 _ h2) (ob (o_b h3) (ob (o_b h4) ob0))) (by kernel_rfl))
  ·exact zy (g := zTd) g3 (zqc [(58, 1, 1, .c (di v1)), (58, 2, 1, .q (xb false)), (58, 4, 1, .q (xb false))] [] (ob (zTb k p0 _ h2) (ob (o_b h3) (ob (o_b h4) ob0))) (by kernel_rfl))
theorem zX (k : Nat) (p0 p1 : Int) (r : zp) (h : zK k p0 p1 = some r) : zB TE (ev TE) 44 [(di p0), (di p1)] = some (zLj r) := by
 unfold zK at h
 exact zy (g := zLj) h (zqc [] [] ob0 (by kernel_rfl))
noncomputable def z9B (p0 : zd) (p1 : Int) (v1 : zm) (r : (Int × Int × Bool)) (s1_11 s4_13 : Int) : TM := [(0, (.d (.agg (za p0)))), (1, (xi p1)), (zsp 2), (4, (xi 0)), (5, (.d (dl zi v1.Lines.1 v1.Lines.2))), (6, (xi r.1)), (7, (xi r.2.1)), (8, (xi s1_11)), (20, (xb true)), (9, (xi s4_13)), (29, (xb true)), (33, (xb r.2.2))]
noncomputable def zed (p0 : zd) (p1 : Int) (v1 : zm) (s1_11 s4_9 s4_10 s4_13 : Int) (cb : Bool) (r : (Int × Int × Bool)) : St := ⟨(z9B p0 p1 v1 r s1_11 s4_13), ⟨[(zc 2 (za p0))], []⟩, []⟩
noncomputable def zjC (p0 : zd) (p1 : Int) (v1 : zm) (s4_9 s4_10 s1_11 s4_13 : Int) (cb : Bool) : TM := [(0, (.d (.agg (za p0)))), (1, (xi p1)), (zsp 2), (4, (xi 0)), (5, (.d (dl zi v1.Lines.1 v1.Lines.2))), (6, (xi s4_9)), (7, (xi s4_10)), (8, (xi s1_11)), (20, (xb true)), (9, (xi s4_13)), (29, (xb true)), (33, (xb cb))]
theorem zxk (k : Nat) (p0 : zd) (p1 : Int) (v1 : zm) (s1_11 s4_9 s4_10 s4_13 : Int) (cb : Bool) (r : (Int × Int × Bool)) (h : zKc k p0 p1 v1 s1_11 s4_9 s4_10 s4_13 cb = some r) : ev TE 65 (cnd TE 65 33) ⟨(zjC p0 p1 v1 s4_9 s4_10 s1_11 s4_13 cb), ⟨[(zc 2 (za p0))], []⟩, []⟩ = some (.nor, zed p0 p1 v1 s1_11 s4_9 s4_10 s4_13 cb r) := by
 unfold zKc at h
 refine zn h (fun h701 g1 => ?_) (fun h701 g1 => ?_)
 ·subst h701
  refine zj g1 (fun v702 h703 g2 => ?_)
  refine zj g2 (fun v704 h705 g3 => ?_)
  exact zA (g := fun r => (Ex.nor, zed p0 p1 v1 s1_11 s4_9 s4_10 s4_13 true r)) g3 (zqe [(65, 10, 5, .q (.d (.pin [(di v702.Shelf), (di v702.Many)]))), (65, 10, 8, .q (.d (.pin [(di v704)])))] [] (ob (o_ia (e := zi) 2 h703 rfl) (ob (o_ia (e := eI) 1 h705 rfl) ob0)) (by kernel_rfl))
 ·subst h701
  exact zA (g := fun r => (Ex.nor, zed p0 p1 v1 s1_11 s4_9 s4_10 s4_13 false r)) g1 (zqe [] [] ob0 (by kernel_rfl))
noncomputable def z1B (p0 : zd) (p1 : Int) (v1 : zm) (s4_9 s4_10 s1_11 s4_13 : Int) : TM := [(0, (.d (.agg (za p0)))), (1, (xi p1)), (zsp 2), (4, (xi 0)), (5, (.d (dl zi v1.Lines.1 v1.Lines.2))), (6, (xi s4_9)), (7, (xi s4_10)), (8, (xi s1_11)), (20, (xb true)), (9, (xi s4_13))]
noncomputable def z7k (p0 : zd) (p1 : Int) (v1 : zm) (s1_11 s4_9 s4_10 s4_13 : Int) : St := ⟨(z1B p0 p1 v1 s4_9 s4_10 s1_11 s4_13), ⟨[(zc 2 (za p0))], []⟩, []⟩
noncomputable def zjB (p0 : zd) (p1 : Int) (v1 : zm) (r : (Int × Int × Int)) (s1_11 : Int) : TM := [(0, (.d (.agg (za p0)))), (1, (xi p1)), (zsp 2), (4, (xi 0)), (5, (.d (dl zi v1.Lines.1 v1.Lines.2))), (6, (xi r.1)), (7, (xi r.2.1)), (8, (xi s1_11)), (20, (xb true)), (9, (xi r.2.2)), (29, (xb false))]
noncomputable def zfe (p0 : zd) (p1 : Int) (v1 : zm) (s1_11 : Int) (r : (Int × Int × Int)) : St := ⟨(zjB p0 p1 v1 r s1_11), ⟨[(zc 2 (za p0))], []⟩, []⟩
noncomputable def zcl (p0 : zd) (p1 : Int) (v1 : zm) (s1_11 : Int) : (Int × Int × Int) → Ex × St := fun r => ((.exit 2), zfe p0 p1 v1 s1_11 r)
theorem zpk (k : Nat) (p0 : zd) (p1 : Int) (v1 : zm) (s1_11 s4_9 s4_10 s4_13 : Int) (x : (Int × Int × Int) ⊕ (Int × Int × Int)) (h : zDc k p0 p1 v1 s1_11 s4_9 s4_10 s4_13 = some x) : zE TE 65 (blk TE 65 2) (fun s : (Int × Int × Int) => z7k p0 p1 v1 s1_11 s.1 s.2.1 s.2.2) (zcl p0 p1 v1 s1_11) (s4_9, s4_10, s4_13) x := by
 unfold zDc at h
 refine zj h (fun v601 h602 g1 => ?_)
 refine zn g1 (fun h603 g2 => ?_) (fun h603 g2 => ?_)
 ·refine zj g2 (fun v604 h605 g3 => ?_)
  exact zqn (v604.1, (w64 (v604.2.1 - 1)), (w64 (s4_13 + 1))) [] [(65, 7, 3, .q (.d (.pin [(di v601.Shelf), (di v601.Many)]))), (65, 7, 6, .q (xb true))] [(65, 2000033, (.nor, zed p0 p1 v1 s1_11 s4_9 s4_10 s4_13 (s4_10 == 0) v604))] g3 (ob (o_ia (e := zi) 2 h602 rfl) (ob (o_b h603) (ob (zxk k p0 p1 v1 s1_11 s4_9 s4_10 s4_13 (s4_10 == 0) _ h605) ob0))) (by kernel_rfl)
 ·exact zqo [(65, 7, 3, .q (.d (.pin [(di v601.Shelf), (di v601.Many)]))), (65, 7, 6, .q (xb false))] [] g2 (ob (o_ia (e := zi) 2 h602 rfl) (ob (o_b h603) ob0)) (by kernel_rfl)
noncomputable def zlB (p0 : zd) (p1 : Int) (v1 : zm) (s1_9 s1_10 s1_11 : Int) : TM := [(0, (.d (.agg (za p0)))), (1, (xi p1)), (zsp 2), (4, (xi 0)), (5, (.d (dl zi v1.Lines.1 v1.Lines.2))), (6, (xi s1_9)), (7, (xi s1_10)), (8, (xi s1_11))]
noncomputable def z5k (p0 : zd) (p1 : Int) (v1 : zm) (s1_9 s1_10 s1_11 : Int) : St := ⟨(zlB p0 p1 v1 s1_9 s1_10 s1_11), ⟨[(zc 2 (za p0))], []⟩, []⟩
noncomputable def zNB (p0 : zd) (p1 : Int) (v1 : zm) (r : (Int × Int × Int)) : TM := [(0, (.d (.agg (za p0)))), (1, (xi p1)), (zsp 2), (4, (xi 0)), (5, (.d (dl zi v1.Lines.1 v1.Lines.2))), (6, (xi r.1)), (7, (xi r.2.1)), (8, (xi r.2.2)), (20, (xb false))]
noncomputable def z7d (p0 : zd) (p1 : Int) (v1 : zm) (r : (Int × Int × Int)) : St := ⟨(zNB p0 p1 v1 r), ⟨[(zc 2 (za p0))], []⟩, []⟩
noncomputable def z0l (p0 : zd) (p1 : Int) (v1 : zm) : (Int × Int × Int) → Ex × St := fun r => ((.exit 0), z7d p0 p1 v1 r)
theorem zAk (k : Nat) (p0 : zd) (p1 : Int) (v1 : zm) (s1_9 s1_10 s1_11 : Int) (x : (Int × Int × Int) ⊕ (Int × Int × Int)) (h : zPc k p0 p1 v1 s1_9 s1_10 s1_11 = some x) : zE TE 65 (blk TE 65 0) (fun s : (Int × Int × Int) => z5k p0 p1 v1 s.1 s.2.1 s.2.2) (z0l p0 p1 v1) (s1_9, s1_10, s1_11) x := by
 unfold zPc at h
 refine zn h (fun h401 g1 => ?_) (fun h401 g1 => ?_)
 ·refine zj g1 (fun v402 h403 g2 => ?_)
  exact zqn (v402.1, v402.2.1, (w64 (s1_11 - 1))) [] [(65, 4, 1, .q (xb true))] [(65, 2, (.nor, zfe p0 p1 v1 s1_11 v402))] g2 (ob (o_b h401) (ob (zx (id := 2) (r' := (.nor, zfe p0 p1 v1 s1_11 v402)) (zyo (zpk k p0 p1 v1 s1_11) k _ _ h403) rfl) ob0)) (by kernel_rfl)
 ·exact zqo [(65, 4, 1, .q (xb false))] [] g1 (ob (o_b h401) ob0) (by kernel_rfl)
theorem z5m (k : Nat) (p0 : zd) (p1 r : Int) (h : zyd k p0 p1 = some r) : zB TE (ev TE) 65 [(.agg (za p0)), (di p1)] = some (zei r) := by
 unfold zyd at h
 refine zj h (fun v1 h2 g1 => ?_)
 refine zj g1 (fun v3 h4 g2 => ?_)
 exact zy (g := zei) g2 (zqc [(65, 1, 3, .q (.d (.pin [(dl zi v1.Lines.1 v1.Lines.2), (di v1.Until)]))), (65, 3, 1, .q (xi (v1.Lines.1.length : Int)))] [(65, 0, (.nor, z7d p0 p1 v1 v3))] (ob (o_ia (e := zl) 2 h2 rfl) (ob (zr zi v1.Lines.1) (ob (zx (id := 0) (r' := (.nor, z7d p0 p1 v1 v3)) (zyo (zAk k p0 p1 v1) k _ _ h4) rfl) ob0))) (by kernel_rfl))
noncomputable def zhC (p0 : zd) (p1 v1 : Int) (v5 : zm) (s1_9 : Int) : TM := [(0, (.d (.agg (za p0)))), (1, (xi p1)), (zsp 2), (zsp 4), (5, (xi v1)), (zsp 6), (7, (.d (dl zi v5.Lines.1 v5.Lines.2))), (8, (xi s1_9))]
noncomputable def zwl (p0 : zd) (p1 v1 : Int) (v5 : zm) (s1_9 s1_18 s1_19 : Int) : St := ⟨(zhC p0 p1 v1 v5 s1_9), ⟨[(zc 2 (za p0)), (4, (.cells [(xi 0), (xi 0)])), (6, (.cells [(xi s1_18), (xi s1_19)]))], []⟩, []⟩
noncomputable def zMB (p0 : zd) (p1 v1 : Int) (v5 : zm) (r : (Int × Int × Int)) : TM := [(0, (.d (.agg (za p0)))), (1, (xi p1)), (zsp 2), (zsp 4), (5, (xi v1)), (zsp 6), (7, (.d (dl zi v5.Lines.1 v5.Lines.2))), (8, (xi r.1)), (33, (xb false))]
noncomputable def z4d (p0 : zd) (p1 v1 : Int) (v5 : zm) (r : (Int × Int × Int)) : St := ⟨(zMB p0 p1 v1 v5 r), ⟨[(zc 2 (za p0)), (4, (.cells [(xi 0), (xi 0)])), (6, (.cells [(xi r.2.1), (xi r.2.2)]))], []⟩, []⟩
noncomputable def z1l (p0 : zd) (p1 v1 : Int) (v5 : zm) : (Int × Int × Int) → Ex × St := fun r => ((.exit 0), z4d p0 p1 v1 v5 r)
theorem zzk (k : Nat) (p0 : zd) (p1 v1 : Int) (v5 : zm) (s1_9 s1_18 s1_19 : Int) (x : (Int × Int × Int) ⊕ (Int × Int × Int)) (h : zQc k p0 p1 v1 v5 s1_9 s1_18 s1_19 = some x) : zE TE 67 (blk TE 67 0) (fun s : (Int × Int × Int) => zwl p0 p1 v1 v5 s.1 s.2.1 s.2.2) (z1l p0 p1 v1 v5) (s1_9, s1_18, s1_19) x := by
 unfold zQc at h
 refine zn h (fun h201 g1 => ?_) (fun h201 g1 => ?_)
 ·refine zj g1 (fun v202 h203 g2 => ?_)
  refine zj g2 (fun v204 h205 g3 => ?_)
  refine zj g3 (fun v206 h207 g4 => ?_)
  refine zj g4 (fun v208 h209 g5 => ?_)
  refine zj g5 (fun v210 h211 g6 => ?_)
  exact zqn ((w64 (s1_9 + 1)), v210.Low, v210.High) [] [(67, 5, 2, .q (xi (v5.Lines.1.length : Int))), (67, 5, 3, .q (xb true)), (67, 7, 4, .q (.d (.pin [(di v202.Shelf), (di v202.Many)]))), (67, 7, 7, .q (.d (.pin [(di v204.Low), (di v204.High)]))), (67, 8, 4, .q (.d (.pin [(di v206.Shelf), (di v206.Many)]))), (67, 8, 15, .q (.d (.pin [(di v208.Shelf), (di v208.Many)]))), (67, 8, 22, .c (.agg [(di v210.Low), (di v210.High)]))] [] g6 (ob (zr zi v5.Lines.1) (ob (o_b h201) (ob (o_ia (e := zi) 2 h203 rfl) (ob (o_ia (e := zq) 2 h205 rfl) (ob (o_ia (e := zi) 2 h207 rfl) (ob (o_ia (e := zi) 2 h209 rfl) (ob (zX k (w64 (s1_18 + (w64 (v206.Many * v204.Low)))) (w64 (s1_19 + (w64 (v208.Many * v204.High)))) _ h211) ob0))))))) (by kernel_rfl)
 ·exact zqo [(67, 5, 2, .q (xi (v5.Lines.1.length : Int))), (67, 5, 3, .q (xb false))] [] g1 (ob (zr zi v5.Lines.1) (ob (o_b h201) ob0)) (by kernel_rfl)
theorem zef (k : Nat) (p0 : zd) (p1 : Int) (r : zp) (h : zxc k p0 p1 = some r) : zB TE (ev TE) 67 [(.agg (za p0)), (di p1)] = some (z8h r) := by
 unfold zxc at h
 refine zj h (fun v1 h2 g1 => ?_)
 refine zj g1 (fun v3 h4 g2 => ?_)
 refine zj g2 (fun v5 h6 g3 => ?_)
 refine zj g3 (fun v7 h8 g4 => ?_)
 exact zy (g := z8h) g4 (zqc [(67, 1, 2, .c (di v1)), (67, 2, 10, .c (.agg [(di v3.Low), (di v3.High)])), (67, 3, 3, .q (.d (.pin [(dl zi v5.Lines.1 v5.Lines.2), (di v5.Until)])))] [(67, 0, (.nor, z4d p0 p1 v1 v5 v7))] (ob (z5m k p0 p1 _ h2) (ob (zX k (w64 (v1 * p0.Step.Low)) (w64 (v1 * p0.Step.High)) _ h4) (ob (o_ia (e := zl) 2 h6 rfl) (ob (zx (id := 0) (r' := (.nor, z4d p0 p1 v1 v5 v7)) (zyo (zzk k p0 p1 v1 v5) k _ _ h8) rfl) ob0)))) (by kernel_rfl))
noncomputable def z3B (p0 : zd) (p1 : (SL (SL Int))) (r : Int) : TM := [(0, (.d (.agg (za p0)))), (1, (.d (dl (eL eI) p1.1 p1.2))), (zsp 2), (4, (.d (.sl [] .nil))), (5, (xi 0)), (6, (xi r))]
noncomputable def zjc (p0 : zd) (p1 : (SL (SL Int))) (r : Int) : St := ⟨(z3B p0 p1 r), ⟨[(zc 2 (za p0))], []⟩, []⟩
noncomputable def zuu (p0 : zd) (p1 : (SL (SL Int))) : TM := [(0, (.d (.agg (za p0)))), (1, (.d (dl (eL eI) p1.1 p1.2))), (zsp 2), (4, (.d (.sl [] .nil))), (5, (xi 0))]
theorem zNg (k : Nat) (p0 : zd) (p1 : (SL (SL Int))) (r : Int) (h : z0c k p0 p1 = some r) : ev TE 26 (rgn TE 26 1) ⟨(zuu p0 p1), ⟨[(zc 2 (za p0))], []⟩, []⟩ = some (.nor, zjc p0 p1 r) := by
 unfold z0c at h
 refine zj h (fun v201 h202 g1 => ?_)
 refine zn g1 (fun h203 g2 => ?_) (fun h203 g2 => ?_)
 ·refine zj g2 (fun v204 h205 g3 => ?_)
  refine zj g3 (fun v206 h207 g4 => ?_)
  exact zA (g := fun r => (Ex.nor, zjc p0 p1 r)) g4 (zqe [(26, 1, 2, .q (xi (p1.1.length : Int))), (26, 1, 3, .c (db v201)), (26, 1, 4, .q (xb true)), (26, 1, 7, .c (db v204)), (26, 1, 9, .c (di v206))] [] (ob (zr (eL eI) p1.1) (ob (zG k (p1.1.length : Int) 1 5 _ h202) (ob (o_b h203) (ob (zwk k p0 p1 _ h205) (ob (zkh k p0 v204 _ h207) ob0))))) (by kernel_rfl))
 ·refine zj g2 (fun v204 h205 g3 => ?_)
  exact zA (g := fun r => (Ex.nor, zjc p0 p1 r)) g3 (zqe [(26, 1, 2, .q (xi (p1.1.length : Int))), (26, 1, 3, .c (db v201)), (26, 1, 4, .q (xb false)), (26, 1, 9, .c (di v204))] [] (ob (zr (eL eI) p1.1) (ob (zG k (p1.1.length : Int) 1 5 _ h202) (ob (o_b h203) (ob (zkh k p0 false _ h205) ob0)))) (by kernel_rfl))
noncomputable def zWB (p0 : zd) (p1 : (SL (SL Int))) (v1 : Int) (s4_20 : zt16) (s2_11 s4_13 : Int) : TM := zuu p0 p1 ++ [(6, (xi v1)), (23, (xb false)), (7, (.row 0 28 s4_20.length)), (8, (xi s2_11)), (32, (xb true)), (zsp 9), (10, (xi s4_13))]
noncomputable def z9l (p0 : zd) (p1 : (SL (SL Int))) (v1 s2_11 s4_13 : Int) (s4_20 : zt16) (s4_22 s4_23 : Int) : St := ⟨(zWB p0 p1 v1 s4_20 s2_11 s4_13), ⟨[(zc 2 (za p0)), (28, (rowO false 2 zq s4_20 true)), (9, (.cells [(xi s4_22), (xi s4_23)]))], []⟩, []⟩
noncomputable def zfB (p0 : zd) (p1 : (SL (SL Int))) (v1 : Int) (r : (Int × (List zp) × Int × Int)) (s2_11 : Int) : TM := zuu p0 p1 ++ [(6, (xi v1)), (23, (xb false)), (7, (.row 0 28 r.2.1.length)), (8, (xi s2_11)), (32, (xb true)), (zsp 9), (10, (xi r.1)), (42, (xb false))]
noncomputable def zue (p0 : zd) (p1 : (SL (SL Int))) (v1 s2_11 : Int) (r : (Int × (List zp) × Int × Int)) : St := ⟨(zfB p0 p1 v1 r s2_11), ⟨[(zc 2 (za p0)), (28, (rowO false 2 zq r.2.1 true)), (9, (.cells [(xi r.2.2.1), (xi r.2.2.2)]))], []⟩, []⟩
noncomputable def zjm (p0 : zd) (p1 : (SL (SL Int))) (v1 s2_11 : Int) : (Int × (List zp) × Int × Int) → Ex × St := fun r => ((.exit 2), zue p0 p1 v1 s2_11 r)
theorem znl (k : Nat) (p0 : zd) (p1 : (SL (SL Int))) (v1 s2_11 s4_13 : Int) (s4_20 : zt16) (s4_22 s4_23 : Int) (x : (Int × (List zp) × Int × Int) ⊕ (Int × (List zp) × Int × Int)) (h : z5b k p0 p1 v1 s2_11 s4_13 s4_20 s4_22 s4_23 = some x) : zE TE 26 (blk TE 26 2) (fun s : (Int × (List zp) × Int × Int) => z9l p0 p1 v1 s2_11 s.1 s.2.1 s.2.2.1 s.2.2.2) (zjm p0 p1 v1 s2_11) (s4_13, s4_20, s4_22, s4_23) x := by
 unfold z5b at h
 refine zj h (fun v501 h502 g1 => ?_)
 refine zn g1 (fun h503 g2 => ?_) (fun h503 g2 => ?_)
 ·refine zj g2 (fun v504 h505 g3 => ?_)
  refine zj g3 (fun v506 h507 g4 => ?_)
  refine zj g4 (fun v508 h509 g5 => ?_)
  refine zj g5 (fun v510 h511 g6 => ?_)
  refine zj g6 (fun v512 h513 g7 => ?_)
  refine zj g7 (fun v514 h515 g8 => ?_)
  refine zj g8 (fun v516 h517 g9 => ?_)
  exact zqn ((w64 (s4_13 + 1)), (s4_20.set v514.toNat v510), v510.Low, v510.High) [28] [(26, 10, 3, .q (.d (.pin [(dl eI v501.1 v501.2)]))), (26, 10, 5, .q (xi (v501.1.length : Int))), (26, 10, 6, .q (xb true)), (26, 12, 3, .q (.d (.pin [(dl eI v504.1 v504.2)]))), (26, 12, 6, .q (.d (.pin [(di v506)]))), (26, 12, 8, .c (.agg [(di v508.Low), (di v508.High)])), (26, 13, 10, .c (.agg [(di v510.Low), (di v510.High)])), (26, 14, 3, .q (.d (.pin [(dl eI v512.1 v512.2)]))), (26, 14, 6, .q (.d (.pin [(di v514)]))), (26, 14, 9, .q (.rp 0 28 s4_20.length v514.toNat 0)), (26, 14, 10, .rs (rowO false 2 zq (s4_20.set v514.toNat v510) true)), (26, 14, 999, .nm [(7, (s4_20.set v514.toNat v510).length)] [])] [] g9 (ob (o_ia (e := (eL eI)) 1 h502 rfl) (ob (zr eI v501.1) (ob (o_b h503) (ob (o_ia (e := (eL eI)) 1 h505 rfl) (ob (o_ia (e := eI) 1 h507 rfl) (ob (zef k p0 v506 _ h509) (ob (zX k (w64 (s4_22 + v508.Low)) (w64 (s4_23 + v508.High)) _ h511) (ob (o_ia (e := (eL eI)) 1 h513 rfl) (ob (o_ia (e := eI) 1 h515 rfl) (ob (zqa 25 16 0 28 v514 false 2 zq s4_20 true (by kernel_rfl) (by kernel_rfl) h517) (ob (o_rs (b := false) (z := 2) (e := zq) (l := s4_20) (o := 0) (n := 2) (ds := [(di v510.Low), (di v510.High)]) (i := v514) (y' := v510) h517 (Nat.le_of_ble_eq_true rfl) rfl) (ob (show s4_20.length = (s4_20.set v514.toNat v510).length by simp) (ob (zlf false 2 zq (s4_20.set v514.toNat v510) true) ob0))))))))))))) (by kernel_rfl)
 ·exact zqo [(26, 10, 3, .q (.d (.pin [(dl eI v501.1 v501.2)]))), (26, 10, 5, .q (xi (v501.1.length : Int))), (26, 10, 6, .q (xb false))] [] g2 (ob (o_ia (e := (eL eI)) 1 h502 rfl) (ob (zr eI v501.1) (ob (o_b h503) ob0))) (by kernel_rfl)
noncomputable def zqC (p0 : zd) (p1 : (SL (SL Int))) (v1 : Int) (s2_18 : zt16) (s2_11 : Int) : TM := zuu p0 p1 ++ [(6, (xi v1)), (23, (xb false)), (7, (.row 0 28 s2_18.length)), (8, (xi s2_11))]
noncomputable def zem (p0 : zd) (p1 : (SL (SL Int))) (v1 s2_11 : Int) (s2_18 : zt16) : St := ⟨(zqC p0 p1 v1 s2_18 s2_11), ⟨[(zc 2 (za p0)), (28, (rowO false 2 zq s2_18 true))], []⟩, []⟩
noncomputable def zsC (p0 : zd) (p1 : (SL (SL Int))) (v1 : Int) (r : (Int × (List zp))) : TM := zuu p0 p1 ++ [(6, (xi v1)), (23, (xb false)), (7, (.row 0 28 r.2.length)), (8, (xi r.1)), (32, (xb false))]
noncomputable def zye (p0 : zd) (p1 : (SL (SL Int))) (v1 : Int) (r : (Int × (List zp))) : St := ⟨(zsC p0 p1 v1 r), ⟨[(zc 2 (za p0)), (28, (rowO false 2 zq r.2 true))], []⟩, []⟩
noncomputable def z8l (p0 : zd) (p1 : (SL (SL Int))) (v1 : Int) : (Int × (List zp)) → Ex × St := fun r => ((.exit 0), zye p0 p1 v1 r)
theorem zvl (k : Nat) (p0 : zd) (p1 : (SL (SL Int))) (v1 s2_11 : Int) (s2_18 : zt16) (x : (Int × (List zp)) ⊕ (Int × (List zp))) (h : zUc k p0 p1 v1 s2_11 s2_18 = some x) : zE TE 26 (blk TE 26 0) (fun s : (Int × (List zp)) => zem p0 p1 v1 s.1 s.2) (z8l p0 p1 v1) (s2_11, s2_18) x := by
 unfold zUc at h
 refine zn h (fun h401 g1 => ?_) (fun h401 g1 => ?_)
 ·refine zj g1 (fun v402 h403 g2 => ?_)
  refine zj g2 (fun v404 h405 g3 => ?_)
  exact zqn ((w64 (s2_11 + 1)), v404.2.1) [28] [(26, 6, 2, .q (xi (p1.1.length : Int))), (26, 6, 3, .q (xb true)), (26, 8, 0, .c (.agg [(di v402.Low), (di v402.High)]))] [(26, 2, (.nor, zue p0 p1 v1 s2_11 v404))] g3 (ob (zr (eL eI) p1.1) (ob (o_b h401) (ob (zX k 0 0 _ h403) (ob (zx (id := 2) (r' := (.nor, zue p0 p1 v1 s2_11 v404)) (zdq (znl k p0 p1 v1 s2_11) k _ _ h405) rfl) (ob (zlf false 2 zq v404.2.1 true) ob0))))) (by kernel_rfl)
 ·exact zqo [(26, 6, 2, .q (xi (p1.1.length : Int))), (26, 6, 3, .q (xb false))] [] g1 (ob (zr (eL eI) p1.1) (ob (o_b h401) ob0)) (by kernel_rfl)
theorem z4h (k : Nat) (p0 : zd) (p1 : (SL (SL Int))) (r : zt8) (h : zVc k p0 p1 = some r) : zB TE (ev TE) 26 [(.agg (za p0)), (dl (eL eI) p1.1 p1.2)] = some (z5f r) := by
 unfold zVc at h
 refine zj h (fun v1 h2 g1 => ?_)
 refine zn g1 (fun h3 g2 => ?_) (fun h3 g2 => ?_)
 ·exact zy (g := z5f) g2 (zqc [(26, 2, 1, .q (xb true))] [(26, 1000001, (.nor, zjc p0 p1 v1))] (ob (zNg k p0 p1 _ h2) (ob (o_b h3) ob0)) (by kernel_rfl))
 ·refine zO g2 (fun h4 g3 => ?_)
  refine zj g3 (fun v5 h6 g4 => ?_)
  exact zy (g := z5f) g4 (zqr [(26, 2, 1, .q (xb false)), (26, 4, 2, .q (xi (p0.Slips.1.length : Int))), (26, 4, 3, .ms (List.replicate (p0.Slips.1.length : Int).toNat (⟨0, 0⟩ : zp) : List zp).length ((List.replicate (p0.Slips.1.length : Int).toNat (⟨0, 0⟩ : zp) : List zp).map zq))] [(26, 1000001, (.nor, zjc p0 p1 v1)), (26, 0, (.nor, zye p0 p1 v1 v5))] [(dl zq v5.2 (rcap false v5.2)), (di 0)] (ob (zNg k p0 p1 _ h2) (ob (o_b h3) (ob (zr zl p0.Slips.1) (ob (o_ms (z := 0) (n := (p0.Slips.1.length : Int)) (⟨0, 0⟩ : zp) h4) (ob (by simp : (p0.Slips.1.length : Int).toNat = (List.replicate (p0.Slips.1.length : Int).toNat (⟨0, 0⟩ : zp) : List zp).length) (ob (zLq (e := zq) (p0.Slips.1.length : Int).toNat (⟨0, 0⟩ : zp)) (ob (zx (id := 0) (r' := (.nor, zye p0 p1 v1 v5)) (zkb (zvl k p0 p1 v1) k _ _ h6) rfl) (ob (show zcc ⟨[(28, (rowO false 2 zq v5.2 true))], []⟩ _ = _ from (o_s1 (x := (.row 0 28 v5.2.length)) (znm false 2 zq v5.2 true rfl) (o_s1 (x := (xi 0)) rfl o_s0))) ob0)))))))) (by kernel_rfl))
noncomputable def zTB (p0 p1 : (SL zp)) (s1_3 : Bool) (s1_4 : Int) (r : Bool) : TM := [(0, (.d (dl zq p0.1 p0.2))), (1, (.d (dl zq p1.1 p1.2))), (4, (xb false)), (5, (xb s1_3)), (6, (xi s1_4)), (18, (xb r))]
noncomputable def zCb (p0 p1 : (SL zp)) (s1_3 : Bool) (s1_4 : Int) (r : Bool) : St := ⟨(zTB p0 p1 s1_3 s1_4 r), ⟨[], []⟩, []⟩
noncomputable def zhz (p0 p1 : (SL zp)) (s1_3 : Bool) (s1_4 : Int) : TM := [(0, (.d (dl zq p0.1 p0.2))), (1, (.d (dl zq p1.1 p1.2))), (4, (xb false)), (5, (xb s1_3)), (6, (xi s1_4))]
theorem z2e (k : Nat) (p0 p1 : (SL zp)) (s1_3 : Bool) (s1_4 : Int) (r : Bool) (h : zLb k p0 p1 s1_3 s1_4 = some r) : ev TE 27 (rgn TE 27 3) ⟨(zhz p0 p1 s1_3 s1_4), ⟨[], []⟩, []⟩ = some (.nor, zCb p0 p1 s1_3 s1_4 r) := by
 unfold zLb at h
 refine zn h (fun h401 g1 => ?_) (fun h401 g1 => ?_)
 ·exact zA (g := fun r => (Ex.nor, zCb p0 p1 s1_3 s1_4 r)) g1 (zqe [(27, 3, 1, .q (xb true)), (27, 3, 4, .q (xi (p0.1.length : Int)))] [] (ob (o_b h401) (ob (zr zq p0.1) ob0)) (by kernel_rfl))
 ·exact zA (g := fun r => (Ex.nor, zCb p0 p1 s1_3 s1_4 r)) g1 (zqe [(27, 3, 1, .q (xb false))] [] (ob (o_b h401) ob0) (by kernel_rfl))
noncomputable def z6i (p0 p1 : (SL zp)) (s1_3 : Bool) (s1_4 : Int) : St := ⟨(zhz p0 p1 s1_3 s1_4), ⟨[], []⟩, []⟩
noncomputable def zpC (p0 p1 : (SL zp)) (r : zt9) : TM := [(0, (.d (dl zq p0.1 p0.2))), (1, (.d (dl zq p1.1 p1.2))), (4, (xb false)), (5, (xb r.1)), (6, (xi r.2)), (18, (xb false))]
noncomputable def zdd (p0 p1 : (SL zp)) (r : zt9) : St := ⟨(zpC p0 p1 r), ⟨[], []⟩, []⟩
noncomputable def z5i (p0 p1 : (SL zp)) : (Bool × Int) → Ex × St := fun r => ((.exit 0), zdd p0 p1 r)
theorem zKi (k : Nat) (p0 p1 : (SL zp)) (s1_3 : Bool) (s1_4 : Int) (x : (Bool × Int) ⊕ (Bool × Int)) (h : zKb k p0 p1 s1_3 s1_4 = some x) : zE TE 27 (blk TE 27 0) (fun s : (Bool × Int) => z6i p0 p1 s.1 s.2) (z5i p0 p1) (s1_3, s1_4) x := by
 unfold zKb at h
 refine zj h (fun v301 h302 g1 => ?_)
 refine zn g1 (fun h303 g2 => ?_) (fun h303 g2 => ?_)
 ·subst h303
  refine zj g2 (fun v304 h305 g3 => ?_)
  refine zj g3 (fun v306 h307 g4 => ?_)
  exact zqn (((v304.Low == v306.Low) && ((v304.High == v306.High) && true)), (w64 (s1_4 + 1))) [] [(27, 5, 2, .q (.d (.pin [(di v304.Low), (di v304.High)]))), (27, 5, 6, .q (.d (.pin [(di v306.Low), (di v306.High)])))] [(27, 1000003, (.nor, zCb p0 p1 s1_3 s1_4 true))] g4 (ob (z2e k p0 p1 s1_3 s1_4 _ h302) (ob (o_ia (e := zq) 2 h305 rfl) (ob (o_ia (e := zq) 2 h307 rfl) ob0))) (by kernel_rfl)
 ·subst h303
  exact zqo [] [(27, 1000003, (.nor, zCb p0 p1 s1_3 s1_4 false))] g2 (ob (z2e k p0 p1 s1_3 s1_4 _ h302) ob0) (by kernel_rfl)
theorem zRd (k : Nat) (p0 p1 : (SL zp)) (r : Bool) (h : zHb k p0 p1 = some r) : zB TE (ev TE) 27 [(dl zq p0.1 p0.2), (dl zq p1.1 p1.2)] = some (zcg r) := by
 unfold zHb at h
 refine zj h (fun v1 h2 g1 => ?_)
 exact zy (g := zcg) g1 (zqc [(27, 1, 1, .q (xi (p0.1.length : Int))), (27, 1, 3, .q (xi (p1.1.length : Int)))] [(27, 0, (.nor, zdd p0 p1 v1))] (ob (zr zq p0.1) (ob (zr zq p1.1) (ob (zx (id := 0) (r' := (.nor, zdd p0 p1 v1)) (zkb (zKi k p0 p1) k _ _ h2) rfl) ob0))) (by kernel_rfl))
theorem z2l (k : Nat) (p0 : zh) (r : Bool) (h : zxh k p0 = some r) : zB TE (ev TE) 73 [(.agg (za p0.SlipFloor))] = some (zqm r) := by
 unfold zxh at h
 exact zy (g := zqm) h (zqc [] [] ob0 (by kernel_rfl))
theorem z6j (k : Nat) (p0 : zd) (r : (zh × Int)) (h : zMk k p0 = some r) : zB TE (ev TE) 52 [(.agg (za p0)), (.fn 73 [] [])] = some (zDi r) := by
 unfold zMk at h
 refine zj h (fun v1 h2 g1 => ?_)
 refine zn g1 (fun h3 g2 => ?_) (fun h3 g2 => ?_)
 ·exact zy (g := zDi) g2 (zqc [(52, 1, 1, .c (di v1)), (52, 2, 1, .q (xb true))] [] (ob (zQ k p0 _ h2) (ob (o_b h3) ob0)) (by kernel_rfl))
 ·refine zj g2 (fun v4 h5 g3 => ?_)
  refine zn g3 (fun h6 g4 => ?_) (fun h6 g4 => ?_)
  ·exact zy (g := zDi) g4 (zqc [(52, 1, 1, .c (di v1)), (52, 2, 1, .q (xb false)), (52, 4, 3, .c (db v4)), (52, 4, 4, .q (xb true))] [] (ob (zQ k p0 _ h2) (ob (o_b h3) (ob (z2l k (⟨p0⟩ : zh) _ h5) (ob (o_b h6) ob0)))) (by kernel_rfl))
  ·exact zy (g := zDi) g4 (zqc [(52, 1, 1, .c (di v1)), (52, 2, 1, .q (xb false)), (52, 4, 3, .c (db v4)), (52, 4, 4, .q (xb false))] [] (ob (zQ k p0 _ h2) (ob (o_b h3) (ob (z2l k (⟨p0⟩ : zh) _ h5) (ob (o_b h6) ob0)))) (by kernel_rfl))
noncomputable def z4B (p0 : zh) (s1_15 : zt3) (s1_8 : Int) : TM := [(0, (.d (.agg (za p0.SlipFloor)))), (zsp 1), (2, (.d (.sl [] .nil))), (3, (.row 0 3 s1_15.length)), (8, (xi (p0.SlipFloor.Slips.1.length : Int))), (9, (xi s1_8))]
noncomputable def zkm (p0 : zh) (s1_8 : Int) (s1_15 : zt3) : St := ⟨(z4B p0 s1_15 s1_8), ⟨[(zc 1 (za p0.SlipFloor)), (3, (rowO true 1 eI s1_15 true))], []⟩, []⟩
noncomputable def z6B (p0 : zh) (r : zt2) : TM := [(0, (.d (.agg (za p0.SlipFloor)))), (zsp 1), (2, (.d (.sl [] .nil))), (3, (.row 0 3 r.2.length)), (8, (xi (p0.SlipFloor.Slips.1.length : Int))), (9, (xi r.1)), (10, (xb false))]
noncomputable def zAe (p0 : zh) (r : zt2) : St := ⟨(z6B p0 r), ⟨[(zc 1 (za p0.SlipFloor)), (3, (rowO true 1 eI r.2 true))], []⟩, []⟩
noncomputable def zfm (p0 : zh) : (Int × (List Int)) → Ex × St := fun r => ((.exit 0), zAe p0 r)
theorem zVk (k : Nat) (p0 : zh) (s1_8 : Int) (s1_15 : zt3) (x : (Int × (List Int)) ⊕ (Int × (List Int))) (h : zWc k p0 s1_8 s1_15 = some x) : zE TE 89 (blk TE 89 0) (fun s : (Int × (List Int)) => zkm p0 s.1 s.2) (zfm p0) (s1_8, s1_15) x := by
 unfold zWc at h
 refine zn h (fun h201 g1 => ?_) (fun h201 g1 => ?_)
 ·refine zj g1 (fun v202 h203 g2 => ?_)
  refine zO g2 (fun h204 g3 => ?_)
  exact zqn ((w64 (s1_8 + 1)), (s1_15 ++ [v202])) [3] [(89, 3, 0, .q (xb true)), (89, 5, 5, .c (di v202)), (89, 5, 7, .ap (s1_15 ++ [v202]).length (rowO true 1 eI (s1_15 ++ [v202]) true))] [] g3 (ob (o_b h201) (ob (z3e k p0 s1_8 _ h203) (ob (o_ap (b := true) (z := 1) (e := eI) (l := s1_15) (w := true) v202 (fun _ => rfl) h204) (ob (zlf true 1 eI (s1_15 ++ [v202]) true) ob0)))) (by kernel_rfl)
 ·exact zqo [(89, 3, 0, .q (xb false))] [] g1 (ob (o_b h201) ob0) (by kernel_rfl)
theorem zTn (k : Nat) (p0 : zh) (r : (SL Int)) (h : zOd k p0 = some r) : zB TE (ev TE) 89 [(.agg (za p0.SlipFloor))] = some (zHi r) := by
 unfold zOd at h
 refine zj h (fun v1 h2 g1 => ?_)
 exact zy (g := zHi) g1 (zqr [(89, 2, 3, .q (xi (p0.SlipFloor.Slips.1.length : Int)))] [(89, 0, (.nor, zAe p0 v1))] [(dl eI v1.2 (rcap true v1.2))] (ob (zr zl p0.SlipFloor.Slips.1) (ob (zx (id := 0) (r' := (.nor, zAe p0 v1)) (zkb (zVk k p0) k _ _ h2) rfl) (ob (show zcc ⟨[(3, (rowO true 1 eI v1.2 true))], []⟩ _ = _ from (o_s1 (x := (.row 0 3 v1.2.length)) (znm true 1 eI v1.2 true rfl) o_s0)) ob0))) (by kernel_rfl))
noncomputable def z2B (p0 : zh) (p1 : Int) (p2 : (SL Int)) (s1_18 : zt3) (s1_11 : Int) : TM := [(0, (.d (.agg (za p0.SlipFloor)))), (1, (xi p1)), (2, (.d (dl eI p2.1 p2.2))), (zsp 3), (6, (.d (.sl [] .nil))), (7, (xb false)), (8, (.row 0 8 s1_18.length)), (16, (xi (p0.SlipFloor.Slips.1.length : Int))), (17, (xi s1_11))]
noncomputable def zNn (p0 : zh) (p1 : Int) (p2 : (SL Int)) (s1_11 : Int) (s1_18 : zt3) : St := ⟨(z2B p0 p1 p2 s1_18 s1_11), ⟨[(zc 3 (za p0.SlipFloor)), (8, (rowO true 1 eI s1_18 true))], []⟩, []⟩
noncomputable def zoB (p0 : zh) (p1 : Int) (p2 : (SL Int)) (r : zt2) : TM := [(0, (.d (.agg (za p0.SlipFloor)))), (1, (xi p1)), (2, (.d (dl eI p2.1 p2.2))), (zsp 3), (6, (.d (.sl [] .nil))), (7, (xb false)), (8, (.row 0 8 r.2.length)), (16, (xi (p0.SlipFloor.Slips.1.length : Int))), (17, (xi r.1)), (18, (xb false))]
noncomputable def zHd (p0 : zh) (p1 : Int) (p2 : (SL Int)) (r : zt2) : St := ⟨(zoB p0 p1 p2 r), ⟨[(zc 3 (za p0.SlipFloor)), (8, (rowO true 1 eI r.2 true))], []⟩, []⟩
noncomputable def zIn (p0 : zh) (p1 : Int) (p2 : (SL Int)) : (Int × (List Int)) → Ex × St := fun r => ((.exit 0), zHd p0 p1 p2 r)
theorem zin (k : Nat) (p0 : zh) (p1 : Int) (p2 : (SL Int)) (s1_11 : Int) (s1_18 : zt3) (x : (Int × (List Int)) ⊕ (Int × (List Int))) (h : zvc k p0 p1 p2 s1_11 s1_18 = some x) : zE TE 91 (blk TE 91 0) (fun s : (Int × (List Int)) => zNn p0 p1 p2 s.1 s.2) (zIn p0 p1 p2) (s1_11, s1_18) x := by
 unfold zvc at h
 refine zn h (fun h301 g1 => ?_) (fun h301 g1 => ?_)
 ·refine zn g1 (fun h302 g2 => ?_) (fun h302 g2 => ?_)
  ·cases g2
  ·refine zn g2 (fun h303 g3 => ?_) (fun h303 g3 => ?_)
   ·refine zO g3 (fun h304 g4 => ?_)
    exact zqn ((w64 (s1_11 + 1)), (s1_18 ++ [s1_11])) [8] [(91, 3, 0, .q (xb true)), (91, 5, 2, .q (xi (zSi p1 s1_11))), (91, 5, 4, .q (xb true)), (91, 6, 3, .ap (s1_18 ++ [s1_11]).length (rowO true 1 eI (s1_18 ++ [s1_11]) true))] [] g4 (ob (o_b h301) (ob (zct (x := p1) h302) (ob (o_b h303) (ob (o_ap (b := true) (z := 1) (e := eI) (l := s1_18) (w := true) s1_11 (fun _ => rfl) h304) (ob (zlf true 1 eI (s1_18 ++ [s1_11]) true) ob0))))) (by kernel_rfl)
   ·exact zqn ((w64 (s1_11 + 1)), s1_18) [8] [(91, 3, 0, .q (xb true)), (91, 5, 2, .q (xi (zSi p1 s1_11))), (91, 5, 4, .q (xb false))] [] g3 (ob (o_b h301) (ob (zct (x := p1) h302) (ob (o_b h303) (ob (zlf true 1 eI s1_18 true) ob0)))) (by kernel_rfl)
 ·exact zqo [(91, 3, 0, .q (xb false))] [] g1 (ob (o_b h301) ob0) (by kernel_rfl)
noncomputable def zmC (s15_11 : zt3) (s3_2 s3_3 s11_2 s15_4 : Int) (r : Bool) : TM := [(0, (.row 0 8 s15_11.length)), (1, (xi s3_2)), (2, (xi s3_3)), (3, (.fn 94 [] [(.ptr 0 3 0)])), (8, (xi s11_2)), (14, (xb true)), (9, (xi s15_4)), (34, (xb r))]
noncomputable def zBc (p0 : zh) (s3_2 s3_3 s11_2 s15_4 : Int) (s15_11 : zt3) (r : Bool) : St := ⟨(zmC s15_11 s3_2 s3_3 s11_2 s15_4 r), ⟨[], [[(zc 3 (za p0.SlipFloor)), (8, (rowO true 1 eI s15_11 true))], [], []]⟩, []⟩
noncomputable def zzz (s15_11 : zt3) (s3_2 s3_3 s11_2 s15_4 : Int) : TM := [(0, (.row 0 8 s15_11.length)), (1, (xi s3_2)), (2, (xi s3_3)), (3, (.fn 94 [] [(.ptr 0 3 0)])), (8, (xi s11_2)), (14, (xb true)), (9, (xi s15_4))]
theorem z9g (k : Nat) (p0 : zh) (s3_2 s3_3 s11_2 s15_4 : Int) (s15_11 : zt3) (r : Bool) (h : zNf k p0 s3_2 s3_3 s11_2 s15_4 s15_11 = some r) : ev TE 96 (rgn TE 96 4) ⟨(zzz s15_11 s3_2 s3_3 s11_2 s15_4), ⟨[], [[(zc 3 (za p0.SlipFloor)), (8, (rowO true 1 eI s15_11 true))], [], []]⟩, []⟩ = some (.nor, zBc p0 s3_2 s3_3 s11_2 s15_4 s15_11 r) := by
 unfold zNf at h
 refine zn h (fun h1801 g1 => ?_) (fun h1801 g1 => ?_)
 ·refine zj g1 (fun v1802 h1803 g2 => ?_)
  refine zj g2 (fun v1804 h1805 g3 => ?_)
  refine zj g3 (fun v1806 h1807 g4 => ?_)
  refine zj g4 (fun v1808 h1809 g5 => ?_)
  exact zA (g := fun r => (Ex.nor, zBc p0 s3_2 s3_3 s11_2 s15_4 s15_11 r)) g5 (zqe [(96, 4, 3, .q (xb true)), (96, 4, 7, .q (.rp 0 8 s15_11.length s15_4.toNat 0)), (96, 4, 8, .q (xi v1802)), (96, 4, 12, .q (.rp 0 8 s15_11.length (w64 (s15_4 - 1)).toNat 0)), (96, 4, 13, .q (xi v1804)), (94, 1, 4, .q (.d (.pin [(dl zi v1806.Lines.1 v1806.Lines.2), (di v1806.Until)]))), (94, 1, 11, .q (.d (.pin [(dl zi v1808.Lines.1 v1808.Lines.2), (di v1808.Until)])))] [] (ob (o_b h1801) (ob (zqa 22 8 0 8 s15_4 true 1 eI s15_11 true (by kernel_rfl) (by kernel_rfl) h1803) (ob (zql 3 (1, false) 0 8 0 s15_4 (xi v1802) true 1 eI s15_11 true (by kernel_rfl) h1803 (by kernel_rfl)) (ob (zqa 22 8 0 8 (w64 (s15_4 - 1)) true 1 eI s15_11 true (by kernel_rfl) (by kernel_rfl) h1805) (ob (zql 3 (1, false) 0 8 0 (w64 (s15_4 - 1)) (xi v1804) true 1 eI s15_11 true (by kernel_rfl) h1805 (by kernel_rfl)) (ob (o_ia (e := zl) 2 h1807 rfl) (ob (o_ia (e := zl) 2 h1809 rfl) ob0))))))) (by kernel_rfl))
 ·exact zA (g := fun r => (Ex.nor, zBc p0 s3_2 s3_3 s11_2 s15_4 s15_11 r)) g1 (zqe [(96, 4, 3, .q (xb false))] [] (ob (o_b h1801) ob0) (by kernel_rfl))
noncomputable def zjn (p0 : zh) (s3_2 s3_3 s11_2 s15_4 : Int) (s15_11 : zt3) : St := ⟨(zzz s15_11 s3_2 s3_3 s11_2 s15_4), ⟨[], [[(zc 3 (za p0.SlipFloor)), (8, (rowO true 1 eI s15_11 true))], [], []]⟩, []⟩
noncomputable def zKB (r : zt2) (s3_2 s3_3 s11_2 : Int) : TM := [(0, (.row 0 8 r.2.length)), (1, (xi s3_2)), (2, (xi s3_3)), (3, (.fn 94 [] [(.ptr 0 3 0)])), (8, (xi s11_2)), (14, (xb true)), (9, (xi r.1)), (34, (xb false))]
noncomputable def zGe (p0 : zh) (s3_2 s3_3 s11_2 : Int) (r : zt2) : St := ⟨(zKB r s3_2 s3_3 s11_2), ⟨[], [[(zc 3 (za p0.SlipFloor)), (8, (rowO true 1 eI r.2 true))], [], []]⟩, []⟩
noncomputable def zpn (p0 : zh) (s3_2 s3_3 s11_2 : Int) : (Int × (List Int)) → Ex × St := fun r => ((.exit 2), zGe p0 s3_2 s3_3 s11_2 r)
theorem zcm (k : Nat) (p0 : zh) (s3_2 s3_3 s11_2 s15_4 : Int) (s15_11 : zt3) (x : (Int × (List Int)) ⊕ (Int × (List Int))) (h : z8f k p0 s3_2 s3_3 s11_2 s15_4 s15_11 = some x) : zE TE 96 (blk TE 96 2) (fun s : (Int × (List Int)) => zjn p0 s3_2 s3_3 s11_2 s.1 s.2) (zpn p0 s3_2 s3_3 s11_2) (s15_4, s15_11) x := by
 unfold z8f at h
 refine zj h (fun v1701 h1702 g1 => ?_)
 refine zn g1 (fun h1703 g2 => ?_) (fun h1703 g2 => ?_)
 ·subst h1703
  refine zj g2 (fun v1704 h1705 g3 => ?_)
  refine zj g3 (fun v1706 h1707 g4 => ?_)
  refine zj g4 (fun v1708 h1709 g5 => ?_)
  refine zj g5 (fun v1710 h1711 g6 => ?_)
  exact zqn ((w64 (s15_4 - 1)), ((s15_11.set s15_4.toNat v1704).set (w64 (s15_4 - 1)).toNat v1706)) [] [(96, 6, 8, .q (.rp 0 8 s15_11.length (w64 (s15_4 - 1)).toNat 0)), (96, 6, 9, .q (xi v1704)), (96, 6, 12, .q (.rp 0 8 s15_11.length s15_4.toNat 0)), (96, 6, 13, .q (xi v1706)), (96, 6, 14, .q (.rp 0 8 s15_11.length s15_4.toNat 0)), (96, 6, 15, .rs (rowO true 1 eI (s15_11.set s15_4.toNat v1704) true)), (96, 6, 16, .q (.rp 0 8 s15_11.length (w64 (s15_4 - 1)).toNat 0)), (96, 6, 17, .rs (rowO true 1 eI ((s15_11.set s15_4.toNat v1704).set (w64 (s15_4 - 1)).toNat v1706) true)), (96, 6, 999, .nm [(0, ((s15_11.set s15_4.toNat v1704).set (w64 (s15_4 - 1)).toNat v1706).length)] [])] [(96, 1000004, (.nor, zBc p0 s3_2 s3_3 s11_2 s15_4 s15_11 true))] g6 (ob (z9g k p0 s3_2 s3_3 s11_2 s15_4 s15_11 _ h1702) (ob (zqa 22 8 0 8 (w64 (s15_4 - 1)) true 1 eI s15_11 true (by kernel_rfl) (by kernel_rfl) h1705) (ob (zql 3 (1, false) 0 8 0 (w64 (s15_4 - 1)) (xi v1704) true 1 eI s15_11 true (by kernel_rfl) h1705 (by kernel_rfl)) (ob (zqa 22 8 0 8 s15_4 true 1 eI s15_11 true (by kernel_rfl) (by kernel_rfl) h1707) (ob (zql 3 (1, false) 0 8 0 s15_4 (xi v1706) true 1 eI s15_11 true (by kernel_rfl) h1707 (by kernel_rfl)) (ob (zqa 22 8 0 8 s15_4 true 1 eI s15_11 true (by kernel_rfl) (by kernel_rfl) h1709) (ob (o_rs (b := true) (z := 1) (e := eI) (l := s15_11) (o := 0) (n := 1) (ds := [(di v1704)]) (i := s15_4) (y' := v1704) h1709 (Nat.le_of_ble_eq_true rfl) rfl) (ob (zcx (k := s15_11.length) (hk := by simp) (P := TE.P) (T := 22) (bt := 8) (lv := 0) (s := 8) (n := (w64 (s15_4 - 1))) (b := true) (z := 1) (e := eI) (l := (s15_11.set s15_4.toNat v1704)) (w := true) (by kernel_rfl) (by kernel_rfl) h1711) (ob (zzy (k := s15_11.length) (hk := by simp) (b := true) (z := 1) (e := eI) (l := (s15_11.set s15_4.toNat v1704)) (o := 0) (n := 1) (ds := [(di v1706)]) (i := (w64 (s15_4 - 1))) (y' := v1706) h1711 (Nat.le_of_ble_eq_true rfl) rfl) (ob (show s15_11.length = ((s15_11.set s15_4.toNat v1704).set (w64 (s15_4 - 1)).toNat v1706).length by simp) ob0)))))))))) (by kernel_rfl)
 ·subst h1703
  exact zqo [] [(96, 1000004, (.nor, zBc p0 s3_2 s3_3 s11_2 s15_4 s15_11 false))] g2 (ob (z9g k p0 s3_2 s3_3 s11_2 s15_4 s15_11 _ h1702) ob0) (by kernel_rfl)
noncomputable def ztB (s11_9 : zt3) (s3_2 s3_3 s11_2 : Int) : TM := [(0, (.row 0 8 s11_9.length)), (1, (xi s3_2)), (2, (xi s3_3)), (3, (.fn 94 [] [(.ptr 0 3 0)])), (8, (xi s11_2))]
noncomputable def zRm (p0 : zh) (s3_2 s3_3 s11_2 : Int) (s11_9 : zt3) : St := ⟨(ztB s11_9 s3_2 s3_3 s11_2), ⟨[], [[(zc 3 (za p0.SlipFloor)), (8, (rowO true 1 eI s11_9 true))], [], []]⟩, []⟩
noncomputable def zLB (r : zt2) (s3_2 s3_3 : Int) : TM := [(0, (.row 0 8 r.2.length)), (1, (xi s3_2)), (2, (xi s3_3)), (3, (.fn 94 [] [(.ptr 0 3 0)])), (8, (xi r.1)), (14, (xb false))]
noncomputable def zMe (p0 : zh) (s3_2 s3_3 : Int) (r : zt2) : St := ⟨(zLB r s3_2 s3_3), ⟨[], [[(zc 3 (za p0.SlipFloor)), (8, (rowO true 1 eI r.2 true))], [], []]⟩, []⟩
noncomputable def z7m (p0 : zh) (s3_2 s3_3 : Int) : (Int × (List Int)) → Ex × St := fun r => ((.exit 0), zMe p0 s3_2 s3_3 r)
theorem zbm (k : Nat) (p0 : zh) (s3_2 s3_3 s11_2 : Int) (s11_9 : zt3) (x : (Int × (List Int)) ⊕ (Int × (List Int))) (h : z6f k p0 s3_2 s3_3 s11_2 s11_9 = some x) : zE TE 96 (blk TE 96 0) (fun s : (Int × (List Int)) => zRm p0 s3_2 s3_3 s.1 s.2) (z7m p0 s3_2 s3_3) (s11_2, s11_9) x := by
 unfold z6f at h
 refine zn h (fun h1501 g1 => ?_) (fun h1501 g1 => ?_)
 ·refine zj g1 (fun v1502 h1503 g2 => ?_)
  exact zqn ((w64 (s11_2 + 1)), v1502.2) [] [(96, 1, 2, .q (xb true))] [(96, 2, (.nor, zGe p0 s3_2 s3_3 s11_2 v1502))] g2 (ob (o_b h1501) (ob (zx (id := 2) (r' := (.nor, zGe p0 s3_2 s3_3 s11_2 v1502)) (zkb (zcm k p0 s3_2 s3_3 s11_2) k _ _ h1503) rfl) ob0)) (by kernel_rfl)
 ·exact zqo [(96, 1, 2, .q (xb false))] [] g1 (ob (o_b h1501) ob0) (by kernel_rfl)
noncomputable def z8B (s3_10 : zt3) (v1 : zt2) (s3_2 s3_3 : Int) : TM := [(0, (.row 0 8 s3_10.length)), (1, (xi (v1.2.length : Int))), (2, (.fn 94 [] [(.ptr 0 3 0)])), (6, (xi 20)), (7, (xi s3_2)), (8, (xi s3_3))]
noncomputable def zMn (p0 : zh) (v1 : zt2) (s3_2 s3_3 : Int) (s3_10 : zt3) : St := ⟨(z8B s3_10 v1 s3_2 s3_3), ⟨[], [[(zc 3 (za p0.SlipFloor)), (8, (rowO true 1 eI s3_10 true))], []]⟩, []⟩
noncomputable def zXB (r : zt10) (v1 : zt2) : TM := [(0, (.row 0 8 r.2.2.length)), (1, (xi (v1.2.length : Int))), (2, (.fn 94 [] [(.ptr 0 3 0)])), (6, (xi 20)), (7, (xi r.1)), (8, (xi r.2.1)), (13, (xb false))]
noncomputable def zGd (p0 : zh) (v1 : zt2) (r : zt10) : St := ⟨(zXB r v1), ⟨[], [[(zc 3 (za p0.SlipFloor)), (8, (rowO true 1 eI r.2.2 true))], []]⟩, []⟩
noncomputable def zGn (p0 : zh) (v1 : zt2) : (Int × Int × (List Int)) → Ex × St := fun r => ((.exit 0), zGd p0 v1 r)
theorem zln (k : Nat) (p0 : zh) (v1 : zt2) (s3_2 s3_3 : Int) (s3_10 : zt3) (x : (Int × Int × (List Int)) ⊕ (Int × Int × (List Int))) (h : zud k p0 v1 s3_2 s3_3 s3_10 = some x) : zE TE 95 (blk TE 95 0) (fun s : (Int × Int × (List Int)) => zMn p0 v1 s.1 s.2.1 s.2.2) (zGn p0 v1) (s3_2, s3_3, s3_10) x := by
 unfold zud at h
 refine zn h (fun h1101 g1 => ?_) (fun h1101 g1 => ?_)
 ·refine zj g1 (fun v1102 h1103 g2 => ?_)
  refine zO g2 (fun h1104 g3 => ?_)
  exact zqn (s3_3, (w64 (s3_3 + 20)), v1102.2) [] [(95, 2, 2, .q (xb true)), (95, 3, 999, .nm [(0, v1102.2.length)] [])] [(96, 0, (.nor, zMe p0 s3_2 s3_3 v1102))] g3 (ob (o_b h1101) (ob (zx (id := 0) (r' := (.nor, zMe p0 s3_2 s3_3 v1102)) (zkb (zbm k p0 s3_2 s3_3) k _ _ h1103) rfl) (ob (show s3_10.length = v1102.2.length from of_decide_eq_true h1104) ob0))) (by kernel_rfl)
 ·exact zqo [(95, 2, 2, .q (xb false))] [] g1 (ob (o_b h1101) ob0) (by kernel_rfl)
noncomputable def z7B (s22_11 : zt3) (v3 : zt10) (v1 : zt2) (s18_2 s22_4 : Int) (r : Bool) : TM := [(0, (.row 0 8 s22_11.length)), (1, (xi v3.1)), (2, (xi (v1.2.length : Int))), (3, (.fn 94 [] [(.ptr 0 3 0)])), (8, (xi s18_2)), (14, (xb true)), (9, (xi s22_4)), (34, (xb r))]
noncomputable def zGc (p0 : zh) (v1 : zt2) (v3 : zt10) (s18_2 s22_4 : Int) (s22_11 : zt3) (r : Bool) : St := ⟨(z7B s22_11 v3 v1 s18_2 s22_4 r), ⟨[], [[(zc 3 (za p0.SlipFloor)), (8, (rowO true 1 eI s22_11 true))], [], []]⟩, []⟩
noncomputable def ztz (s22_11 : zt3) (v3 : zt10) (v1 : zt2) (s18_2 s22_4 : Int) : TM := [(0, (.row 0 8 s22_11.length)), (1, (xi v3.1)), (2, (xi (v1.2.length : Int))), (3, (.fn 94 [] [(.ptr 0 3 0)])), (8, (xi s18_2)), (14, (xb true)), (9, (xi s22_4))]
theorem zah (k : Nat) (p0 : zh) (v1 : zt2) (v3 : zt10) (s18_2 s22_4 : Int) (s22_11 : zt3) (r : Bool) (h : z8d k p0 v1 v3 s18_2 s22_4 s22_11 = some r) : ev TE 96 (rgn TE 96 4) ⟨(ztz s22_11 v3 v1 s18_2 s22_4), ⟨[], [[(zc 3 (za p0.SlipFloor)), (8, (rowO true 1 eI s22_11 true))], [], []]⟩, []⟩ = some (.nor, zGc p0 v1 v3 s18_2 s22_4 s22_11 r) := by
 unfold z8d at h
 refine zn h (fun h2501 g1 => ?_) (fun h2501 g1 => ?_)
 ·refine zj g1 (fun v2502 h2503 g2 => ?_)
  refine zj g2 (fun v2504 h2505 g3 => ?_)
  refine zj g3 (fun v2506 h2507 g4 => ?_)
  refine zj g4 (fun v2508 h2509 g5 => ?_)
  exact zA (g := fun r => (Ex.nor, zGc p0 v1 v3 s18_2 s22_4 s22_11 r)) g5 (zqe [(96, 4, 3, .q (xb true)), (96, 4, 7, .q (.rp 0 8 s22_11.length s22_4.toNat 0)), (96, 4, 8, .q (xi v2502)), (96, 4, 12, .q (.rp 0 8 s22_11.length (w64 (s22_4 - 1)).toNat 0)), (96, 4, 13, .q (xi v2504)), (94, 1, 4, .q (.d (.pin [(dl zi v2506.Lines.1 v2506.Lines.2), (di v2506.Until)]))), (94, 1, 11, .q (.d (.pin [(dl zi v2508.Lines.1 v2508.Lines.2), (di v2508.Until)])))] [] (ob (o_b h2501) (ob (zqa 22 8 0 8 s22_4 true 1 eI s22_11 true (by kernel_rfl) (by kernel_rfl) h2503) (ob (zql 3 (1, false) 0 8 0 s22_4 (xi v2502) true 1 eI s22_11 true (by kernel_rfl) h2503 (by kernel_rfl)) (ob (zqa 22 8 0 8 (w64 (s22_4 - 1)) true 1 eI s22_11 true (by kernel_rfl) (by kernel_rfl) h2505) (ob (zql 3 (1, false) 0 8 0 (w64 (s22_4 - 1)) (xi v2504) true 1 eI s22_11 true (by kernel_rfl) h2505 (by kernel_rfl)) (ob (o_ia (e := zl) 2 h2507 rfl) (ob (o_ia (e := zl) 2 h2509 rfl) ob0))))))) (by kernel_rfl))
 ·exact zA (g := fun r => (Ex.nor, zGc p0 v1 v3 s18_2 s22_4 s22_11 r)) g1 (zqe [(96, 4, 3, .q (xb false))] [] (ob (o_b h2501) ob0) (by kernel_rfl))
noncomputable def zXm (p0 : zh) (v1 : zt2) (v3 : zt10) (s18_2 s22_4 : Int) (s22_11 : zt3) : St := ⟨(ztz s22_11 v3 v1 s18_2 s22_4), ⟨[], [[(zc 3 (za p0.SlipFloor)), (8, (rowO true 1 eI s22_11 true))], [], []]⟩, []⟩
noncomputable def zfC (r : zt2) (v3 : zt10) (v1 : zt2) (s18_2 : Int) : TM := [(0, (.row 0 8 r.2.length)), (1, (xi v3.1)), (2, (xi (v1.2.length : Int))), (3, (.fn 94 [] [(.ptr 0 3 0)])), (8, (xi s18_2)), (14, (xb true)), (9, (xi r.1)), (34, (xb false))]
noncomputable def zIe (p0 : zh) (v1 : zt2) (v3 : zt10) (s18_2 : Int) (r : zt2) : St := ⟨(zfC r v3 v1 s18_2), ⟨[], [[(zc 3 (za p0.SlipFloor)), (8, (rowO true 1 eI r.2 true))], [], []]⟩, []⟩
noncomputable def z6m (p0 : zh) (v1 : zt2) (v3 : zt10) (s18_2 : Int) : (Int × (List Int)) → Ex × St := fun r => ((.exit 2), zIe p0 v1 v3 s18_2 r)
theorem zlm (k : Nat) (p0 : zh) (v1 : zt2) (v3 : zt10) (s18_2 s22_4 : Int) (s22_11 : zt3) (x : (Int × (List Int)) ⊕ (Int × (List Int))) (h : z9c k p0 v1 v3 s18_2 s22_4 s22_11 = some x) : zE TE 96 (blk TE 96 2) (fun s : (Int × (List Int)) => zXm p0 v1 v3 s18_2 s.1 s.2) (z6m p0 v1 v3 s18_2) (s22_4, s22_11) x := by
 unfold z9c at h
 refine zj h (fun v2401 h2402 g1 => ?_)
 refine zn g1 (fun h2403 g2 => ?_) (fun h2403 g2 => ?_)
 ·subst h2403
  refine zj g2 (fun v2404 h2405 g3 => ?_)
  refine zj g3 (fun v2406 h2407 g4 => ?_)
  refine zj g4 (fun v2408 h2409 g5 => ?_)
  refine zj g5 (fun v2410 h2411 g6 => ?_)
  exact zqn ((w64 (s22_4 - 1)), ((s22_11.set s22_4.toNat v2404).set (w64 (s22_4 - 1)).toNat v2406)) [] [(96, 6, 8, .q (.rp 0 8 s22_11.length (w64 (s22_4 - 1)).toNat 0)), (96, 6, 9, .q (xi v2404)), (96, 6, 12, .q (.rp 0 8 s22_11.length s22_4.toNat 0)), (96, 6, 13, .q (xi v2406)), (96, 6, 14, .q (.rp 0 8 s22_11.length s22_4.toNat 0)), (96, 6, 15, .rs (rowO true 1 eI (s22_11.set s22_4.toNat v2404) true)), (96, 6, 16, .q (.rp 0 8 s22_11.length (w64 (s22_4 - 1)).toNat 0)), (96, 6, 17, .rs (rowO true 1 eI ((s22_11.set s22_4.toNat v2404).set (w64 (s22_4 - 1)).toNat v2406) true)), (96, 6, 999, .nm [(0, ((s22_11.set s22_4.toNat v2404).set (w64 (s22_4 - 1)).toNat v2406).length)] [])] [(96, 1000004, (.nor, zGc p0 v1 v3 s18_2 s22_4 s22_11 true))] g6 (ob (zah k p0 v1 v3 s18_2 s22_4 s22_11 _ h2402) (ob (zqa 22 8 0 8 (w64 (s22_4 - 1)) true 1 eI s22_11 true (by kernel_rfl) (by kernel_rfl) h2405) (ob (zql 3 (1, false) 0 8 0 (w64 (s22_4 - 1)) (xi v2404) true 1 eI s22_11 true (by kernel_rfl) h2405 (by kernel_rfl)) (ob (zqa 22 8 0 8 s22_4 true 1 eI s22_11 true (by kernel_rfl) (by kernel_rfl) h2407) (ob (zql 3 (1, false) 0 8 0 s22_4 (xi v2406) true 1 eI s22_11 true (by kernel_rfl) h2407 (by kernel_rfl)) (ob (zqa 22 8 0 8 s22_4 true 1 eI s22_11 true (by kernel_rfl) (by kernel_rfl) h2409) (ob (o_rs (b := true) (z := 1) (e := eI) (l := s22_11) (o := 0) (n := 1) (ds := [(di v2404)]) (i := s22_4) (y' := v2404) h2409 (Nat.le_of_ble_eq_true rfl) rfl) (ob (zcx (k := s22_11.length) (hk := by simp) (P := TE.P) (T := 22) (bt := 8) (lv := 0) (s := 8) (n := (w64 (s22_4 - 1))) (b := true) (z := 1) (e := eI) (l := (s22_11.set s22_4.toNat v2404)) (w := true) (by kernel_rfl) (by kernel_rfl) h2411) (ob (zzy (k := s22_11.length) (hk := by simp) (b := true) (z := 1) (e := eI) (l := (s22_11.set s22_4.toNat v2404)) (o := 0) (n := 1) (ds := [(di v2406)]) (i := (w64 (s22_4 - 1))) (y' := v2406) h2411 (Nat.le_of_ble_eq_true rfl) rfl) (ob (show s22_11.length = ((s22_11.set s22_4.toNat v2404).set (w64 (s22_4 - 1)).toNat v2406).length by simp) ob0)))))))))) (by kernel_rfl)
 ·subst h2403
  exact zqo [] [(96, 1000004, (.nor, zGc p0 v1 v3 s18_2 s22_4 s22_11 false))] g2 (ob (zah k p0 v1 v3 s18_2 s22_4 s22_11 _ h2402) ob0) (by kernel_rfl)
noncomputable def zkC (s18_9 : zt3) (v3 : zt10) (v1 : zt2) (s18_2 : Int) : TM := [(0, (.row 0 8 s18_9.length)), (1, (xi v3.1)), (2, (xi (v1.2.length : Int))), (3, (.fn 94 [] [(.ptr 0 3 0)])), (8, (xi s18_2))]
noncomputable def zVm (p0 : zh) (v1 : zt2) (v3 : zt10) (s18_2 : Int) (s18_9 : zt3) : St := ⟨(zkC s18_9 v3 v1 s18_2), ⟨[], [[(zc 3 (za p0.SlipFloor)), (8, (rowO true 1 eI s18_9 true))], [], []]⟩, []⟩
noncomputable def zsB (r : zt2) (v3 : zt10) (v1 : zt2) : TM := [(0, (.row 0 8 r.2.length)), (1, (xi v3.1)), (2, (xi (v1.2.length : Int))), (3, (.fn 94 [] [(.ptr 0 3 0)])), (8, (xi r.1)), (14, (xb false))]
noncomputable def zrd (p0 : zh) (v1 : zt2) (v3 : zt10) (r : zt2) : St := ⟨(zsB r v3 v1), ⟨[], [[(zc 3 (za p0.SlipFloor)), (8, (rowO true 1 eI r.2 true))], [], []]⟩, []⟩
noncomputable def zcn (p0 : zh) (v1 : zt2) (v3 : zt10) : (Int × (List Int)) → Ex × St := fun r => ((.exit 0), zrd p0 v1 v3 r)
theorem z7l (k : Nat) (p0 : zh) (v1 : zt2) (v3 : zt10) (s18_2 : Int) (s18_9 : zt3) (x : (Int × (List Int)) ⊕ (Int × (List Int))) (h : zec k p0 v1 v3 s18_2 s18_9 = some x) : zE TE 96 (blk TE 96 0) (fun s : (Int × (List Int)) => zVm p0 v1 v3 s.1 s.2) (zcn p0 v1 v3) (s18_2, s18_9) x := by
 unfold zec at h
 refine zn h (fun h2201 g1 => ?_) (fun h2201 g1 => ?_)
 ·refine zj g1 (fun v2202 h2203 g2 => ?_)
  exact zqn ((w64 (s18_2 + 1)), v2202.2) [] [(96, 1, 2, .q (xb true))] [(96, 2, (.nor, zIe p0 v1 v3 s18_2 v2202))] g2 (ob (o_b h2201) (ob (zx (id := 2) (r' := (.nor, zIe p0 v1 v3 s18_2 v2202)) (zkb (zlm k p0 v1 v3 s18_2) k _ _ h2203) rfl) ob0)) (by kernel_rfl)
 ·exact zqo [(96, 1, 2, .q (xb false))] [] g1 (ob (o_b h2201) ob0) (by kernel_rfl)
noncomputable def zwy (v5 v1 : zt2) (v3 : zt10) : TM := [(0, (.row 0 8 v5.2.length)), (1, (xi (v1.2.length : Int))), (2, (.fn 94 [] [(.ptr 0 3 0)])), (6, (xi 20)), (7, (xi v3.1)), (8, (xi v3.2.1)), (13, (xb false))]
noncomputable def zhh (p0 : zh) (v1 : zt2) (v3 : zt10) (v5 : zt2) : St := ⟨(zwy v5 v1 v3), ⟨[], [[(zc 3 (za p0.SlipFloor)), (8, (rowO true 1 eI v5.2 true))], []]⟩, []⟩
noncomputable def zld (p0 : zh) (v1 : zt2) (v3 : zt10) (v5 : zt2) (r : Unit) : St := ⟨(zwy v5 v1 v3 ++ [(30, (xb false))]), ⟨[], [[(zc 3 (za p0.SlipFloor)), (8, (rowO true 1 eI v5.2 true))], []]⟩, []⟩
noncomputable def znh (p0 : zh) (v1 : zt2) (v3 : zt10) (v5 : zt2) : Unit → Ex × St := fun r => ((.exit 2), zld p0 v1 v3 v5 r)
theorem zhm (k : Nat) (p0 : zh) (v1 : zt2) (v3 : zt10) (v5 : zt2) (x : Unit ⊕ Unit) (h : zNb k p0 v1 v3 v5 = some x) : zE TE 95 (blk TE 95 2) (fun s : Unit => zhh p0 v1 v3 v5) (znh p0 v1 v3 v5) () x := by
 unfold zNb at h
 refine zn h (fun h2601 g1 => ?_) (fun h2601 g1 => ?_)
 ·refine zj g1 (fun v2602 h2603 g2 => ?_)
  cases g2
 ·exact zqo [(95, 7, 2, .q (xb false))] [] g1 (ob (o_b h2601) ob0) (by kernel_rfl)
theorem zdm (k : Nat) (p0 : zh) (v1 : zt2) (v3 : zt10) (v5 : zt2) : ∀ (s : Unit) (x : Unit ⊕ Unit), (fun s => zNb k p0 v1 v3 v5) s = some x → zE TE 95 (blk TE 95 2) (fun s : Unit => zhh p0 v1 v3 v5) (znh p0 v1 v3 v5) s x := fun s x h => zhm k p0 v1 v3 v5 x h
noncomputable def zmA (p0 : zh) (p1 : Int) (p2 : (SL Int)) (v5 v1 : zt2) (s28_13 s28_15 : Int) : TM := [(0, (.d (.agg (za p0.SlipFloor)))), (1, (xi p1)), (2, (.d (dl eI p2.1 p2.2))), (zsp 3), (6, (.d (.sl [] .nil))), (7, (xb false)), (8, (.row 0 8 v5.2.length)), (16, (xi (p0.SlipFloor.Slips.1.length : Int))), (17, (xi v1.1)), (18, (xb false)), (10, (xi s28_13)), (33, (.row 0 8 v5.2.length)), (34, (xi (v5.2.length : Int))), (35, (xi s28_15))]
noncomputable def z1m (p0 : zh) (p1 : Int) (p2 : (SL Int)) (v1 v5 : zt2) (s28_13 s28_15 : Int) : St := ⟨(zmA p0 p1 p2 v5 v1 s28_13 s28_15), ⟨[(zc 3 (za p0.SlipFloor)), (8, (rowO true 1 eI v5.2 true))], []⟩, []⟩
noncomputable def zlA (p0 : zh) (p1 : Int) (p2 : (SL Int)) (v5 v1 : zt2) (r : (Int × Int × Int)) : TM := [(0, (.d (.agg (za p0.SlipFloor)))), (1, (xi p1)), (2, (.d (dl eI p2.1 p2.2))), (zsp 3), (6, (.d (.sl [] .nil))), (7, (xb false)), (8, (.row 0 8 v5.2.length)), (16, (xi (p0.SlipFloor.Slips.1.length : Int))), (17, (xi v1.1)), (18, (xb false)), (10, (xi r.1)), (33, (.row 0 8 v5.2.length)), (34, (xi (v5.2.length : Int))), (35, (xi r.2.1)), (36, (xb true)), (12, (xi r.2.2)), (53, (xb true))]
noncomputable def zJe (p0 : zh) (p1 : Int) (p2 : (SL Int)) (v1 v5 : zt2) (r : (Int × Int × Int)) : St := ⟨(zlA p0 p1 p2 v5 v1 r), ⟨[(zc 3 (za p0.SlipFloor)), (8, (rowO true 1 eI v5.2 true))], []⟩, []⟩
noncomputable def zXA (p0 : zh) (p1 : Int) (p2 : (SL Int)) (v5 v1 : zt2) (r : zt7) : TM := [(0, (.d (.agg (za p0.SlipFloor)))), (1, (xi p1)), (2, (.d (dl eI p2.1 p2.2))), (zsp 3), (6, (.d (.sl [] .nil))), (7, (xb false)), (8, (.row 0 8 v5.2.length)), (16, (xi (p0.SlipFloor.Slips.1.length : Int))), (17, (xi v1.1)), (18, (xb false)), (10, (xi r.1)), (33, (.row 0 8 v5.2.length)), (34, (xi (v5.2.length : Int))), (35, (xi r.2)), (36, (xb false))]
noncomputable def zKe (p0 : zh) (p1 : Int) (p2 : (SL Int)) (v1 v5 : zt2) (r : zt7) : St := ⟨(zXA p0 p1 p2 v5 v1 r), ⟨[(zc 3 (za p0.SlipFloor)), (8, (rowO true 1 eI v5.2 true))], []⟩, []⟩
noncomputable def z9m (p0 : zh) (p1 : Int) (p2 : (SL Int)) (v1 v5 : zt2) : ((Int × Int × Int) ⊕ (Int × Int)) → Ex × St := Sum.elim (fun r => (.ret, zJe p0 p1 p2 v1 v5 r)) (fun r => ((.exit 2), zKe p0 p1 p2 v1 v5 r))
theorem zdh (k : Nat) (p0 : zh) (p1 : Int) (p2 : (SL Int)) (v1 v5 : zt2) (s28_13 s28_15 : Int) (x : (Int × Int) ⊕ ((Int × Int × Int) ⊕ (Int × Int))) (h : zac k p0 p1 p2 v1 v5 s28_13 s28_15 = some x) : zE TE 91 (blk TE 91 2) (fun s : (Int × Int) => z1m p0 p1 p2 v1 v5 s.1 s.2) (z9m p0 p1 p2 v1 v5) (s28_13, s28_15) x := by
 unfold zac at h
 refine zn h (fun h2901 g1 => ?_) (fun h2901 g1 => ?_)
 ·refine zj g1 (fun v2902 h2903 g2 => ?_)
  refine zj g2 (fun v2904 h2905 g3 => ?_)
  refine zj g3 (fun v2906 h2907 g4 => ?_)
  refine zn g4 (fun h2908 g5 => ?_) (fun h2908 g5 => ?_)
  ·exact zqo [(91, 11, 0, .q (xb true)), (91, 12, 0, .q (.rp 0 8 v5.2.length s28_15.toNat 0)), (91, 12, 1, .q (xi v2902)), (91, 13, 3, .q (.d (.pin [(di v2904)]))), (91, 14, 5, .q (.d (.pin [(dl zi v2906.Lines.1 v2906.Lines.2), (di v2906.Until)]))), (91, 14, 8, .q (xb true))] [] g5 (ob (o_b h2901) (ob (zqa 22 8 0 8 s28_15 true 1 eI v5.2 true (by kernel_rfl) (by kernel_rfl) h2903) (ob (zql 3 (1, false) 0 8 0 s28_15 (xi v2902) true 1 eI v5.2 true (by kernel_rfl) h2903 (by kernel_rfl)) (ob (o_ia (e := eI) 1 h2905 rfl) (ob (o_ia (e := zl) 2 h2907 rfl) (ob (o_b h2908) ob0)))))) (by kernel_rfl)
  ·exact zqn ((w64 (s28_13 + v2904)), (w64 (s28_15 + 1))) [8] [(91, 11, 0, .q (xb true)), (91, 12, 0, .q (.rp 0 8 v5.2.length s28_15.toNat 0)), (91, 12, 1, .q (xi v2902)), (91, 13, 3, .q (.d (.pin [(di v2904)]))), (91, 14, 5, .q (.d (.pin [(dl zi v2906.Lines.1 v2906.Lines.2), (di v2906.Until)]))), (91, 14, 8, .q (xb false))] [] g5 (ob (o_b h2901) (ob (zqa 22 8 0 8 s28_15 true 1 eI v5.2 true (by kernel_rfl) (by kernel_rfl) h2903) (ob (zql 3 (1, false) 0 8 0 s28_15 (xi v2902) true 1 eI v5.2 true (by kernel_rfl) h2903 (by kernel_rfl)) (ob (o_ia (e := eI) 1 h2905 rfl) (ob (o_ia (e := zl) 2 h2907 rfl) (ob (o_b h2908) (ob (zlf true 1 eI v5.2 true) ob0))))))) (by kernel_rfl)
 ·exact zqo [(91, 11, 0, .q (xb false))] [] g1 (ob (o_b h2901) ob0) (by kernel_rfl)
theorem zpg (k : Nat) (p0 : zh) (p1 : Int) (p2 : (SL Int)) (r : zt14) (h : zse k p0 p1 p2 = some r) : zB TE (ev TE) 91 [(.agg (za p0.SlipFloor)), (di p1), (dl eI p2.1 p2.2)] = some (zIg r) := by
 unfold zse at h
 refine zj h (fun v1 h2 g1 => ?_)
 refine zj g1 (fun v3 h4 g2 => ?_)
 refine zj g2 (fun v5 h6 g3 => ?_)
 refine zO g3 (fun h7 g4 => ?_)
 refine zj g4 (fun v8 h9 g5 => ?_)
 refine zO g5 (fun h10 g6 => ?_)
 refine zj g6 (fun v11 h12 g7 => ?_)
 have y1 := fun (d : D) (P : List Prop) (V : Ovs) (C : Cuts) (q : All P) h => (zqc ([(91, 2, 3, .q (xi (p0.SlipFloor.Slips.1.length : Int))), (93, 0, 2, .q (xi (v1.2.length : Int))), (95, 6, 999, .nm [(0, v5.2.length)] []), (93, 0, 999, .nm [(0, v5.2.length)] []), (91, 8, 999, .nm [(8, v5.2.length)] []), (91, 10, 1, .q (xi (v5.2.length : Int)))] ++ V) C (ob (zr zl p0.SlipFloor.Slips.1) (ob (zx (id := 0) (r' := (.nor, zHd p0 p1 p2 v1)) (zkb (zin k p0 p1 p2) k _ _ h2) rfl) (ob (zqh true 1 eI v1.2 true) (ob (zx (id := 0) (r' := (.nor, zGd p0 v1 v3)) (zyo (zln k p0 v1) k _ _ h4) rfl) (ob (zx (id := 0) (r' := (.nor, zrd p0 v1 v3 v5)) (zkb (z7l k p0 v1 v3) k _ _ h6) rfl) (ob (show v3.2.2.length = v5.2.length from of_decide_eq_true h7) (ob (zx (id := 2) (r' := (.nor, zld p0 v1 v3 v5 v8)) (z6g (zdm k p0 v1 v3 v5) k _ _ h9) rfl) (ob (show v1.2.length = v5.2.length from of_decide_eq_true h10) (ob (show v1.2.length = v5.2.length from of_decide_eq_true h10) (ob (zqh true 1 eI v5.2 true) q)))))))))) h : zB TE (ev TE) 91 [(.agg (za p0.SlipFloor)), (di p1), (dl eI p2.1 p2.2)] = some d)
 refine zPb g7 (fun v14 hh g8_0 => ?_) (fun v14 hh g8_0 => ?_)
 ·subst hh
  exact zy (g := zIg) g8_0 (y1 _ _ [] [(91, 0, (.nor, zHd p0 p1 p2 v1)), (95, 0, (.nor, zGd p0 v1 v3)), (96, 0, (.nor, zrd p0 v1 v3 v5)), (95, 2, (.nor, zld p0 v1 v3 v5 v8)), (91, 2, (.ret, zJe p0 p1 p2 v1 v5 v14))] (ob (zx (id := 2) (r' := (.ret, zJe p0 p1 p2 v1 v5 v14)) (zkb (zdh k p0 p1 p2 v1 v5) k _ _ h12) rfl) ob0) (by kernel_rfl))
 ·subst hh
  exact zy (g := zIg) g8_0 (y1 _ _ [(91, 17, 2, .q (xi (v5.2.length : Int))), (91, 17, 4, .q (xi (v5.2.length : Int))), (91, 17, 5, .sr (.d (dl eI v5.2 (xcap true v5.2))) (rowO true 1 eI v5.2 false))] [(91, 0, (.nor, zHd p0 p1 p2 v1)), (95, 0, (.nor, zGd p0 v1 v3)), (96, 0, (.nor, zrd p0 v1 v3 v5)), (95, 2, (.nor, zld p0 v1 v3 v5 v8)), (91, 2, (.nor, zKe p0 p1 p2 v1 v5 v14))] (ob (zx (id := 2) (r' := (.nor, zKe p0 p1 p2 v1 v5 v14)) (zkb (zdh k p0 p1 p2 v1 v5) k _ _ h12) rfl) (ob (zqh true 1 eI v5.2 true) (ob (zqh true 1 eI v5.2 true) (ob (o_sr (P := TE.P) (T := 22) (U := 3) (by' := 8) (ρ := fun _ => xi (v5.2.length : Int)) (lv := 0) (s := 8) (lo := none) (hi := some (.tmp 0)) (mx := some (.tmp 0)) true 1 eI v5.2 true (by kernel_rfl) (by kernel_rfl) rfl rfl rfl) ob0)))) (by kernel_rfl))
noncomputable def zvb (p0 : zh) (p1 : zt) (v1 : (SL Int)) : ((SL (SL Int)) × (List (zt × (SL (SL Int))))) → D × FS × List LRec := fun r => ((dl (eL eI) r.1.1 r.1.2), ⟨[(zc 2 (za p0.SlipFloor)), (3, (.cells [(xi p1.slips), (xi p1.pickers)])), (6, (.cells [(.d (dl eI v1.1 v1.2))])), (12, (.map (em (fun k => D.agg (zD k)) (fun x => dl (eL eI) x.1 x.2) r.2))), (7, (.cells [(.map 0 12)])), (8, (.cells [(.fn 90 [] [(.ptr 0 7 0), (.ptr 0 2 0), (.ptr 0 6 0), (.ptr 0 8 0)])]))], []⟩, [])
noncomputable def zwb (p0 : zh) (p1 : zt) (v1 : (SL Int)) (f : Fr) (fs : List Fr) : ((SL (SL Int)) × (List (zt × (SL (SL Int))))) → D × FS × List LRec := fun r => ((dl (eL eI) r.1.1 r.1.2), ⟨f, [[(zc 2 (za p0.SlipFloor)), (3, (.cells [(xi p1.slips), (xi p1.pickers)])), (6, (.cells [(.d (dl eI v1.1 v1.2))])), (12, (.map (em (fun k => D.agg (zD k)) (fun x => dl (eL eI) x.1 x.2) r.2))), (7, (.cells [(.map 0 12)])), (8, (.cells [(.fn 90 [] [(.ptr 0 7 0), (.ptr 0 2 0), (.ptr 0 6 0), (.ptr 0 8 0)])]))]] ++ fs⟩, [])
noncomputable def zLd (p0 : zh) (p1 : zt) (v1 : (SL Int)) (rc : zt18) (fs : List Fr) : Prop := ∀ (f : Fr) (u4_9 : (List (zt × (SL (SL Int))))) (r0 : zt) (x : ((SL (SL Int)) × (List (zt × (SL (SL Int)))))), rc u4_9 r0 = some x → zJ TE (ev TE) 90 [(.d (.agg [(di r0.slips), (di r0.pickers)])), (.ptr 0 7 0), (.ptr 0 2 0), (.ptr 0 6 0), (.ptr 0 8 0)] ⟨f, ([[(zc 2 (za p0.SlipFloor)), (3, (.cells [(xi p1.slips), (xi p1.pickers)])), (6, (.cells [(.d (dl eI v1.1 v1.2))])), (12, (.map (em (fun k => D.agg (zD k)) (fun x => dl (eL eI) x.1 x.2) u4_9))), (7, (.cells [(.map 0 12)])), (8, (.cells [(.fn 90 [] [(.ptr 0 7 0), (.ptr 0 2 0), (.ptr 0 6 0), (.ptr 0 8 0)])]))]] ++ fs)⟩ [] = some (zwb p0 p1 v1 f fs x)
noncomputable def zLA (r0 : zt) (fs : List Fr) (u4_9 : zt15) (s6_9 : Int) : TM := [(0, (.d (.agg [(di r0.slips), (di r0.pickers)]))), (1, (.ptr 0 7 0)), (zsp 2), (3, (.ptr 0 6 0)), (4, (.ptr 0 8 0)), (5, (.ptr (fs.length + 1) 5 0)), (6, (.d (.sl [] .nil))), (7, (.d (dl (eL eI) ((zV zw r0 u4_9).getD ([], Cap.nil)).1 ((zV zw r0 u4_9).getD ([], Cap.nil)).2))), (8, (xb (zV zw r0 u4_9).isSome)), (22, (xb false)), (9, (.d (.sl [] .nil))), (10, (.ptr (fs.length + 1) 10 0)), (29, (xb false)), (40, (xb true)), (11, (xi s6_9))]
noncomputable def zQm (p0 : zh) (p1 : zt) (v1 : (SL Int)) (u4_9 : zt15) (r0 : zt) (rc : zt18) (fs : List Fr) (s6_9 : Int) (s6_23 : zt15) : St := ⟨(zLA r0 fs u4_9 s6_9), ⟨[(5, (.cells [(xi r0.slips), (xi r0.pickers)])), (10, (.cells [(xi 0), (xi r0.pickers)]))], ([[(zc 2 (za p0.SlipFloor)), (3, (.cells [(xi p1.slips), (xi p1.pickers)])), (6, (.cells [(.d (dl eI v1.1 v1.2))])), (12, (.map (em (fun k => D.agg (zD k)) (fun x => dl (eL eI) x.1 x.2) s6_23))), (7, (.cells [(.map 0 12)])), (8, (.cells [(.fn 90 [] [(.ptr 0 7 0), (.ptr 0 2 0), (.ptr 0 6 0), (.ptr 0 8 0)])]))]] ++ fs)⟩, []⟩
noncomputable def zJA (r0 : zt) (fs : List Fr) (u4_9 : zt15) (r : (Int × (List (zt × (SL (SL Int)))))) : TM := [(0, (.d (.agg [(di r0.slips), (di r0.pickers)]))), (1, (.ptr 0 7 0)), (zsp 2), (3, (.ptr 0 6 0)), (4, (.ptr 0 8 0)), (5, (.ptr (fs.length + 1) 5 0)), (6, (.d (.sl [] .nil))), (7, (.d (dl (eL eI) ((zV zw r0 u4_9).getD ([], Cap.nil)).1 ((zV zw r0 u4_9).getD ([], Cap.nil)).2))), (8, (xb (zV zw r0 u4_9).isSome)), (22, (xb false)), (9, (.d (.sl [] .nil))), (10, (.ptr (fs.length + 1) 10 0)), (29, (xb false)), (40, (xb true)), (11, (xi r.1)), (12, (xi (zSc r0.slips (w64 (0 - r0.slips))))), (57, (xb true)), (59, (xb true))]
noncomputable def zgc (p0 : zh) (p1 : zt) (v1 : (SL Int)) (u4_9 : zt15) (r0 : zt) (rc : zt18) (fs : List Fr) (r : (Int × (List (zt × (SL (SL Int)))))) : St := ⟨(zJA r0 fs u4_9 r), ⟨[(5, (.cells [(xi r0.slips), (xi r0.pickers)])), (10, (.cells [(xi 0), (xi r0.pickers)]))], ([[(zc 2 (za p0.SlipFloor)), (3, (.cells [(xi p1.slips), (xi p1.pickers)])), (6, (.cells [(.d (dl eI v1.1 v1.2))])), (12, (.map (em (fun k => D.agg (zD k)) (fun x => dl (eL eI) x.1 x.2) r.2))), (7, (.cells [(.map 0 12)])), (8, (.cells [(.fn 90 [] [(.ptr 0 7 0), (.ptr 0 2 0), (.ptr 0 6 0), (.ptr 0 8 0)])]))]] ++ fs)⟩, []⟩
noncomputable def zrA (r0 : zt) (fs : List Fr) (u4_9 : zt15) (r : ((SL (SL Int)) × Int × (SL Int) × Bool × (SL (SL Int)) × (List (zt × (SL (SL Int)))))) : TM := [(0, (.d (.agg [(di r0.slips), (di r0.pickers)]))), (1, (.ptr 0 7 0)), (zsp 2), (3, (.ptr 0 6 0)), (4, (.ptr 0 8 0)), (5, (.ptr (fs.length + 1) 5 0)), (6, (.d (.sl [] .nil))), (7, (.d (dl (eL eI) ((zV zw r0 u4_9).getD ([], Cap.nil)).1 ((zV zw r0 u4_9).getD ([], Cap.nil)).2))), (8, (xb (zV zw r0 u4_9).isSome)), (22, (xb false)), (9, (.d (dl (eL eI) r.1.1 r.1.2))), (10, (.ptr (fs.length + 1) 10 0)), (29, (xb false)), (40, (xb true)), (11, (xi r.2.1)), (12, (xi (zSc r0.slips (w64 (0 - r0.slips))))), (57, (xb false)), (13, (.d (dl eI r.2.2.1.1 r.2.2.1.2))), (14, (xb r.2.2.2.1)), (68, (xb false)), (15, (.d (dl (eL eI) r.2.2.2.2.1.1 r.2.2.2.2.1.2))), (80, (xb true))]
noncomputable def zic (p0 : zh) (p1 : zt) (v1 : (SL Int)) (u4_9 : zt15) (r0 : zt) (rc : zt18) (fs : List Fr) (r : ((SL (SL Int)) × Int × (SL Int) × Bool × (SL (SL Int)) × (List (zt × (SL (SL Int)))))) : St := ⟨(zrA r0 fs u4_9 r), ⟨[(5, (.cells [(xi r0.slips), (xi r0.pickers)])), (10, (.cells [(xi 0), (xi r0.pickers)]))], ([[(zc 2 (za p0.SlipFloor)), (3, (.cells [(xi p1.slips), (xi p1.pickers)])), (6, (.cells [(.d (dl eI v1.1 v1.2))])), (12, (.map (em (fun k => D.agg (zD k)) (fun x => dl (eL eI) x.1 x.2) r.2.2.2.2.2))), (7, (.cells [(.map 0 12)])), (8, (.cells [(.fn 90 [] [(.ptr 0 7 0), (.ptr 0 2 0), (.ptr 0 6 0), (.ptr 0 8 0)])]))]] ++ fs)⟩, []⟩
noncomputable def zhn (p0 : zh) (p1 : zt) (v1 : (SL Int)) (u4_9 : zt15) (r0 : zt) (rc : zt18) (fs : List Fr) : ((Int × (List (zt × (SL (SL Int))))) ⊕ ((SL (SL Int)) × Int × (SL Int) × Bool × (SL (SL Int)) × (List (zt × (SL (SL Int)))))) → Ex × St := Sum.elim (fun r => ((.exit 0), zgc p0 p1 v1 u4_9 r0 rc fs r)) (fun r => ((.exit 0), zic p0 p1 v1 u4_9 r0 rc fs r))
theorem zqd (k : Nat) (p0 : zh) (p1 : zt) (v1 : (SL Int)) (u4_9 : zt15) (r0 : zt) (rc : zt18) (fs : List Fr) (hfs : fs.length ≤ 8) (hrc : zLd p0 p1 v1 rc fs) (s6_9 : Int) (s6_23 : zt15) (x : (Int × (List (zt × (SL (SL Int))))) ⊕ ((Int × (List (zt × (SL (SL Int))))) ⊕ ((SL (SL Int)) × Int × (SL Int) × Bool × (SL (SL Int)) × (List (zt × (SL (SL Int))))))) (h : zbd k p0 p1 v1 u4_9 r0 rc s6_9 s6_23 = some x) : zE TE 90 (blk TE 90 0) (fun s : (Int × (List (zt × (SL (SL Int))))) => zQm p0 p1 v1 u4_9 r0 rc fs s.1 s.2) (zhn p0 p1 v1 u4_9 r0 rc fs) (s6_9, s6_23) x := by
 unfold zbd at h
 refine zn h (fun h701 g1 => ?_) (fun h701 g1 => ?_)
 ·refine zn g1 (fun h702 g2 => ?_) (fun h702 g2 => ?_)
  ·exact zqo [(90, 13, 3, .q (xb true)), (90, 14, 1, .q (xb true))] [] g2 (ob (o_b h701) (ob (o_b h702) ob0)) (by cases f8 hfs <;> kernel_rfl)
  ·exact zqn ((zSc (w64 (s6_9 - 1)) r0.slips), s6_23) [] [(90, 13, 3, .q (xb true)), (90, 14, 1, .q (xb false))] [] g2 (ob (o_b h701) (ob (o_b h702) ob0)) (by cases f8 hfs <;> kernel_rfl)
 ·refine zj g1 (fun v702 h703 g2 => ?_)
  refine zn g2 (fun h704 g3 => ?_) (fun h704 g3 => ?_)
  ·exact zqn ((zSc (w64 (s6_9 - 1)) r0.slips), s6_23) [] [(90, 13, 3, .q (xb false)), (90, 15, 3, .c (.tup [(dl eI v702.1.1 v702.1.2), (db v702.2)])), (90, 16, 1, .q (xb true))] [] g3 (ob (o_b h701) (ob (zpg k p0 s6_9 v1 _ h703) (ob (o_b h704) ob0))) (by cases f8 hfs <;> kernel_rfl)
  ·refine zj g3 (fun v705 h706 g4 => ?_)
   refine zn g4 (fun h707 g5 => ?_) (fun h707 g5 => ?_)
   ·refine zO g5 (fun h708 g6 => ?_)
    exact zqo [(90, 13, 3, .q (xb false)), (90, 15, 3, .c (.tup [(dl eI v702.1.1 v702.1.2), (db v702.2)])), (90, 16, 1, .q (xb false)), (90, 17, 9, .i (dl (eL eI) v705.1.1 v705.1.2) ⟨[(5, (.cells [(xi r0.slips), (xi r0.pickers)])), (10, (.cells [(xi 0), (xi r0.pickers)]))], ([[(2, (.cells ((za p0.SlipFloor).map .d))), (3, (.cells [(xi p1.slips), (xi p1.pickers)])), (6, (.cells [(.d (dl eI v1.1 v1.2))])), (12, (.map (em (fun k => D.agg (zD k)) (fun x => dl (eL eI) x.1 x.2) v705.2))), (7, (.cells [(.map 0 12)])), (8, (.cells [(.fn 90 [] [(.ptr 0 7 0), (.ptr 0 2 0), (.ptr 0 6 0), (.ptr 0 8 0)])]))]] ++ fs)⟩ []), (90, 18, 1, .q (xb true)), (90, 19, 3, .q (.d (dl (eL eI) (([v702.1] : List (SL Int)) ++ v705.1.1) (cond v705.1.1.isEmpty .ex .ro))))] [] g6 (ob (o_b h701) (ob (zpg k p0 s6_9 v1 _ h703) (ob (o_b h704) (ob (hrc ([(5, (.cells [(xi r0.slips), (xi r0.pickers)])), (10, (.cells [(xi 0), (xi r0.pickers)]))] : Fr) s6_23 (⟨(zib r0.slips s6_9), (w64 (r0.pickers - 1))⟩ : zt) _ h706) (ob (o_b h707) (ob (zWz (P := TE.P) (φ := fun _ _ => none) (T := 43) (q := (1, [(.sl [] .nil)])) (c := .ex) (c' := v705.1.2) (e := (eL eI)) ([v702.1] : List (SL Int)) v705.1.1 (by kernel_rfl) (fun _ => rfl) rfl h708) ob0)))))) (by cases f8 hfs <;> kernel_rfl)
   ·exact zqn ((zSc (w64 (s6_9 - 1)) r0.slips), v705.2) [] [(90, 13, 3, .q (xb false)), (90, 15, 3, .c (.tup [(dl eI v702.1.1 v702.1.2), (db v702.2)])), (90, 16, 1, .q (xb false)), (90, 17, 9, .i (dl (eL eI) v705.1.1 v705.1.2) ⟨[(5, (.cells [(xi r0.slips), (xi r0.pickers)])), (10, (.cells [(xi 0), (xi r0.pickers)]))], ([[(2, (.cells ((za p0.SlipFloor).map .d))), (3, (.cells [(xi p1.slips), (xi p1.pickers)])), (6, (.cells [(.d (dl eI v1.1 v1.2))])), (12, (.map (em (fun k => D.agg (zD k)) (fun x => dl (eL eI) x.1 x.2) v705.2))), (7, (.cells [(.map 0 12)])), (8, (.cells [(.fn 90 [] [(.ptr 0 7 0), (.ptr 0 2 0), (.ptr 0 6 0), (.ptr 0 8 0)])]))]] ++ fs)⟩ []), (90, 18, 1, .q (xb false))] [] g5 (ob (o_b h701) (ob (zpg k p0 s6_9 v1 _ h703) (ob (o_b h704) (ob (hrc ([(5, (.cells [(xi r0.slips), (xi r0.pickers)])), (10, (.cells [(xi 0), (xi r0.pickers)]))] : Fr) s6_23 (⟨(zib r0.slips s6_9), (w64 (r0.pickers - 1))⟩ : zt) _ h706) (ob (o_b h707) ob0))))) (by cases f8 hfs <;> kernel_rfl)
theorem zal (k : Nat) (p0 : zh) (p1 : zt) (v1 : (SL Int)) (rc : zt18) (hrc : zLd p0 p1 v1 rc []) (u4_9 : zt15) (r0 : zt) (x : ((SL (SL Int)) × (List (zt × (SL (SL Int)))))) (h : zzb k p0 p1 v1 rc u4_9 r0 = some x) : zJ TE (ev TE) 90 [(.d (.agg [(di r0.slips), (di r0.pickers)])), (.ptr 0 7 0), (.ptr 0 2 0), (.ptr 0 6 0), (.ptr 0 8 0)] ⟨[(zc 2 (za p0.SlipFloor)), (3, (.cells [(xi p1.slips), (xi p1.pickers)])), (6, (.cells [(.d (dl eI v1.1 v1.2))])), (12, (.map (em (fun k => D.agg (zD k)) (fun x => dl (eL eI) x.1 x.2) u4_9))), (7, (.cells [(.map 0 12)])), (8, (.cells [(.fn 90 [] [(.ptr 0 7 0), (.ptr 0 2 0), (.ptr 0 6 0), (.ptr 0 8 0)])]))], []⟩ [] = some (zvb p0 p1 v1 x) := by
 unfold zzb at h
 refine zn h (fun h501 g1 => ?_) (fun h501 g1 => ?_)
 ·exact zP (g := zvb p0 p1 v1) g1 (zH (n := 80) (V := [(90, 1, 2, .q (.d (.tup [(dl (eL eI) ((zV zw r0 u4_9).getD ([], Cap.nil)).1 ((zV zw r0 u4_9).getD ([], Cap.nil)).2), (db (zV zw r0 u4_9).isSome)]))), (90, 2, 0, .q (xb true))]) (C := []) (ob (zkg (ek := (fun k => D.agg (zD k))) (evl := (fun x => dl (eL eI) x.1 x.2)) (q := zw) (fun _ _ => rfl) r0 u4_9 ([], Cap.nil)) (ob (o_b h501) ob0)) (by kernel_rfl))
 ·refine zn g1 (fun h502 g2 => ?_) (fun h502 g2 => ?_)
  ·refine zO g2 (fun h503 g3 => ?_)
   refine zO g3 (fun h504 g4 => ?_)
   exact zP (g := zvb p0 p1 v1) g4 (zH (n := 80) (V := [(90, 1, 2, .q (.d (.tup [(dl (eL eI) ((zV zw r0 u4_9).getD ([], Cap.nil)).1 ((zV zw r0 u4_9).getD ([], Cap.nil)).2), (db (zV zw r0 u4_9).isSome)]))), (90, 2, 0, .q (xb false)), (90, 6, 2, .q (xb true)), (90, 7, 3, .ms (List.replicate (if r0.pickers > 1 then r0.pickers else 1).toNat (([], Cap.nil) : (SL Int)) : List (SL Int)).length ((List.replicate (if r0.pickers > 1 then r0.pickers else 1).toNat (([], Cap.nil) : (SL Int)) : List (SL Int)).map (eL eI))), (90, 8, 3, .sr (.d (dl (eL eI) ((List.replicate (if r0.pickers > 1 then r0.pickers else 1).toNat (([], Cap.nil) : (SL Int)) : List (SL Int)).take r0.pickers.toNat) .ro)) (rowO false 1 (eL eI) (List.replicate (if r0.pickers > 1 then r0.pickers else 1).toNat (([], Cap.nil) : (SL Int)) : List (SL Int)) false))]) (C := []) (ob (zkg (ek := (fun k => D.agg (zD k))) (evl := (fun x => dl (eL eI) x.1 x.2)) (q := zw) (fun _ _ => rfl) r0 u4_9 ([], Cap.nil)) (ob (o_b h501) (ob (o_b h502) (ob (o_ms (z := 0) (n := (if r0.pickers > 1 then r0.pickers else 1)) (([], Cap.nil) : (SL Int)) h503) (ob (by simp : (if r0.pickers > 1 then r0.pickers else 1).toNat = (List.replicate (if r0.pickers > 1 then r0.pickers else 1).toNat (([], Cap.nil) : (SL Int)) : List (SL Int)).length) (ob (zLq (e := (eL eI)) (if r0.pickers > 1 then r0.pickers else 1).toNat (([], Cap.nil) : (SL Int))) (ob (zuy (P := TE.P) (T := 43) (U := 22) (by' := 24) (ρ := fun _ => xi r0.pickers) (lv := (([] : List Fr).length + 1)) (s := 33) (n := r0.pickers) (lo := none) (hi := some (.tmp 0)) (mx := none) 1 (eL eI) (List.replicate (if r0.pickers > 1 then r0.pickers else 1).toNat (([], Cap.nil) : (SL Int)) : List (SL Int)) true (by kernel_rfl) (by kernel_rfl) rfl rfl rfl h504) ob0))))))) (by kernel_rfl))
  ·refine zn g2 (fun h503 g3 => ?_) (fun h503 g3 => ?_)
   ·refine zj g3 (fun v504 h505 g4 => ?_)
    refine zPb g4 (fun v507 hh g5_0 => ?_) (fun v507 hh g5_0 => ?_)
    ·subst hh
     exact zP (g := zvb p0 p1 v1) g5_0 (zH (n := 80) (V := [(90, 1, 2, .q (.d (.tup [(dl (eL eI) ((zV zw r0 u4_9).getD ([], Cap.nil)).1 ((zV zw r0 u4_9).getD ([], Cap.nil)).2), (db (zV zw r0 u4_9).isSome)]))), (90, 2, 0, .q (xb false)), (90, 6, 2, .q (xb false)), (90, 9, 2, .q (xb true)), (90, 20, 3, .mp (em (fun k => D.agg (zD k)) (fun x => dl (eL eI) x.1 x.2) (mset zw r0 ([], Cap.nil) v507.2)))]) (C := [(90, 0, (.nor, zgc p0 p1 v1 u4_9 r0 rc ([] : List Fr) v507))]) (ob (zkg (ek := (fun k => D.agg (zD k))) (evl := (fun x => dl (eL eI) x.1 x.2)) (q := zw) (fun _ _ => rfl) r0 u4_9 ([], Cap.nil)) (ob (o_b h501) (ob (o_b h502) (ob (o_b h503) (ob (zx (id := 0) (r' := (.nor, zgc p0 p1 v1 u4_9 r0 rc ([] : List Fr) v507)) (zkb (zqd k p0 p1 v1 u4_9 r0 rc ([] : List Fr) (Nat.zero_le _) hrc) k _ _ h505) rfl) (ob (z6l (ek := (fun k => D.agg (zD k))) (evl := (fun x => dl (eL eI) x.1 x.2)) (q := zw) (fun _ _ => rfl) r0 ([], Cap.nil) v507.2) ob0)))))) (by kernel_rfl))
    ·subst hh
     exact zP (g := zvb p0 p1 v1) g5_0 (zH (n := 80) (V := [(90, 1, 2, .q (.d (.tup [(dl (eL eI) ((zV zw r0 u4_9).getD ([], Cap.nil)).1 ((zV zw r0 u4_9).getD ([], Cap.nil)).2), (db (zV zw r0 u4_9).isSome)]))), (90, 2, 0, .q (xb false)), (90, 6, 2, .q (xb false)), (90, 9, 2, .q (xb true)), (90, 20, 3, .mp (em (fun k => D.agg (zD k)) (fun x => dl (eL eI) x.1 x.2) (mset zw r0 v507.1 v507.2.2.2.2.2)))]) (C := [(90, 0, (.nor, zic p0 p1 v1 u4_9 r0 rc ([] : List Fr) v507))]) (ob (zkg (ek := (fun k => D.agg (zD k))) (evl := (fun x => dl (eL eI) x.1 x.2)) (q := zw) (fun _ _ => rfl) r0 u4_9 ([], Cap.nil)) (ob (o_b h501) (ob (o_b h502) (ob (o_b h503) (ob (zx (id := 0) (r' := (.nor, zic p0 p1 v1 u4_9 r0 rc ([] : List Fr) v507)) (zkb (zqd k p0 p1 v1 u4_9 r0 rc ([] : List Fr) (Nat.zero_le _) hrc) k _ _ h505) rfl) (ob (z6l (ek := (fun k => D.agg (zD k))) (evl := (fun x => dl (eL eI) x.1 x.2)) (q := zw) (fun _ _ => rfl) r0 v507.1 v507.2.2.2.2.2) ob0)))))) (by kernel_rfl))
   ·exact zP (g := zvb p0 p1 v1) g3 (zH (n := 80) (V := [(90, 1, 2, .q (.d (.tup [(dl (eL eI) ((zV zw r0 u4_9).getD ([], Cap.nil)).1 ((zV zw r0 u4_9).getD ([], Cap.nil)).2), (db (zV zw r0 u4_9).isSome)]))), (90, 2, 0, .q (xb false)), (90, 6, 2, .q (xb false)), (90, 9, 2, .q (xb false)), (90, 20, 3, .mp (em (fun k => D.agg (zD k)) (fun x => dl (eL eI) x.1 x.2) (mset zw r0 ([], Cap.nil) u4_9)))]) (C := []) (ob (zkg (ek := (fun k => D.agg (zD k))) (evl := (fun x => dl (eL eI) x.1 x.2)) (q := zw) (fun _ _ => rfl) r0 u4_9 ([], Cap.nil)) (ob (o_b h501) (ob (o_b h502) (ob (o_b h503) (ob (z6l (ek := (fun k => D.agg (zD k))) (evl := (fun x => dl (eL eI) x.1 x.2)) (q := zw) (fun _ _ => rfl) r0 ([], Cap.nil) u4_9) ob0))))) (by kernel_rfl))
theorem z1k (k : Nat) (p0 : zh) (p1 : zt) (v1 : (SL Int)) (rc : zt18) (f : Fr) (fs : List Fr) (hfs : fs.length + 1 ≤ 8) (hrc : zLd p0 p1 v1 rc (fs ++ [f])) (u4_9 : zt15) (r0 : zt) (x : ((SL (SL Int)) × (List (zt × (SL (SL Int)))))) (h : zzb k p0 p1 v1 rc u4_9 r0 = some x) : zJ TE (ev TE) 90 [(.d (.agg [(di r0.slips), (di r0.pickers)])), (.ptr 0 7 0), (.ptr 0 2 0), (.ptr 0 6 0), (.ptr 0 8 0)] ⟨f, ([[(zc 2 (za p0.SlipFloor)), (3, (.cells [(xi p1.slips), (xi p1.pickers)])), (6, (.cells [(.d (dl eI v1.1 v1.2))])), (12, (.map (em (fun k => D.agg (zD k)) (fun x => dl (eL eI) x.1 x.2) u4_9))), (7, (.cells [(.map 0 12)])), (8, (.cells [(.fn 90 [] [(.ptr 0 7 0), (.ptr 0 2 0), (.ptr 0 6 0), (.ptr 0 8 0)])]))]] ++ fs)⟩ [] = some (zwb p0 p1 v1 f fs x) := by
 unfold zzb at h
 refine zn h (fun h501 g1 => ?_) (fun h501 g1 => ?_)
 ·exact zP (g := zwb p0 p1 v1 f fs) g1 (zH (n := 80) (V := [(90, 1, 2, .q (.d (.tup [(dl (eL eI) ((zV zw r0 u4_9).getD ([], Cap.nil)).1 ((zV zw r0 u4_9).getD ([], Cap.nil)).2), (db (zV zw r0 u4_9).isSome)]))), (90, 2, 0, .q (xb true))]) (C := []) (ob (zkg (ek := (fun k => D.agg (zD k))) (evl := (fun x => dl (eL eI) x.1 x.2)) (q := zw) (fun _ _ => rfl) r0 u4_9 ([], Cap.nil)) (ob (o_b h501) ob0)) (by cases f8 (Nat.le_of_succ_le hfs) <;> kernel_rfl))
 ·refine zn g1 (fun h502 g2 => ?_) (fun h502 g2 => ?_)
  ·refine zO g2 (fun h503 g3 => ?_)
   refine zO g3 (fun h504 g4 => ?_)
   exact zP (g := zwb p0 p1 v1 f fs) g4 (zH (n := 80) (V := [(90, 1, 2, .q (.d (.tup [(dl (eL eI) ((zV zw r0 u4_9).getD ([], Cap.nil)).1 ((zV zw r0 u4_9).getD ([], Cap.nil)).2), (db (zV zw r0 u4_9).isSome)]))), (90, 2, 0, .q (xb false)), (90, 6, 2, .q (xb true)), (90, 7, 3, .ms (List.replicate (if r0.pickers > 1 then r0.pickers else 1).toNat (([], Cap.nil) : (SL Int)) : List (SL Int)).length ((List.replicate (if r0.pickers > 1 then r0.pickers else 1).toNat (([], Cap.nil) : (SL Int)) : List (SL Int)).map (eL eI))), (90, 8, 3, .sr (.d (dl (eL eI) ((List.replicate (if r0.pickers > 1 then r0.pickers else 1).toNat (([], Cap.nil) : (SL Int)) : List (SL Int)).take r0.pickers.toNat) .ro)) (rowO false 1 (eL eI) (List.replicate (if r0.pickers > 1 then r0.pickers else 1).toNat (([], Cap.nil) : (SL Int)) : List (SL Int)) false))]) (C := []) (ob (zkg (ek := (fun k => D.agg (zD k))) (evl := (fun x => dl (eL eI) x.1 x.2)) (q := zw) (fun _ _ => rfl) r0 u4_9 ([], Cap.nil)) (ob (o_b h501) (ob (o_b h502) (ob (o_ms (z := 0) (n := (if r0.pickers > 1 then r0.pickers else 1)) (([], Cap.nil) : (SL Int)) h503) (ob (by simp : (if r0.pickers > 1 then r0.pickers else 1).toNat = (List.replicate (if r0.pickers > 1 then r0.pickers else 1).toNat (([], Cap.nil) : (SL Int)) : List (SL Int)).length) (ob (zLq (e := (eL eI)) (if r0.pickers > 1 then r0.pickers else 1).toNat (([], Cap.nil) : (SL Int))) (ob (zuy (P := TE.P) (T := 43) (U := 22) (by' := 24) (ρ := fun _ => xi r0.pickers) (lv := ((fs ++ [f]).length + 1)) (s := 33) (n := r0.pickers) (lo := none) (hi := some (.tmp 0)) (mx := none) 1 (eL eI) (List.replicate (if r0.pickers > 1 then r0.pickers else 1).toNat (([], Cap.nil) : (SL Int)) : List (SL Int)) true (by kernel_rfl) (by kernel_rfl) rfl rfl rfl h504) ob0))))))) (by cases f8 (Nat.le_of_succ_le hfs) <;> kernel_rfl))
  ·refine zn g2 (fun h503 g3 => ?_) (fun h503 g3 => ?_)
   ·refine zj g3 (fun v504 h505 g4 => ?_)
    refine zPb g4 (fun v507 hh g5_0 => ?_) (fun v507 hh g5_0 => ?_)
    ·subst hh
     exact zP (g := zwb p0 p1 v1 f fs) g5_0 (zH (n := 80) (V := [(90, 1, 2, .q (.d (.tup [(dl (eL eI) ((zV zw r0 u4_9).getD ([], Cap.nil)).1 ((zV zw r0 u4_9).getD ([], Cap.nil)).2), (db (zV zw r0 u4_9).isSome)]))), (90, 2, 0, .q (xb false)), (90, 6, 2, .q (xb false)), (90, 9, 2, .q (xb true)), (90, 20, 3, .mp (em (fun k => D.agg (zD k)) (fun x => dl (eL eI) x.1 x.2) (mset zw r0 ([], Cap.nil) v507.2)))]) (C := [(90, 0, (.nor, zgc p0 p1 v1 u4_9 r0 rc (fs ++ [f]) v507))]) (ob (zkg (ek := (fun k => D.agg (zD k))) (evl := (fun x => dl (eL eI) x.1 x.2)) (q := zw) (fun _ _ => rfl) r0 u4_9 ([], Cap.nil)) (ob (o_b h501) (ob (o_b h502) (ob (o_b h503) (ob (zx (id := 0) (r' := (.nor, zgc p0 p1 v1 u4_9 r0 rc (fs ++ [f]) v507)) (zkb (zqd k p0 p1 v1 u4_9 r0 rc (fs ++ [f]) (zFw f hfs) hrc) k _ _ h505) rfl) (ob (z6l (ek := (fun k => D.agg (zD k))) (evl := (fun x => dl (eL eI) x.1 x.2)) (q := zw) (fun _ _ => rfl) r0 ([], Cap.nil) v507.2) ob0)))))) (by cases f8 (Nat.le_of_succ_le hfs) <;> kernel_rfl))
    ·subst hh
     exact zP (g := zwb p0 p1 v1 f fs) g5_0 (zH (n := 80) (V := [(90, 1, 2, .q (.d (.tup [(dl (eL eI) ((zV zw r0 u4_9).getD ([], Cap.nil)).1 ((zV zw r0 u4_9).getD ([], Cap.nil)).2), (db (zV zw r0 u4_9).isSome)]))), (90, 2, 0, .q (xb false)), (90, 6, 2, .q (xb false)), (90, 9, 2, .q (xb true)), (90, 20, 3, .mp (em (fun k => D.agg (zD k)) (fun x => dl (eL eI) x.1 x.2) (mset zw r0 v507.1 v507.2.2.2.2.2)))]) (C := [(90, 0, (.nor, zic p0 p1 v1 u4_9 r0 rc (fs ++ [f]) v507))]) (ob (zkg (ek := (fun k => D.agg (zD k))) (evl := (fun x => dl (eL eI) x.1 x.2)) (q := zw) (fun _ _ => rfl) r0 u4_9 ([], Cap.nil)) (ob (o_b h501) (ob (o_b h502) (ob (o_b h503) (ob (zx (id := 0) (r' := (.nor, zic p0 p1 v1 u4_9 r0 rc (fs ++ [f]) v507)) (zkb (zqd k p0 p1 v1 u4_9 r0 rc (fs ++ [f]) (zFw f hfs) hrc) k _ _ h505) rfl) (ob (z6l (ek := (fun k => D.agg (zD k))) (evl := (fun x => dl (eL eI) x.1 x.2)) (q := zw) (fun _ _ => rfl) r0 v507.1 v507.2.2.2.2.2) ob0)))))) (by cases f8 (Nat.le_of_succ_le hfs) <;> kernel_rfl))
   ·exact zP (g := zwb p0 p1 v1 f fs) g3 (zH (n := 80) (V := [(90, 1, 2, .q (.d (.tup [(dl (eL eI) ((zV zw r0 u4_9).getD ([], Cap.nil)).1 ((zV zw r0 u4_9).getD ([], Cap.nil)).2), (db (zV zw r0 u4_9).isSome)]))), (90, 2, 0, .q (xb false)), (90, 6, 2, .q (xb false)), (90, 9, 2, .q (xb false)), (90, 20, 3, .mp (em (fun k => D.agg (zD k)) (fun x => dl (eL eI) x.1 x.2) (mset zw r0 ([], Cap.nil) u4_9)))]) (C := []) (ob (zkg (ek := (fun k => D.agg (zD k))) (evl := (fun x => dl (eL eI) x.1 x.2)) (q := zw) (fun _ _ => rfl) r0 u4_9 ([], Cap.nil)) (ob (o_b h501) (ob (o_b h502) (ob (o_b h503) (ob (z6l (ek := (fun k => D.agg (zD k))) (evl := (fun x => dl (eL eI) x.1 x.2)) (q := zw) (fun _ _ => rfl) r0 ([], Cap.nil) u4_9) ob0))))) (by cases f8 (Nat.le_of_succ_le hfs) <;> kernel_rfl))
theorem zSg (k : Nat) (p0 : zh) (p1 : zt) (v1 : (SL Int)) : ∀ (n : Nat) (fs : List Fr), fs.length + n ≤ 8 → zLd p0 p1 v1 (zhc k p0 p1 v1 n) fs
 | 0, fs, hfs => fun f u4_9 r0 x h => by cases h
 | n + 1, fs, hfs => fun f u4_9 r0 x h => z1k k p0 p1 v1 _ f fs (by omega) (zSg k p0 p1 v1 n (fs ++ [f]) (by simp; omega)) u4_9 r0 x h
theorem zgm (k : Nat) (p0 : zh) (p1 : zt) (v1 : (SL Int)) (u4_9 : zt15) (r0 : zt) (x : ((SL (SL Int)) × (List (zt × (SL (SL Int)))))) (h : zhc k p0 p1 v1 9 u4_9 r0 = some x) : zJ TE (ev TE) 90 [(.d (.agg [(di r0.slips), (di r0.pickers)])), (.ptr 0 7 0), (.ptr 0 2 0), (.ptr 0 6 0), (.ptr 0 8 0)] ⟨[(zc 2 (za p0.SlipFloor)), (3, (.cells [(xi p1.slips), (xi p1.pickers)])), (6, (.cells [(.d (dl eI v1.1 v1.2))])), (12, (.map (em (fun k => D.agg (zD k)) (fun x => dl (eL eI) x.1 x.2) u4_9))), (7, (.cells [(.map 0 12)])), (8, (.cells [(.fn 90 [] [(.ptr 0 7 0), (.ptr 0 2 0), (.ptr 0 6 0), (.ptr 0 8 0)])]))], []⟩ [] = some (zvb p0 p1 v1 x) := zal k p0 p1 v1 _ (zSg k p0 p1 v1 8 [] (by decide)) u4_9 r0 x h
theorem zR (k : Nat) (p0 : zh) (p1 : zt) (r : ((SL (SL Int)) × Bool)) (h : zN k p0 p1 = some r) : zB TE (ev TE) 78 [(.agg (za p0.SlipFloor)), (.agg [(di p1.slips), (di p1.pickers)])] = some (zcj r) := by
 unfold zN at h
 refine zj h (fun v1 h2 g1 => ?_)
 refine zj g1 (fun v3 h4 g2 => ?_)
 exact zy (g := zcj) g2 (zqc [(78, 1, 1, .c (dl eI v1.1 v1.2)), (78, 5, 2, .i (dl (eL eI) v3.1.1 v3.1.2) ⟨[(2, (.cells ((za p0.SlipFloor).map .d))), (3, (.cells [(xi p1.slips), (xi p1.pickers)])), (6, (.cells [(.d (dl eI v1.1 v1.2))])), (12, (.map (em (fun k => D.agg (zD k)) (fun x => dl (eL eI) x.1 x.2) v3.2))), (7, (.cells [(.map 0 12)])), (8, (.cells [(.fn 90 [] [(.ptr 0 7 0), (.ptr 0 2 0), (.ptr 0 6 0), (.ptr 0 8 0)])]))], []⟩ [])] [] (ob (zTn k p0 _ h2) (ob (zgm k p0 p1 v1 ([]) p1 _ h4) ob0)) (by kernel_rfl))
noncomputable def zeB (p0 : zh) (s1_9 : Int) : TM := [(0, (.d (.agg (za p0.SlipFloor)))), (zsp 1), (2, (.d (.sl [] .nil))), (3, (xi 0)), (4, (xb false)), (5, (xi s1_9))]
noncomputable def zon (p0 : zh) (s1_9 : Int) : St := ⟨(zeB p0 s1_9), ⟨[(zc 1 (za p0.SlipFloor))], []⟩, []⟩
noncomputable def z4A (p0 : zh) (r : zt11) : TM := [(0, (.d (.agg (za p0.SlipFloor)))), (zsp 1), (2, (.d (dl (eL eI) r.1.1 r.1.2))), (3, (xi r.2.1)), (4, (xb true)), (5, (xi r.2.1)), (9, (xb true)), (6, (.d (dl (eL eI) r.1.1 r.1.2))), (7, (xb r.2.2)), (25, (xb true))]
noncomputable def zHe (p0 : zh) (r : zt11) : St := ⟨(z4A p0 r), ⟨[(zc 1 (za p0.SlipFloor))], []⟩, []⟩
noncomputable def zkA (p0 : zh) (r : Int) : TM := [(0, (.d (.agg (za p0.SlipFloor)))), (zsp 1), (2, (.d (.sl [] .nil))), (3, (xi 0)), (4, (xb false)), (5, (xi r)), (9, (xb false))]
noncomputable def zNe (p0 : zh) (r : Int) : St := ⟨(zkA p0 r), ⟨[(zc 1 (za p0.SlipFloor))], []⟩, []⟩
noncomputable def zfn (p0 : zh) : (((SL (SL Int)) × Int × Bool) ⊕ Int) → Ex × St := Sum.elim (fun r => (.ret, zHe p0 r)) (fun r => ((.exit 0), zNe p0 r))
theorem z8g (k : Nat) (p0 : zh) (s1_9 : Int) (x : Int ⊕ (((SL (SL Int)) × Int × Bool) ⊕ Int)) (h : zgd k p0 s1_9 = some x) : zE TE 74 (blk TE 74 0) (fun s : Int => zon p0 s) (zfn p0) s1_9 x := by
 unfold zgd at h
 refine zn h (fun h201 g1 => ?_) (fun h201 g1 => ?_)
 ·refine zn g1 (fun h202 g2 => ?_) (fun h202 g2 => ?_)
  ·cases g2
  ·refine zj g2 (fun v203 h204 g3 => ?_)
   refine zn g3 (fun h205 g4 => ?_) (fun h205 g4 => ?_)
   ·exact zqo [(74, 2, 1, .q (xb true)), (74, 4, 4, .q (xi (p0.SlipFloor.Slips.1.length : Int))), (74, 4, 5, .q (xi (zo 1 (p0.SlipFloor.Slips.1.length : Int)))), (74, 4, 9, .c (.tup [(dl (eL eI) v203.1.1 v203.1.2), (db v203.2)])), (74, 5, 0, .q (xb true))] [] g4 (ob (o_b h201) (ob (zr zl p0.SlipFloor.Slips.1) (ob (zIb (x := 1) h202) (ob (zR k p0 (⟨(w64 ((zo 1 (p0.SlipFloor.Slips.1.length : Int)) - 1)), s1_9⟩ : zt) _ h204) (ob (o_b h205) ob0))))) (by kernel_rfl)
   ·exact zqn (w64 (s1_9 + 1)) [] [(74, 2, 1, .q (xb true)), (74, 4, 4, .q (xi (p0.SlipFloor.Slips.1.length : Int))), (74, 4, 5, .q (xi (zo 1 (p0.SlipFloor.Slips.1.length : Int)))), (74, 4, 9, .c (.tup [(dl (eL eI) v203.1.1 v203.1.2), (db v203.2)])), (74, 5, 0, .q (xb false))] [] g4 (ob (o_b h201) (ob (zr zl p0.SlipFloor.Slips.1) (ob (zIb (x := 1) h202) (ob (zR k p0 (⟨(w64 ((zo 1 (p0.SlipFloor.Slips.1.length : Int)) - 1)), s1_9⟩ : zt) _ h204) (ob (o_b h205) ob0))))) (by kernel_rfl)
 ·exact zqo [(74, 2, 1, .q (xb false))] [] g1 (ob (o_b h201) ob0) (by kernel_rfl)
theorem z7f (k : Nat) (p0 : zh) (r : zt11) (h : zkd k p0 = some r) : zB TE (ev TE) 74 [(.agg (za p0.SlipFloor))] = some (zng r) := by
 unfold zkd at h
 refine zj h (fun v1 h2 g1 => ?_)
 refine zPb g1 (fun v4 hh g2_0 => ?_) (fun v4 hh g2_0 => ?_)
 ·subst hh
  exact zy (g := zng) g2_0 (zqc [] [(74, 0, (.ret, zHe p0 v4))] (ob (zx (id := 0) (r' := (.ret, zHe p0 v4)) (zSd (z8g k p0) k _ _ h2) rfl) ob0) (by kernel_rfl))
 ·subst hh
  exact zy (g := zng) g2_0 (zqc [] [(74, 0, (.nor, zNe p0 v4))] (ob (zx (id := 0) (r' := (.nor, zNe p0 v4)) (zSd (z8g k p0) k _ _ h2) rfl) ob0) (by kernel_rfl))
theorem zSn (k : Nat) (p0 : zd) (r : zt17) (h : zgg k p0 = some r) : zB TE (ev TE) 28 [(.agg (za p0))] = some (zzh r) := by
 unfold zgg at h
 refine zj h (fun v1 h2 g1 => ?_)
 refine zn g1 (fun h3 g2 => ?_) (fun h3 g2 => ?_)
 ·exact zy (g := zzh) g2 (zqc [(28, 1, 1, .c (.tup [(.agg (za v1.1.SlipFloor)), (di v1.2)])), (28, 2, 1, .q (xb true))] [] (ob (z6j k p0 _ h2) (ob (o_b h3) ob0)) (by kernel_rfl))
 ·refine zj g2 (fun v4 h5 g3 => ?_)
  refine zn g3 (fun h6 g4 => ?_) (fun h6 g4 => ?_)
  ·exact zy (g := zzh) g4 (zqc [(28, 1, 1, .c (.tup [(.agg (za v1.1.SlipFloor)), (di v1.2)])), (28, 2, 1, .q (xb false)), (28, 4, 1, .c (.tup [(dl (eL eI) v4.1.1 v4.1.2), (di v4.2.1), (db v4.2.2)])), (28, 5, 1, .q (xb true))] [] (ob (z6j k p0 _ h2) (ob (o_b h3) (ob (z7f k v1.1 _ h5) (ob (o_b h6) ob0)))) (by kernel_rfl))
  ·exact zy (g := zzh) g4 (zqc [(28, 1, 1, .c (.tup [(.agg (za v1.1.SlipFloor)), (di v1.2)])), (28, 2, 1, .q (xb false)), (28, 4, 1, .c (.tup [(dl (eL eI) v4.1.1 v4.1.2), (di v4.2.1), (db v4.2.2)])), (28, 5, 1, .q (xb false)), (28, 7, 2, .q (xi (v4.1.1.length : Int))), (28, 7, 4, .q (xi (v4.1.1.length : Int))), (28, 7, 5, .q (.d (dl (eL eI) v4.1.1 (ccap v4.1.2))))] [] (ob (z6j k p0 _ h2) (ob (o_b h3) (ob (z7f k v1.1 _ h5) (ob (o_b h6) (ob (zr (eL eI) v4.1.1) (ob (zr (eL eI) v4.1.1) (ob (zod (e := (eL eI)) (z := 1) v4.1.1 v4.1.2) ob0))))))) (by kernel_rfl))
theorem zlg (k : Nat) (p0 p1 : Int) (r : Bool) (h : zze k p0 p1 = some r) : zB TE (ev TE) 85 [(di p0), (di p1)] = some (zTj r) := by
 unfold zze at h
 refine zn h (fun h1 g1 => ?_) (fun h1 g1 => ?_)
 ·cases g1
 ·exact zy (g := zTj) g1 (zqc [(85, 1, 2, .q (xi (zSi p0 p1)))] [] (ob (zct (x := p0) h1) ob0) (by kernel_rfl))
noncomputable def zBA (p0 : zd) (s1_6 s1_8 s7_10 s7_11 : Int) (r : Bool) : TM := [(0, (.d (.agg (za p0)))), (1, (xi s1_6)), (zsp 2), (4, (xb false)), (5, (xi s1_8)), (9, (xb true)), (6, (xi s7_10)), (7, (xi s7_11)), (14, (xb true)), (38, (xb r))]
noncomputable def zYb (p0 : zd) (s1_6 s1_8 s7_10 s7_11 : Int) (r : Bool) : St := ⟨(zBA p0 s1_6 s1_8 s7_10 s7_11 r), ⟨[(zc 2 (za p0))], []⟩, []⟩
noncomputable def ziy (p0 : zd) (s1_6 s1_8 s7_10 s7_11 : Int) : TM := [(0, (.d (.agg (za p0)))), (1, (xi s1_6)), (zsp 2), (4, (xb false)), (5, (xi s1_8)), (9, (xb true)), (6, (xi s7_10)), (7, (xi s7_11)), (14, (xb true))]
theorem z9j (k : Nat) (p0 : zd) (s1_6 s1_8 s7_10 s7_11 : Int) (r : Bool) (h : zpd k p0 s1_6 s1_8 s7_10 s7_11 = some r) : ev TE 92 (rgn TE 92 7) ⟨(ziy p0 s1_6 s1_8 s7_10 s7_11), ⟨[(zc 2 (za p0))], []⟩, []⟩ = some (.nor, zYb p0 s1_6 s1_8 s7_10 s7_11 r) := by
 unfold zpd at h
 refine zj h (fun v1101 h1102 g1 => ?_)
 refine zn g1 (fun h1103 g2 => ?_) (fun h1103 g2 => ?_)
 ·refine zn g2 (fun h1104 g3 => ?_) (fun h1104 g3 => ?_)
  ·exact zA (g := fun r => (Ex.nor, zYb p0 s1_6 s1_8 s7_10 s7_11 r)) g3 (zqe [(92, 7, 2, .c (db v1101)), (92, 7, 3, .q (xb true)), (92, 7, 6, .q (xb true))] [] (ob (zlg k s1_6 s7_11 _ h1102) (ob (o_b h1103) (ob (o_b h1104) ob0))) (by kernel_rfl))
  ·refine zj g3 (fun v1105 h1106 g4 => ?_)
   refine zj g4 (fun v1107 h1108 g5 => ?_)
   exact zA (g := fun r => (Ex.nor, zYb p0 s1_6 s1_8 s7_10 s7_11 r)) g5 (zqe [(92, 7, 2, .c (db v1101)), (92, 7, 3, .q (xb true)), (92, 7, 6, .q (xb false)), (92, 7, 10, .q (.d (.pin [(dl zi v1105.Lines.1 v1105.Lines.2), (di v1105.Until)]))), (92, 7, 16, .q (.d (.pin [(dl zi v1107.Lines.1 v1107.Lines.2), (di v1107.Until)])))] [] (ob (zlg k s1_6 s7_11 _ h1102) (ob (o_b h1103) (ob (o_b h1104) (ob (o_ia (e := zl) 2 h1106 rfl) (ob (o_ia (e := zl) 2 h1108 rfl) ob0))))) (by kernel_rfl))
 ·exact zA (g := fun r => (Ex.nor, zYb p0 s1_6 s1_8 s7_10 s7_11 r)) g2 (zqe [(92, 7, 2, .c (db v1101)), (92, 7, 3, .q (xb false))] [] (ob (zlg k s1_6 s7_11 _ h1102) (ob (o_b h1103) ob0)) (by kernel_rfl))
noncomputable def zRA (p0 : zd) (s1_6 s1_8 : Int) (r : zt1) (s7_11 : Int) : TM := [(0, (.d (.agg (za p0)))), (1, (xi s1_6)), (zsp 2), (4, (xb false)), (5, (xi s1_8)), (9, (xb true)), (6, (xi r.1)), (7, (xi s7_11)), (14, (xb true)), (38, (xb r.2))]
noncomputable def z2c (p0 : zd) (s1_6 s1_8 s7_10 s7_11 : Int) (v1002 : Bool) (r : zt1) : St := ⟨(zRA p0 s1_6 s1_8 r s7_11), ⟨[(zc 2 (za p0))], []⟩, []⟩
theorem zhk (k : Nat) (p0 : zd) (s1_6 s1_8 s7_10 s7_11 : Int) (v1002 : Bool) (r : zt1) (h : znd k p0 s1_6 s1_8 s7_10 s7_11 v1002 = some r) : ev TE 92 (cnd TE 92 38) ⟨(ziy p0 s1_6 s1_8 s7_10 s7_11 ++ [(38, (xb v1002))]), ⟨[(zc 2 (za p0))], []⟩, []⟩ = some (.nor, z2c p0 s1_6 s1_8 s7_10 s7_11 v1002 r) := by
 unfold znd at h
 refine zn h (fun h1201 g1 => ?_) (fun h1201 g1 => ?_)
 ·subst h1201
  exact zA (g := fun r => (Ex.nor, z2c p0 s1_6 s1_8 s7_10 s7_11 true r)) g1 (zqe [] [] ob0 (by kernel_rfl))
 ·subst h1201
  exact zA (g := fun r => (Ex.nor, z2c p0 s1_6 s1_8 s7_10 s7_11 false r)) g1 (zqe [] [] ob0 (by kernel_rfl))
noncomputable def zUz (p0 : zd) (s1_6 s1_8 s7_10 s7_11 : Int) : TM := [(0, (.d (.agg (za p0)))), (1, (xi s1_6)), (zsp 2), (4, (xb false)), (5, (xi s1_8)), (9, (xb true)), (6, (xi s7_10)), (7, (xi s7_11))]
noncomputable def zQl (p0 : zd) (s1_6 s1_8 s7_10 s7_11 : Int) : St := ⟨(zUz p0 s1_6 s1_8 s7_10 s7_11), ⟨[(zc 2 (za p0))], []⟩, []⟩
noncomputable def z3z (p0 : zd) (s1_6 s1_8 : Int) (r : zt7) : TM := [(0, (.d (.agg (za p0)))), (1, (xi s1_6)), (zsp 2), (4, (xb false)), (5, (xi s1_8)), (9, (xb true)), (6, (xi r.1)), (7, (xi r.2)), (14, (xb false))]
noncomputable def z2b (p0 : zd) (s1_6 s1_8 : Int) (r : zt7) : St := ⟨(z3z p0 s1_6 s1_8 r), ⟨[(zc 2 (za p0))], []⟩, []⟩
noncomputable def zfl (p0 : zd) (s1_6 s1_8 : Int) : (Int × Int) → Ex × St := fun r => ((.exit 2), z2b p0 s1_6 s1_8 r)
theorem zsg (k : Nat) (p0 : zd) (s1_6 s1_8 s7_10 s7_11 : Int) (x : (Int × Int) ⊕ (Int × Int)) (h : zSb k p0 s1_6 s1_8 s7_10 s7_11 = some x) : zE TE 92 (blk TE 92 2) (fun s : (Int × Int) => zQl p0 s1_6 s1_8 s.1 s.2) (zfl p0 s1_6 s1_8) (s7_10, s7_11) x := by
 unfold zSb at h
 refine zn h (fun h1001 g1 => ?_) (fun h1001 g1 => ?_)
 ·refine zj g1 (fun v1002 h1003 g2 => ?_)
  refine zj g2 (fun v1004 h1005 g3 => ?_)
  exact zqn (v1004.1, (w64 (s7_11 + 1))) [] [(92, 5, 3, .q (xi (p0.Slips.1.length : Int))), (92, 5, 4, .q (xb true))] [(92, 1000007, (.nor, zYb p0 s1_6 s1_8 s7_10 s7_11 v1002)), (92, 2000038, (.nor, z2c p0 s1_6 s1_8 s7_10 s7_11 v1002 v1004))] g3 (ob (zr zl p0.Slips.1) (ob (o_b h1001) (ob (z9j k p0 s1_6 s1_8 s7_10 s7_11 _ h1003) (ob (zhk k p0 s1_6 s1_8 s7_10 s7_11 v1002 _ h1005) ob0)))) (by kernel_rfl)
 ·exact zqo [(92, 5, 3, .q (xi (p0.Slips.1.length : Int))), (92, 5, 4, .q (xb false))] [] g1 (ob (zr zl p0.Slips.1) (ob (o_b h1001) ob0)) (by kernel_rfl)
noncomputable def zdA (p0 : zd) (s1_6 s1_8 : Int) : TM := [(0, (.d (.agg (za p0)))), (1, (xi s1_6)), (zsp 2), (4, (xb false)), (5, (xi s1_8))]
noncomputable def zJl (p0 : zd) (s1_6 s1_8 : Int) : St := ⟨(zdA p0 s1_6 s1_8), ⟨[(zc 2 (za p0))], []⟩, []⟩
noncomputable def zAA (p0 : zd) (r : (Int × Int × Int × Int)) : TM := [(0, (.d (.agg (za p0)))), (1, (xi r.1)), (zsp 2), (4, (xb false)), (5, (xi r.2.1)), (9, (xb true)), (6, (xi r.2.2.1)), (7, (xi r.2.2.2)), (14, (xb false)), (53, (xb true))]
noncomputable def z3d (p0 : zd) (r : (Int × Int × Int × Int)) : St := ⟨(zAA p0 r), ⟨[(zc 2 (za p0))], []⟩, []⟩
noncomputable def z3A (p0 : zd) (r : zt7) : TM := [(0, (.d (.agg (za p0)))), (1, (xi r.1)), (zsp 2), (4, (xb false)), (5, (xi r.2)), (9, (xb false))]
noncomputable def zie (p0 : zd) (r : zt7) : St := ⟨(z3A p0 r), ⟨[(zc 2 (za p0))], []⟩, []⟩
noncomputable def zGl (p0 : zd) : ((Int × Int × Int × Int) ⊕ (Int × Int)) → Ex × St := Sum.elim (fun r => (.ret, z3d p0 r)) (fun r => ((.exit 0), zie p0 r))
theorem zFg (k : Nat) (p0 : zd) (s1_6 s1_8 : Int) (x : (Int × Int) ⊕ ((Int × Int × Int × Int) ⊕ (Int × Int))) (h : zNc k p0 s1_6 s1_8 = some x) : zE TE 92 (blk TE 92 0) (fun s : (Int × Int) => zJl p0 s.1 s.2) (zGl p0) (s1_6, s1_8) x := by
 unfold zNc at h
 refine zn h (fun h701 g1 => ?_) (fun h701 g1 => ?_)
 ·refine zj g1 (fun v702 h703 g2 => ?_)
  refine zj g2 (fun v704 h705 g3 => ?_)
  refine zj g3 (fun v706 h707 g4 => ?_)
  refine zn g4 (fun h708 g5 => ?_) (fun h708 g5 => ?_)
  ·exact zqo [(92, 2, 1, .q (xb true)), (92, 9, 3, .c (.agg [(di v704.Low), (di v704.High)])), (92, 10, 4, .q (.d (.pin [(dl zi v706.Lines.1 v706.Lines.2), (di v706.Until)]))), (92, 10, 7, .q (xb true))] [(92, 2, (.nor, z2b p0 s1_6 s1_8 v702))] g5 (ob (o_b h701) (ob (zx (id := 2) (r' := (.nor, z2b p0 s1_6 s1_8 v702)) (zkb (zsg k p0 s1_6 s1_8) k _ _ h703) rfl) (ob (zef k p0 v702.1 _ h705) (ob (o_ia (e := zl) 2 h707 rfl) (ob (o_b h708) ob0))))) (by kernel_rfl)
  ·refine zn g5 (fun h709 g6 => ?_) (fun h709 g6 => ?_)
   ·cases g6
   ·exact zqn ((w64 (s1_6 - (zo 1 v702.1))), (w64 (s1_8 + v704.High))) [] [(92, 2, 1, .q (xb true)), (92, 9, 3, .c (.agg [(di v704.Low), (di v704.High)])), (92, 10, 4, .q (.d (.pin [(dl zi v706.Lines.1 v706.Lines.2), (di v706.Until)]))), (92, 10, 7, .q (xb false)), (92, 12, 2, .q (xi (zo 1 v702.1)))] [(92, 2, (.nor, z2b p0 s1_6 s1_8 v702))] g6 (ob (o_b h701) (ob (zx (id := 2) (r' := (.nor, z2b p0 s1_6 s1_8 v702)) (zkb (zsg k p0 s1_6 s1_8) k _ _ h703) rfl) (ob (zef k p0 v702.1 _ h705) (ob (o_ia (e := zl) 2 h707 rfl) (ob (o_b h708) (ob (zIb (x := 1) h709) ob0)))))) (by kernel_rfl)
 ·exact zqo [(92, 2, 1, .q (xb false))] [] g1 (ob (o_b h701) ob0) (by kernel_rfl)
theorem zSm (k : Nat) (p0 : zd) (p1 : Int) (r : Bool) (h : ztd k p0 p1 = some r) : zB TE (ev TE) 92 [(.agg (za p0)), (di p1)] = some (zDf r) := by
 unfold ztd at h
 refine zj h (fun v1 h2 g1 => ?_)
 refine zPb g1 (fun v4 hh g2_0 => ?_) (fun v4 hh g2_0 => ?_)
 ·subst hh
  exact zy (g := zDf) g2_0 (zqc [] [(92, 0, (.ret, z3d p0 v4))] (ob (zx (id := 0) (r' := (.ret, z3d p0 v4)) (zkb (zFg k p0) k _ _ h2) rfl) ob0) (by kernel_rfl))
 ·subst hh
  exact zy (g := zDf) g2_0 (zqc [] [(92, 0, (.nor, zie p0 v4))] (ob (zx (id := 0) (r' := (.nor, zie p0 v4)) (zkb (zFg k p0) k _ _ h2) rfl) ob0) (by kernel_rfl))
noncomputable def zfA (p0 : zd) (s1_14 : (List Bool)) (s1_7 : Int) : TM := [(0, (.d (.agg (za p0)))), (zsp 1), (2, (.d (.sl [] .nil))), (3, (.row 0 3 s1_14.length)), (4, (xi s1_7))]
noncomputable def z5l (p0 : zd) (s1_7 : Int) (s1_14 : (List Bool)) : St := ⟨(zfA p0 s1_14 s1_7), ⟨[(zc 1 (za p0)), (3, (rowO true 1 eB s1_14 true))], []⟩, []⟩
noncomputable def zZA (p0 : zd) (r : (Int × (List Bool))) : TM := [(0, (.d (.agg (za p0)))), (zsp 1), (2, (.d (.sl [] .nil))), (3, (.row 0 3 r.2.length)), (4, (xi r.1)), (10, (xb false))]
noncomputable def zge (p0 : zd) (r : (Int × (List Bool))) : St := ⟨(zZA p0 r), ⟨[(zc 1 (za p0)), (3, (rowO true 1 eB r.2 true))], []⟩, []⟩
noncomputable def zHl (p0 : zd) : (Int × (List Bool)) → Ex × St := fun r => ((.exit 0), zge p0 r)
theorem zBk (k : Nat) (p0 : zd) (s1_7 : Int) (s1_14 : (List Bool)) (x : (Int × (List Bool)) ⊕ (Int × (List Bool))) (h : zLc k p0 s1_7 s1_14 = some x) : zE TE 88 (blk TE 88 0) (fun s : (Int × (List Bool)) => z5l p0 s.1 s.2) (zHl p0) (s1_7, s1_14) x := by
 unfold zLc at h
 refine zn h (fun h201 g1 => ?_) (fun h201 g1 => ?_)
 ·cases g1
 ·refine zn g1 (fun h202 g2 => ?_) (fun h202 g2 => ?_)
  ·refine zj g2 (fun v203 h204 g3 => ?_)
   refine zO g3 (fun h205 g4 => ?_)
   exact zqn ((w64 (s1_7 + 1)), (s1_14 ++ [v203])) [3] [(88, 3, 3, .q (xi (p0.Slips.1.length : Int))), (88, 3, 4, .q (xi (zo 1 (p0.Slips.1.length : Int)))), (88, 3, 5, .q (xb true)), (88, 5, 3, .c (db v203)), (88, 5, 5, .ap (s1_14 ++ [v203]).length (rowO true 1 eB (s1_14 ++ [v203]) true))] [] g4 (ob (zr zl p0.Slips.1) (ob (zIb (x := 1) h201) (ob (o_b h202) (ob (zSm k p0 s1_7 _ h204) (ob (o_ap (b := true) (z := 1) (e := eB) (l := s1_14) (w := true) v203 (fun _ => rfl) h205) (ob (zlf true 1 eB (s1_14 ++ [v203]) true) ob0)))))) (by kernel_rfl)
  ·exact zqo [(88, 3, 3, .q (xi (p0.Slips.1.length : Int))), (88, 3, 4, .q (xi (zo 1 (p0.Slips.1.length : Int)))), (88, 3, 5, .q (xb false))] [] g2 (ob (zr zl p0.Slips.1) (ob (zIb (x := 1) h201) (ob (o_b h202) ob0))) (by kernel_rfl)
theorem z0m (k : Nat) (p0 : zd) (r : (SL Bool)) (h : zxd k p0 = some r) : zB TE (ev TE) 88 [(.agg (za p0))] = some (zfi r) := by
 unfold zxd at h
 refine zj h (fun v1 h2 g1 => ?_)
 exact zy (g := zfi) g1 (zqr [] [(88, 0, (.nor, zge p0 v1))] [(dl eB v1.2 (rcap true v1.2))] (ob (zx (id := 0) (r' := (.nor, zge p0 v1)) (zkb (zBk k p0) k _ _ h2) rfl) (ob (show zcc ⟨[(3, (rowO true 1 eB v1.2 true))], []⟩ _ = _ from (o_s1 (x := (.row 0 3 v1.2.length)) (znm true 1 eB v1.2 true rfl) o_s0)) ob0)) (by kernel_rfl))
noncomputable def zZz (p0 : zd) (v1 : (SL Bool)) (s1_15 : zt3) (s1_8 : Int) (r : zt1) (s5_11 : Int) : TM := [(0, (.d (.agg (za p0)))), (zsp 1), (2, (.d (.sl [] .nil))), (3, (.d (dl eB v1.1 v1.2))), (4, (.row 0 10 s1_15.length)), (5, (xi s1_8)), (14, (xb true)), (6, (xi r.1)), (7, (xi s5_11)), (19, (xb true)), (27, (xb r.2))]
noncomputable def z1c (p0 : zd) (v1 : (SL Bool)) (s1_8 : Int) (s1_15 : zt3) (s5_10 s5_11 : Int) (v702 : Bool) (r : zt1) : St := ⟨(zZz p0 v1 s1_15 s1_8 r s5_11), ⟨[(zc 1 (za p0)), (10, (rowO false 1 eI s1_15 true))], []⟩, []⟩
noncomputable def zqA (p0 : zd) (v1 : (SL Bool)) (s1_15 : zt3) (s1_8 s5_10 s5_11 : Int) (v702 : Bool) : TM := [(0, (.d (.agg (za p0)))), (zsp 1), (2, (.d (.sl [] .nil))), (3, (.d (dl eB v1.1 v1.2))), (4, (.row 0 10 s1_15.length)), (5, (xi s1_8)), (14, (xb true)), (6, (xi s5_10)), (7, (xi s5_11)), (19, (xb true)), (27, (xb v702))]
theorem zck (k : Nat) (p0 : zd) (v1 : (SL Bool)) (s1_8 : Int) (s1_15 : zt3) (s5_10 s5_11 : Int) (v702 : Bool) (r : zt1) (h : zfc k p0 v1 s1_8 s1_15 s5_10 s5_11 v702 = some r) : ev TE 75 (cnd TE 75 27) ⟨(zqA p0 v1 s1_15 s1_8 s5_10 s5_11 v702), ⟨[(zc 1 (za p0)), (10, (rowO false 1 eI s1_15 true))], []⟩, []⟩ = some (.nor, z1c p0 v1 s1_8 s1_15 s5_10 s5_11 v702 r) := by
 unfold zfc at h
 refine zn h (fun h801 g1 => ?_) (fun h801 g1 => ?_)
 ·subst h801
  refine zj g1 (fun v802 h803 g2 => ?_)
  exact zA (g := fun r => (Ex.nor, z1c p0 v1 s1_8 s1_15 s5_10 s5_11 true r)) g2 (zqe [(75, 11, 5, .q (.rp 0 10 s1_15.length (w64 (s1_8 - s5_11)).toNat 0)), (75, 11, 6, .q (xi v802))] [] (ob (zqa 22 8 0 10 (w64 (s1_8 - s5_11)) false 1 eI s1_15 true (by kernel_rfl) (by kernel_rfl) h803) (ob (zql 3 (1, false) 0 10 0 (w64 (s1_8 - s5_11)) (xi v802) false 1 eI s1_15 true (by kernel_rfl) h803 (by kernel_rfl)) ob0)) (by kernel_rfl))
 ·subst h801
  exact zA (g := fun r => (Ex.nor, z1c p0 v1 s1_8 s1_15 s5_10 s5_11 false r)) g1 (zqe [] [] ob0 (by kernel_rfl))
noncomputable def zgA (p0 : zd) (v1 : (SL Bool)) (s1_15 : zt3) (s1_8 s5_10 s5_11 : Int) : TM := [(0, (.d (.agg (za p0)))), (zsp 1), (2, (.d (.sl [] .nil))), (3, (.d (dl eB v1.1 v1.2))), (4, (.row 0 10 s1_15.length)), (5, (xi s1_8)), (14, (xb true)), (6, (xi s5_10)), (7, (xi s5_11))]
noncomputable def zGk (p0 : zd) (v1 : (SL Bool)) (s1_8 : Int) (s1_15 : zt3) (s5_10 s5_11 : Int) : St := ⟨(zgA p0 v1 s1_15 s1_8 s5_10 s5_11), ⟨[(zc 1 (za p0)), (10, (rowO false 1 eI s1_15 true))], []⟩, []⟩
noncomputable def z8A (p0 : zd) (v1 : (SL Bool)) (s1_15 : zt3) (s1_8 : Int) (r : zt7) : TM := [(0, (.d (.agg (za p0)))), (zsp 1), (2, (.d (.sl [] .nil))), (3, (.d (dl eB v1.1 v1.2))), (4, (.row 0 10 s1_15.length)), (5, (xi s1_8)), (14, (xb true)), (6, (xi r.1)), (7, (xi r.2)), (19, (xb false))]
noncomputable def zXd (p0 : zd) (v1 : (SL Bool)) (s1_8 : Int) (s1_15 : zt3) (r : zt7) : St := ⟨(z8A p0 v1 s1_15 s1_8 r), ⟨[(zc 1 (za p0)), (10, (rowO false 1 eI s1_15 true))], []⟩, []⟩
noncomputable def zJk (p0 : zd) (v1 : (SL Bool)) (s1_8 : Int) (s1_15 : zt3) : (Int × Int) → Ex × St := fun r => ((.exit 2), zXd p0 v1 s1_8 s1_15 r)
theorem zik (k : Nat) (p0 : zd) (v1 : (SL Bool)) (s1_8 : Int) (s1_15 : zt3) (s5_10 s5_11 : Int) (x : (Int × Int) ⊕ (Int × Int)) (h : zMb k p0 v1 s1_8 s1_15 s5_10 s5_11 = some x) : zE TE 75 (blk TE 75 2) (fun s : (Int × Int) => zGk p0 v1 s1_8 s1_15 s.1 s.2) (zJk p0 v1 s1_8 s1_15) (s5_10, s5_11) x := by
 unfold zMb at h
 refine zn h (fun h701 g1 => ?_) (fun h701 g1 => ?_)
 ·refine zj g1 (fun v702 h703 g2 => ?_)
  refine zj g2 (fun v704 h705 g3 => ?_)
  exact zqn (v704.1, (zSc (w64 (s5_11 - 1)) s1_8)) [10] [(75, 8, 1, .q (xb true)), (75, 10, 2, .q (.d (.pin [(db v702)])))] [(75, 2000027, (.nor, z1c p0 v1 s1_8 s1_15 s5_10 s5_11 v702 v704))] g3 (ob (o_b h701) (ob (o_ia (e := eB) 1 h703 rfl) (ob (zck k p0 v1 s1_8 s1_15 s5_10 s5_11 v702 _ h705) (ob (zlf false 1 eI s1_15 true) ob0)))) (by kernel_rfl)
 ·exact zqo [(75, 8, 1, .q (xb false))] [] g1 (ob (o_b h701) ob0) (by kernel_rfl)
noncomputable def zDA (p0 : zd) (v1 : (SL Bool)) (s1_15 : zt3) (s1_8 : Int) : TM := [(0, (.d (.agg (za p0)))), (zsp 1), (2, (.d (.sl [] .nil))), (3, (.d (dl eB v1.1 v1.2))), (4, (.row 0 10 s1_15.length)), (5, (xi s1_8))]
noncomputable def zCk (p0 : zd) (v1 : (SL Bool)) (s1_8 : Int) (s1_15 : zt3) : St := ⟨(zDA p0 v1 s1_15 s1_8), ⟨[(zc 1 (za p0)), (10, (rowO false 1 eI s1_15 true))], []⟩, []⟩
noncomputable def zGz (p0 : zd) (v1 : (SL Bool)) (r : zt2) : TM := [(0, (.d (.agg (za p0)))), (zsp 1), (2, (.d (.sl [] .nil))), (3, (.d (dl eB v1.1 v1.2))), (4, (.row 0 10 r.2.length)), (5, (xi r.1)), (14, (xb false))]
noncomputable def zWd (p0 : zd) (v1 : (SL Bool)) (r : zt2) : St := ⟨(zGz p0 v1 r), ⟨[(zc 1 (za p0)), (10, (rowO false 1 eI r.2 true))], []⟩, []⟩
noncomputable def zEk (p0 : zd) (v1 : (SL Bool)) : (Int × (List Int)) → Ex × St := fun r => ((.exit 0), zWd p0 v1 r)
theorem zak (k : Nat) (p0 : zd) (v1 : (SL Bool)) (s1_8 : Int) (s1_15 : zt3) (x : (Int × (List Int)) ⊕ (Int × (List Int))) (h : znc k p0 v1 s1_8 s1_15 = some x) : zE TE 75 (blk TE 75 0) (fun s : (Int × (List Int)) => zCk p0 v1 s.1 s.2) (zEk p0 v1) (s1_8, s1_15) x := by
 unfold znc at h
 refine zn h (fun h501 g1 => ?_) (fun h501 g1 => ?_)
 ·refine zj g1 (fun v502 h503 g2 => ?_)
  refine zO g2 (fun h504 g3 => ?_)
  exact zqn ((w64 (s1_8 + 1)), (s1_15 ++ [v502.1])) [10] [(75, 4, 2, .q (xi (v1.1.length : Int))), (75, 4, 3, .q (xb true)), (75, 12, 3, .ap (s1_15 ++ [v502.1]).length (rowO false 1 eI (s1_15 ++ [v502.1]) true))] [(75, 2, (.nor, zXd p0 v1 s1_8 s1_15 v502))] g3 (ob (zr eB v1.1) (ob (o_b h501) (ob (zx (id := 2) (r' := (.nor, zXd p0 v1 s1_8 s1_15 v502)) (zkb (zik k p0 v1 s1_8 s1_15) k _ _ h503) rfl) (ob (o_ap (b := false) (z := 1) (e := eI) (l := s1_15) (w := true) v502.1 (fun _ => rfl) h504) (ob (zlf false 1 eI (s1_15 ++ [v502.1]) true) ob0))))) (by kernel_rfl)
 ·exact zqo [(75, 4, 2, .q (xi (v1.1.length : Int))), (75, 4, 3, .q (xb false))] [] g1 (ob (zr eB v1.1) (ob (o_b h501) ob0)) (by kernel_rfl)
theorem zbh (k : Nat) (p0 : zd) (r : (SL Int)) (h : zcd k p0 = some r) : zB TE (ev TE) 75 [(.agg (za p0))] = some (zlh r) := by
 unfold zcd at h
 refine zj h (fun v1 h2 g1 => ?_)
 refine zj g1 (fun v3 h4 g2 => ?_)
 exact zy (g := zlh) g2 (zqr [(75, 1, 1, .c (dl eB v1.1 v1.2))] [(75, 0, (.nor, zWd p0 v1 v3))] [(dl eI v3.2 (rcap false v3.2))] (ob (z0m k p0 _ h2) (ob (zx (id := 0) (r' := (.nor, zWd p0 v1 v3)) (zkb (zak k p0 v1) k _ _ h4) rfl) (ob (show zcc ⟨[(10, (rowO false 1 eI v3.2 true))], []⟩ _ = _ from (o_s1 (x := (.row 0 10 v3.2.length)) (znm false 1 eI v3.2 true rfl) o_s0)) ob0))) (by kernel_rfl))
theorem zSl (k : Nat) (p0 : zd) (r : zt7) (h : zXc k p0 = some r) : zB TE (ev TE) 29 [(.agg (za p0))] = some (zmd r) := by
 unfold zXc at h
 refine zj h (fun v1 h2 g1 => ?_)
 refine zn g1 (fun h3 g2 => ?_) (fun h3 g2 => ?_)
 ·exact zy (g := zmd) g2 (zqc [(29, 1, 1, .c (di v1)), (29, 2, 1, .q (xb true))] [] (ob (zTb k p0 _ h2) (ob (o_b h3) ob0)) (by kernel_rfl))
 ·refine zj g2 (fun v4 h5 g3 => ?_)
  refine zn g3 (fun h6 g4 => ?_) (fun h6 g4 => ?_)
  ·cases g4
  ·refine zj g4 (fun v7 h8 g5 => ?_)
   refine zn g5 (fun h9 g6 => ?_) (fun h9 g6 => ?_)
   ·exact zy (g := zmd) g6 (zqc [(29, 1, 1, .c (di v1)), (29, 2, 1, .q (xb false)), (29, 4, 1, .c (dl eI v4.1 v4.2)), (29, 4, 4, .q (xi (p0.Slips.1.length : Int))), (29, 4, 5, .q (xi (zo 1 (p0.Slips.1.length : Int)))), (29, 4, 7, .q (.d (.pin [(di v7)]))), (29, 5, 1, .q (xb true))] [] (ob (zTb k p0 _ h2) (ob (o_b h3) (ob (zbh k p0 _ h5) (ob (zr zl p0.Slips.1) (ob (zIb (x := 1) h6) (ob (o_ia (e := eI) 1 h8 rfl) (ob (o_b h9) ob0))))))) (by kernel_rfl))
   ·exact zy (g := zmd) g6 (zqc [(29, 1, 1, .c (di v1)), (29, 2, 1, .q (xb false)), (29, 4, 1, .c (dl eI v4.1 v4.2)), (29, 4, 4, .q (xi (p0.Slips.1.length : Int))), (29, 4, 5, .q (xi (zo 1 (p0.Slips.1.length : Int)))), (29, 4, 7, .q (.d (.pin [(di v7)]))), (29, 5, 1, .q (xb false))] [] (ob (zTb k p0 _ h2) (ob (o_b h3) (ob (zbh k p0 _ h5) (ob (zr zl p0.Slips.1) (ob (zIb (x := 1) h6) (ob (o_ia (e := eI) 1 h8 rfl) (ob (o_b h9) ob0))))))) (by kernel_rfl))
theorem zgb (k : Nat) (p0 p1 : Int) (r : zk) (h : zjb k p0 p1 = some r) : zB TE (ev TE) 51 [(di p0), (di p1)] = some (zQj r) := by
 unfold zjb at h
 exact zy (g := zQj) h (zqc [] [] ob0 (by kernel_rfl))
theorem zmb (k : Nat) (r : zd) (h : zhb k = some r) : zB TE (ev TE) 50 [] = some (z2h r) := by
 unfold zhb at h
 refine zj h (fun v1 h2 g1 => ?_)
 refine zj g1 (fun v3 h4 g2 => ?_)
 refine zj g2 (fun v5 h6 g3 => ?_)
 refine zj g3 (fun v7 h8 g4 => ?_)
 refine zj g4 (fun v9 h10 g5 => ?_)
 refine zj g5 (fun v11 h12 g6 => ?_)
 refine zj g6 (fun v13 h14 g7 => ?_)
 refine zj g7 (fun v15 h16 g8 => ?_)
 refine zj g8 (fun v17 h18 g9 => ?_)
 refine zj g9 (fun v19 h20 g10 => ?_)
 exact zy (g := z2h) g10 (zqc [(50, 1, 1, .c (.agg [(di v1.Low), (di v1.High)])), (50, 1, 2, .c (.agg [(di v3.Low), (di v3.High)])), (50, 1, 3, .c (.agg [(di v5.Low), (di v5.High)])), (50, 1, 4, .c (.agg [(di v7.Low), (di v7.High)])), (50, 1, 6, .c (.agg [(di v9.Shelf), (di v9.Many)])), (50, 1, 7, .c (.agg [(di v11.Shelf), (di v11.Many)])), (50, 1, 10, .c (.agg [(di v13.Shelf), (di v13.Many)])), (50, 1, 13, .c (.agg [(di v15.Shelf), (di v15.Many)])), (50, 1, 16, .c (.agg [(di v17.Shelf), (di v17.Many)])), (50, 1, 17, .c (.agg [(di v19.Shelf), (di v19.Many)]))] [] (ob (zX k 1 2 _ h2) (ob (zX k 5 8 _ h4) (ob (zX k 5 10 _ h6) (ob (zX k 10 12 _ h8) (ob (zgb k 0 2 _ h10) (ob (zgb k 2 3 _ h12) (ob (zgb k 1 4 _ h14) (ob (zgb k 0 1 _ h16) (ob (zgb k 1 1 _ h18) (ob (zgb k 2 6 _ h20) ob0)))))))))) (by kernel_rfl))
theorem zVs (k : Nat) (p0 : zd) (p1 : Int) (r : zt7) (h : zgo k p0 p1 = some r) : zB TE (ev TE) 18 [(.agg (za p0)), (di p1)] = some (zti r) := by
 unfold zgo at h
 refine zj h (fun v1 h2 g1 => ?_)
 refine zn g1 (fun h3 g2 => ?_) (fun h3 g2 => ?_)
 ·exact zy (g := zti) g2 (zqc [(52, 1, 1, .c (di v1)), (52, 2, 1, .q (xb true)), (18, 2, 1, .q (xb true))] [] (ob (zQ k p0 _ h2) (ob (o_b h3) (ob (o_b h3) ob0))) (by kernel_rfl))
 ·refine zj g2 (fun v4 h5 g3 => ?_)
  refine zn g3 (fun h6 g4 => ?_) (fun h6 g4 => ?_)
  ·exact zy (g := zti) g4 (zqc [(52, 1, 1, .c (di v1)), (52, 2, 1, .q (xb false)), (63, 1, 2, .c (db v4)), (52, 4, 4, .q (xb true))] [] (ob (zQ k p0 _ h2) (ob (o_b h3) (ob (zab k (⟨p0⟩ : zh) p1 _ h5) (ob (o_b h6) ob0)))) (by kernel_rfl))
  ·refine zj g4 (fun v7 h8 g5 => ?_)
   exact zy (g := zti) g5 (zqc [(52, 1, 1, .c (di v1)), (52, 2, 1, .q (xb false)), (63, 1, 2, .c (db v4)), (52, 4, 4, .q (xb false)), (18, 4, 2, .c (di v7))] [] (ob (zQ k p0 _ h2) (ob (o_b h3) (ob (zab k (⟨p0⟩ : zh) p1 _ h5) (ob (o_b h6) (ob (zog k (⟨p0⟩ : zh) p1 _ h8) ob0))))) (by kernel_rfl))
noncomputable def zEA (v7 : zt5) (s8_8 s8_9 : Int) : TM := [(0, (.yld 0)), (1, (.d (.pin [(dl eI v7.1.1 v7.1.2), (di v7.2.1), (di v7.2.2.1), (dl zq v7.2.2.2.1.1 v7.2.2.2.1.2), (di v7.2.2.2.2.1), (dl zl v7.2.2.2.2.2.1.1 v7.2.2.2.2.2.1.2)]))), (2, (.d (.pin [(di v7.2.2.2.2.2.2)]))), (4, (.ptr 1 4 0)), (14, (xb true)), (5, (.ptr 1 5 0)), (6, (xi s8_8)), (7, (xi s8_9))]
noncomputable def zvm (p0 : zd) (p1 : Int) (v7 : zt5) : TM := [(0, (.d (.agg (za p0)))), (1, (xi p1)), (zsp 2), (zsp 3), (4, (.d (.sl [] .nil))), (5, (xi 0)), (zsp 6), (7, (xi 0)), (20, (xb false)), (zsp 8), (24, (.d (.fn 86 [] [(.pin [(dl eI v7.1.1 v7.1.2), (di v7.2.1), (di v7.2.2.1), (dl zq v7.2.2.2.1.1 v7.2.2.2.1.2), (di v7.2.2.2.2.1), (dl zl v7.2.2.2.2.2.1.1 v7.2.2.2.2.2.1.2)]), (.pin [(di v7.2.2.2.2.2.2)])])))]
noncomputable def zVq (p0 : zd) (p1 : Int) (v7 : zt5) (s1_21 : zt13) (s8_8 s8_9 : Int) (s8_10 s8_11 : zt6) : St := ⟨(zEA v7 s8_8 s8_9), ⟨[(zc 4 (aI 12 s8_10)), (zc 5 (aI 12 s8_11))], [[(zc 2 (za p0)), (3, (.cells [(xi p1)])), (zc 6 (za p0)), (2128, (rowO true 1 (eL zi) s1_21 true)), (8, (.cells [(.row 0 2128 s1_21.length)]))]]⟩, [⟨(zvm p0 p1 v7), 0, rfP (blk TE 22 0), rfA (blk TE 22 0), rfB (blk TE 22 0), 22, .rdy⟩]⟩
noncomputable def zWA (v7 : zt5) (r : zt12) : TM := [(0, (.yld 0)), (1, (.d (.pin [(dl eI v7.1.1 v7.1.2), (di v7.2.1), (di v7.2.2.1), (dl zq v7.2.2.2.1.1 v7.2.2.2.1.2), (di v7.2.2.2.2.1), (dl zl v7.2.2.2.2.2.1.1 v7.2.2.2.2.2.1.2)]))), (2, (.d (.pin [(di v7.2.2.2.2.2.2)]))), (4, (.ptr 1 4 0)), (14, (xb true)), (5, (.ptr 1 5 0)), (6, (xi r.1)), (7, (xi r.2.1)), (24, (xb false))]
noncomputable def zTh (p0 : zd) (p1 : Int) (v7 : zt5) (s1_21 : zt13) (r : zt12) : St := ⟨(zWA v7 r), ⟨[(zc 4 (aI 12 r.2.2.1)), (zc 5 (aI 12 r.2.2.2))], [[(zc 2 (za p0)), (3, (.cells [(xi p1)])), (zc 6 (za p0)), (2128, (rowO true 1 (eL zi) s1_21 true)), (8, (.cells [(.row 0 2128 s1_21.length)]))]]⟩, [⟨(zvm p0 p1 v7), 0, rfP (blk TE 22 0), rfA (blk TE 22 0), rfB (blk TE 22 0), 22, .rdy⟩]⟩
noncomputable def z1q (p0 : zd) (p1 : Int) (v7 : zt5) (s1_21 : zt13) : (Int × Int × (Nat → Int) × (Nat → Int)) → Ex × St := fun r => ((.exit 2), zTh p0 p1 v7 s1_21 r)
theorem zsq (k : Nat) (p0 : zd) (p1 : Int) (v7 : zt5) (s1_21 : zt13) (s8_8 s8_9 : Int) (s8_10 s8_11 : zt6) (x : (Int × Int × (Nat → Int) × (Nat → Int)) ⊕ (Int × Int × (Nat → Int) × (Nat → Int))) (h : zbk k p0 p1 v7 s1_21 s8_8 s8_9 s8_10 s8_11 = some x) : zE TE 86 (blk TE 86 2) (fun s : (Int × Int × (Nat → Int) × (Nat → Int)) => zVq p0 p1 v7 s1_21 s.1 s.2.1 s.2.2.1 s.2.2.2) (z1q p0 p1 v7 s1_21) (s8_8, s8_9, s8_10, s8_11) x := by
 unfold zbk at h
 refine zn h (fun h901 g1 => ?_) (fun h901 g1 => ?_)
 ·refine zO g1 (fun h902 g2 => ?_)
  exact zqn ((w64 (s8_8 - (if (s8_10 s8_9.toNat) < s8_8 then (s8_10 s8_9.toNat) else s8_8))), (w64 (s8_9 - 1)), (upd s8_10 s8_9.toNat (w64 ((s8_10 s8_9.toNat) - (if (s8_10 s8_9.toNat) < s8_8 then (s8_10 s8_9.toNat) else s8_8)))), (upd s8_11 s8_9.toNat (if (s8_10 s8_9.toNat) < s8_8 then (s8_10 s8_9.toNat) else s8_8))) [] [(86, 5, 1, .q (xb true)), (86, 7, 2, .q (.ptr 1 4 (s8_9.toNat))), (86, 7, 3, .q (xi (s8_10 s8_9.toNat))), (86, 8, 4, .q (.ptr 1 4 (s8_9.toNat))), (86, 8, 5, .q (xi (s8_10 s8_9.toNat))), (86, 8, 11, .q (.ptr 1 5 (s8_9.toNat))), (86, 8, 12, .st ((aI 12 (upd s8_11 s8_9.toNat (if (s8_10 s8_9.toNat) < s8_8 then (s8_10 s8_9.toNat) else s8_8))).map .d)), (86, 8, 13, .q (.ptr 1 4 (s8_9.toNat))), (86, 8, 14, .st ((aI 12 (upd s8_10 s8_9.toNat (w64 ((s8_10 s8_9.toNat) - (if (s8_10 s8_9.toNat) < s8_8 then (s8_10 s8_9.toNat) else s8_8))))).map .d))] [] g2 (ob (o_b h901) (ob (zrf (m := 12) 1 4 0 1 s8_9.toNat h902 (by omega)) (ob (z8n 12 s8_10 s8_9.toNat (by have := h902; simp only [Bool.and_eq_true, decide_eq_true_eq] at this; omega)) (ob (zrf (m := 12) 1 4 0 1 s8_9.toNat h902 (by omega)) (ob (z8n 12 s8_10 s8_9.toNat (by have := h902; simp only [Bool.and_eq_true, decide_eq_true_eq] at this; omega)) (ob (zrf (m := 12) 1 5 0 1 s8_9.toNat h902 (by omega)) (ob (zmp 12 s8_11 s8_9.toNat (if (s8_10 s8_9.toNat) < s8_8 then (s8_10 s8_9.toNat) else s8_8) (by have := h902; simp only [Bool.and_eq_true, decide_eq_true_eq] at this; omega)) (ob (zrf (m := 12) 1 4 0 1 s8_9.toNat h902 (by omega)) (ob (zmp 12 s8_10 s8_9.toNat (w64 ((s8_10 s8_9.toNat) - (if (s8_10 s8_9.toNat) < s8_8 then (s8_10 s8_9.toNat) else s8_8))) (by have := h902; simp only [Bool.and_eq_true, decide_eq_true_eq] at this; omega)) ob0))))))))) (by kernel_rfl)
 ·exact zqo [(86, 5, 1, .q (xb false))] [] g1 (ob (o_b h901) ob0) (by kernel_rfl)
noncomputable def zbB (p0 : zd) (p1 : Int) (v7 : zt5) (v804 : zt12) (s9_22 : (List zk)) (s9_20 : Int) : TM := zvm p0 p1 v7 ++ [(25, (.d (.agg (aI 12 v804.2.2.2)))), (9, (.ptr 2 9 0)), (10, (.row 2 10 s9_22.length)), (26, (.d (.agg (aI 12 v804.2.2.2)))), (27, (xi s9_20))]
noncomputable def znr (p0 : zd) (p1 : Int) (v7 : zt5) (s1_21 : zt13) (v804 : zt12) (s9_20 : Int) (s9_22 : (List zk)) : St := ⟨(zbB p0 p1 v7 v804 s9_22 s9_20), ⟨[(zc 9 (aI 12 v804.2.2.2)), (10, (rowO true 2 zi s9_22 true))], [[(zc 2 (za p0)), (3, (.cells [(xi p1)])), (zc 6 (za p0)), (2128, (rowO true 1 (eL zi) s1_21 true)), (8, (.cells [(.row 0 2128 s1_21.length)]))], [(zc 4 (aI 12 v804.2.2.1)), (zc 5 (aI 12 v804.2.2.2))]]⟩, [⟨(zvm p0 p1 v7), 0, rfP (blk TE 22 0), rfA (blk TE 22 0), rfB (blk TE 22 0), 22, .busy⟩]⟩
noncomputable def zJz (p0 : zd) (p1 : Int) (v7 : zt5) (v804 : zt12) (r : (Int × (List zk))) : TM := zvm p0 p1 v7 ++ [(25, (.d (.agg (aI 12 v804.2.2.2)))), (9, (.ptr 2 9 0)), (10, (.row 2 10 r.2.length)), (26, (.d (.agg (aI 12 v804.2.2.2)))), (27, (xi r.1)), (28, (xb false))]
noncomputable def zXh (p0 : zd) (p1 : Int) (v7 : zt5) (s1_21 : zt13) (v804 : zt12) (r : (Int × (List zk))) : St := ⟨(zJz p0 p1 v7 v804 r), ⟨[(zc 9 (aI 12 v804.2.2.2)), (10, (rowO true 2 zi r.2 true))], [[(zc 2 (za p0)), (3, (.cells [(xi p1)])), (zc 6 (za p0)), (2128, (rowO true 1 (eL zi) s1_21 true)), (8, (.cells [(.row 0 2128 s1_21.length)]))], [(zc 4 (aI 12 v804.2.2.1)), (zc 5 (aI 12 v804.2.2.2))]]⟩, [⟨(zvm p0 p1 v7), 0, rfP (blk TE 22 0), rfA (blk TE 22 0), rfB (blk TE 22 0), 22, .busy⟩]⟩
noncomputable def zvq (p0 : zd) (p1 : Int) (v7 : zt5) (s1_21 : zt13) (v804 : zt12) : (Int × (List zk)) → Ex × St := fun r => ((.exit 2), zXh p0 p1 v7 s1_21 v804 r)
theorem zhq (k : Nat) (p0 : zd) (p1 : Int) (v7 : zt5) (s1_21 : zt13) (v804 : zt12) (s9_20 : Int) (s9_22 : (List zk)) (x : (Int × (List zk)) ⊕ (Int × (List zk))) (h : z0j k p0 p1 v7 s1_21 v804 s9_20 s9_22 = some x) : zE TE 22 (blk TE 22 2) (fun s : (Int × (List zk)) => znr p0 p1 v7 s1_21 v804 s.1 s.2) (zvq p0 p1 v7 s1_21 v804) (s9_20, s9_22) x := by
 unfold z0j at h
 refine zn h (fun h1101 g1 => ?_) (fun h1101 g1 => ?_)
 ·refine zO g1 (fun h1102 g2 => ?_)
  refine zn g2 (fun h1103 g3 => ?_) (fun h1103 g3 => ?_)
  ·refine zO g3 (fun h1104 g4 => ?_)
   exact zqn ((w64 (s9_20 + 1)), (s9_22 ++ [(⟨s9_20, (v804.2.2.2 s9_20.toNat)⟩ : zk)])) [10] [(22, 9, 0, .q (xb true)), (22, 10, 1, .q (xi (v804.2.2.2 s9_20.toNat))), (22, 11, 1, .q (xb true)), (22, 12, 5, .ap (s9_22 ++ [(⟨s9_20, (v804.2.2.2 s9_20.toNat)⟩ : zk)]).length (rowO true 2 zi (s9_22 ++ [(⟨s9_20, (v804.2.2.2 s9_20.toNat)⟩ : zk)]) true))] [] g4 (ob (o_b h1101) (ob (zky 12 v804.2.2.2 s9_20 h1102) (ob (o_b h1103) (ob (o_ap (b := true) (z := 2) (e := zi) (l := s9_22) (w := true) (⟨s9_20, (v804.2.2.2 s9_20.toNat)⟩ : zk) (fun _ => rfl) h1104) (ob (zlf true 2 zi (s9_22 ++ [(⟨s9_20, (v804.2.2.2 s9_20.toNat)⟩ : zk)]) true) ob0))))) (by kernel_rfl)
  ·exact zqn ((w64 (s9_20 + 1)), s9_22) [10] [(22, 9, 0, .q (xb true)), (22, 10, 1, .q (xi (v804.2.2.2 s9_20.toNat))), (22, 11, 1, .q (xb false))] [] g3 (ob (o_b h1101) (ob (zky 12 v804.2.2.2 s9_20 h1102) (ob (o_b h1103) (ob (zlf true 2 zi s9_22 true) ob0)))) (by kernel_rfl)
 ·exact zqo [(22, 9, 0, .q (xb false))] [] g1 (ob (o_b h1101) ob0) (by kernel_rfl)
noncomputable def zgy (v7 : zt5) : TM := [(0, (.yld 0)), (1, (.d (.pin [(dl eI v7.1.1 v7.1.2), (di v7.2.1), (di v7.2.2.1), (dl zq v7.2.2.2.1.1 v7.2.2.2.1.2), (di v7.2.2.2.2.1), (dl zl v7.2.2.2.2.2.1.1 v7.2.2.2.2.2.1.2)]))), (2, (.d (.pin [(di v7.2.2.2.2.2.2)]))), (4, (.ptr 1 4 0))]
noncomputable def zYq (p0 : zd) (p1 : Int) (v7 : zt5) (s1_7 : zt6) (s1_21 : zt13) : St := ⟨(zgy v7), ⟨[(zc 4 (aI 12 s1_7))], [[(zc 2 (za p0)), (3, (.cells [(xi p1)])), (zc 6 (za p0)), (2128, (rowO true 1 (eL zi) s1_21 true)), (8, (.cells [(.row 0 2128 s1_21.length)]))]]⟩, [⟨(zvm p0 p1 v7), 0, rfP (blk TE 22 0), rfA (blk TE 22 0), rfB (blk TE 22 0), 22, .rdy⟩]⟩
noncomputable def zBh (p0 : zd) (p1 : Int) (v7 : zt5) (r : ((Nat → Int) × (List (SL zk)))) : St := ⟨(zgy v7 ++ [(14, (xb false))]), ⟨[(zc 4 (aI 12 r.1))], [[(zc 2 (za p0)), (3, (.cells [(xi p1)])), (zc 6 (za p0)), (2128, (rowO true 1 (eL zi) r.2 true)), (8, (.cells [(.row 0 2128 r.2.length)]))]]⟩, [⟨(zvm p0 p1 v7), 0, rfP (blk TE 22 0), rfA (blk TE 22 0), rfB (blk TE 22 0), 22, .rdy⟩]⟩
noncomputable def zXq (p0 : zd) (p1 : Int) (v7 : zt5) : ((Nat → Int) × (List (SL zk))) → Ex × St := fun r => ((.exit 0), zBh p0 p1 v7 r)
theorem zOp (k : Nat) (p0 : zd) (p1 : Int) (v7 : zt5) (s1_7 : zt6) (s1_21 : zt13) (x : ((Nat → Int) × (List (SL zk))) ⊕ ((Nat → Int) × (List (SL zk)))) (h : zgk k p0 p1 v7 s1_7 s1_21 = some x) : zE TE 86 (blk TE 86 0) (fun s : ((Nat → Int) × (List (SL zk))) => zYq p0 p1 v7 s.1 s.2) (zXq p0 p1 v7) (s1_7, s1_21) x := by
 unfold zgk at h
 refine zj h (fun v801 h802 g1 => ?_)
 refine zn g1 (fun h803 g2 => ?_) (fun h803 g2 => ?_)
 ·refine zj g2 (fun v804 h805 g3 => ?_)
  refine zj g3 (fun v806 h807 g4 => ?_)
  refine zO g4 (fun h808 g5 => ?_)
  exact zqn (v804.2.2.1, (s1_21 ++ [(v806.2, (xcap true v806.2))])) [] [(86, 1, 1, .c (.agg (aI 12 v801))), (86, 1, 2, .q (xb true)), (86, 4, 3, .q (xi (v7.1.1.length : Int))), (22, 14, 3, .q (xi (v806.2.length : Int))), (22, 14, 5, .q (xi (v806.2.length : Int))), (22, 14, 6, .sr (.d (dl zi v806.2 (xcap true v806.2))) (rowO true 2 zi v806.2 false)), (22, 14, 8, .ap (s1_21 ++ [(v806.2, (xcap true v806.2))]).length (rowO true 1 (eL zi) (s1_21 ++ [(v806.2, (xcap true v806.2))]) true))] [(86, 2, (.nor, zTh p0 p1 v7 s1_21 v804)), (22, 2, (.nor, zXh p0 p1 v7 s1_21 v804 v806))] g5 (ob (zZe k _ h802) (ob (o_b h803) (ob (zr eI v7.1.1) (ob (zx (id := 2) (r' := (.nor, zTh p0 p1 v7 s1_21 v804)) (zdq (zsq k p0 p1 v7 s1_21) k _ _ h805) rfl) (ob (zx (id := 2) (r' := (.nor, zXh p0 p1 v7 s1_21 v804 v806)) (zkb (zhq k p0 p1 v7 s1_21 v804) k _ _ h807) rfl) (ob (zqh true 2 zi v806.2 true) (ob (zqh true 2 zi v806.2 true) (ob (o_sr (P := TE.P) (T := 50) (U := 64) (by' := 16) (ρ := fun _ => xi (v806.2.length : Int)) (lv := 2) (s := 10) (lo := none) (hi := some (.tmp 0)) (mx := some (.tmp 0)) true 2 zi v806.2 true (by kernel_rfl) (by kernel_rfl) rfl rfl rfl) (ob (o_ap (b := true) (z := 1) (e := (eL zi)) (l := s1_21) (w := true) (v806.2, (xcap true v806.2)) (fun _ => rfl) h808) ob0))))))))) (by kernel_rfl)
 ·exact zqo [(86, 1, 1, .c (.agg (aI 12 v801))), (86, 1, 2, .q (xb false))] [] g2 (ob (zZe k _ h802) (ob (o_b h803) ob0)) (by kernel_rfl)
theorem z0s (k : Nat) (p0 : zd) (p1 : Int) (r : ((SL (SL zk)) × Int)) (h : zvo k p0 p1 = some r) : zB TE (ev TE) 22 [(.agg (za p0)), (di p1)] = some (zxi r) := by
 unfold zvo at h
 refine zj h (fun v1 h2 g1 => ?_)
 refine zn g1 (fun h3 g2 => ?_) (fun h3 g2 => ?_)
 ·exact zy (g := zxi) g2 (zqc [(52, 1, 1, .c (di v1)), (52, 2, 1, .q (xb true)), (22, 2, 1, .q (xb true))] [] (ob (zQ k p0 _ h2) (ob (o_b h3) (ob (o_b h3) ob0))) (by kernel_rfl))
 ·refine zj g2 (fun v4 h5 g3 => ?_)
  refine zn g3 (fun h6 g4 => ?_) (fun h6 g4 => ?_)
  ·exact zy (g := zxi) g4 (zqc [(52, 1, 1, .c (di v1)), (52, 2, 1, .q (xb false)), (68, 1, 2, .c (db v4)), (52, 4, 4, .q (xb true))] [] (ob (zQ k p0 _ h2) (ob (o_b h3) (ob (zab k (⟨p0⟩ : zh) p1 _ h5) (ob (o_b h6) ob0)))) (by kernel_rfl))
  ·refine zj g4 (fun v7 h8 g5 => ?_)
   refine zj g5 (fun v9 h10 g6 => ?_)
   refine zj g6 (fun v11 h12 g7 => ?_)
   exact zy (g := zxi) g7 (zqc [(52, 1, 1, .c (di v1)), (52, 2, 1, .q (xb false)), (68, 1, 2, .c (db v4)), (52, 4, 4, .q (xb false)), (22, 5, 2, .c (.fn 86 [] [(.pin [(dl eI v7.1.1 v7.1.2), (di v7.2.1), (di v7.2.2.1), (dl zq v7.2.2.2.1.1 v7.2.2.2.1.2), (di v7.2.2.2.2.1), (dl zl v7.2.2.2.2.2.1.1 v7.2.2.2.2.2.1.2)]), (.pin [(di v7.2.2.2.2.2.2)])])), (86, 0, 2, .c (.agg (aI 12 v9))), (22, 15, 2, .q (xi (v11.2.length : Int))), (22, 15, 4, .q (xi (v11.2.length : Int))), (22, 15, 5, .sr (.d (dl (eL zi) v11.2 (xcap true v11.2))) (rowO true 1 (eL zi) v11.2 false))] [(86, 0, (.nor, zBh p0 p1 v7 v11))] (ob (zQ k p0 _ h2) (ob (o_b h3) (ob (zab k (⟨p0⟩ : zh) p1 _ h5) (ob (o_b h6) (ob (zbj k (⟨p0⟩ : zh) p1 _ h8) (ob (zWf k (⟨(⟨v7.1, (⟨v7.2.1, v7.2.2.1⟩ : zp), v7.2.2.2.1, v7.2.2.2.2.1, v7.2.2.2.2.2.1⟩ : zd)⟩ : zh) v7.2.2.2.2.2.2 _ h10) (ob (zx (id := 0) (r' := (.nor, zBh p0 p1 v7 v11)) (zkb (zOp k p0 p1 v7) k _ _ h12) rfl) (ob (zqh true 1 (eL zi) v11.2 true) (ob (zqh true 1 (eL zi) v11.2 true) (ob (o_sr (P := TE.P) (T := 29) (U := 50) (by' := 24) (ρ := fun _ => xi (v11.2.length : Int)) (lv := 0) (s := 2128) (lo := none) (hi := some (.tmp 0)) (mx := some (.tmp 0)) true 1 (eL zi) v11.2 true (by kernel_rfl) (by kernel_rfl) rfl rfl rfl) ob0)))))))))) (by kernel_rfl))
noncomputable def zOz (p0 : zd) (p1 : Int) (p2 : (SL (SL zk))) (s1_14 : Int) (v502 : (SL zk)) (s5_17 s5_18 s5_21 : Int) (r : Bool) : TM := [(0, (.d (.agg (za p0)))), (1, (xi p1)), (2, (.d (dl (eL zi) p2.1 p2.2))), (zsp 3), (zsp 4), (6, (xb false)), (7, (xi 0)), (zsp 8), (9, (xi 0)), (24, (xb false)), (zsp 10), (29, (.d (dl (eL zi) p2.1 p2.2))), (30, (xi (p2.1.length : Int))), (31, (xi s1_14)), (32, (xb true)), (12, (.d (dl zi v502.1 v502.2))), (13, (xi s5_17)), (14, (xi s5_18)), (35, (.d (dl zi v502.1 v502.2))), (36, (xi (v502.1.length : Int))), (37, (xi s5_21)), (38, (xb true)), (zsp 16), (61, (xb r))]
noncomputable def z0d (p0 : zd) (p1 : Int) (p2 : (SL (SL zk))) (s1_14 : Int) (v502 : (SL zk)) (s5_17 s5_18 s5_21 : Int) (s5_35 : zt6) (v702 : zk) (r : Bool) : St := ⟨(zOz p0 p1 p2 s1_14 v502 s5_17 s5_18 s5_21 r), ⟨[(zc 3 (za p0)), (4, (.cells [(xi p1)])), (zc 8 (za p0)), (zc 10 (aI 12 s5_35)), (16, (.cells [(xi v702.Shelf), (xi v702.Many)]))], []⟩, []⟩
noncomputable def zSz (p0 : zd) (p1 : Int) (p2 : (SL (SL zk))) (s1_14 : Int) (v502 : (SL zk)) (s5_17 s5_18 s5_21 : Int) : TM := [(0, (.d (.agg (za p0)))), (1, (xi p1)), (2, (.d (dl (eL zi) p2.1 p2.2))), (zsp 3), (zsp 4), (6, (xb false)), (7, (xi 0)), (zsp 8), (9, (xi 0)), (24, (xb false)), (zsp 10), (29, (.d (dl (eL zi) p2.1 p2.2))), (30, (xi (p2.1.length : Int))), (31, (xi s1_14)), (32, (xb true)), (12, (.d (dl zi v502.1 v502.2))), (13, (xi s5_17)), (14, (xi s5_18)), (35, (.d (dl zi v502.1 v502.2))), (36, (xi (v502.1.length : Int))), (37, (xi s5_21)), (38, (xb true)), (zsp 16)]
theorem zIj (k : Nat) (p0 : zd) (p1 : Int) (p2 : (SL (SL zk))) (s1_14 : Int) (v502 : (SL zk)) (s5_17 s5_18 s5_21 : Int) (s5_35 : zt6) (v702 : zk) (r : Bool) (h : zRi k p0 p1 p2 s1_14 v502 s5_17 s5_18 s5_21 s5_35 v702 = some r) : ev TE 14 (rgn TE 14 12) ⟨(zSz p0 p1 p2 s1_14 v502 s5_17 s5_18 s5_21), ⟨[(zc 3 (za p0)), (4, (.cells [(xi p1)])), (zc 8 (za p0)), (zc 10 (aI 12 s5_35)), (16, (.cells [(xi v702.Shelf), (xi v702.Many)]))], []⟩, []⟩ = some (.nor, z0d p0 p1 p2 s1_14 v502 s5_17 s5_18 s5_21 s5_35 v702 r) := by
 unfold zRi at h
 refine zj h (fun v801 h802 g1 => ?_)
 refine zn g1 (fun h803 g2 => ?_) (fun h803 g2 => ?_)
 ·exact zA (g := fun r => (Ex.nor, z0d p0 p1 p2 s1_14 v502 s5_17 s5_18 s5_21 s5_35 v702 r)) g2 (zqe [(14, 12, 7, .q (xi (p0.Far.1.length : Int))), (14, 12, 9, .c (db v801)), (14, 12, 11, .q (xb true))] [] (ob (zr eI p0.Far.1) (ob (zS k v702.Shelf (w64 (s5_17 + 1)) (w64 ((p0.Far.1.length : Int) - 1)) _ h802) (ob (o_b h803) ob0))) (by kernel_rfl))
 ·refine zO g2 (fun h804 g3 => ?_)
  refine zj g3 (fun v805 h806 g4 => ?_)
  exact zA (g := fun r => (Ex.nor, z0d p0 p1 p2 s1_14 v502 s5_17 s5_18 s5_21 s5_35 v702 r)) g4 (zqe [(14, 12, 7, .q (xi (p0.Far.1.length : Int))), (14, 12, 9, .c (db v801)), (14, 12, 11, .q (xb false)), (14, 12, 16, .q (.ptr 0 10 (v702.Shelf.toNat))), (14, 12, 17, .q (xi (s5_35 v702.Shelf.toNat))), (14, 12, 18, .c (db v805))] [] (ob (zr eI p0.Far.1) (ob (zS k v702.Shelf (w64 (s5_17 + 1)) (w64 ((p0.Far.1.length : Int) - 1)) _ h802) (ob (o_b h803) (ob (zrf (m := 12) 0 10 0 1 v702.Shelf.toNat h804 (by omega)) (ob (z8n 12 s5_35 v702.Shelf.toNat (by have := h804; simp only [Bool.and_eq_true, decide_eq_true_eq] at this; omega)) (ob (zS k v702.Many 1 (s5_35 v702.Shelf.toNat) _ h806) ob0)))))) (by kernel_rfl))
noncomputable def zyA (p0 : zd) (p1 : Int) (p2 : (SL (SL zk))) (s1_14 : Int) (v502 : (SL zk)) (s5_17 s5_18 s5_21 : Int) : TM := [(0, (.d (.agg (za p0)))), (1, (xi p1)), (2, (.d (dl (eL zi) p2.1 p2.2))), (zsp 3), (zsp 4), (6, (xb false)), (7, (xi 0)), (zsp 8), (9, (xi 0)), (24, (xb false)), (zsp 10), (29, (.d (dl (eL zi) p2.1 p2.2))), (30, (xi (p2.1.length : Int))), (31, (xi s1_14)), (32, (xb true)), (12, (.d (dl zi v502.1 v502.2))), (13, (xi s5_17)), (14, (xi s5_18)), (35, (.d (dl zi v502.1 v502.2))), (36, (xi (v502.1.length : Int))), (37, (xi s5_21))]
noncomputable def zqp (p0 : zd) (p1 : Int) (p2 : (SL (SL zk))) (s1_14 : Int) (v502 : (SL zk)) (s5_17 s5_18 s5_21 : Int) (s5_35 : zt6) : St := ⟨(zyA p0 p1 p2 s1_14 v502 s5_17 s5_18 s5_21), ⟨[(zc 3 (za p0)), (4, (.cells [(xi p1)])), (zc 8 (za p0)), (zc 10 (aI 12 s5_35))], []⟩, []⟩
noncomputable def zHA (p0 : zd) (p1 : Int) (p2 : (SL (SL zk))) (s1_14 : Int) (v502 : (SL zk)) (r : (Int × Int × Int × (Nat → Int) × Int × Int)) : TM := [(0, (.d (.agg (za p0)))), (1, (xi p1)), (2, (.d (dl (eL zi) p2.1 p2.2))), (zsp 3), (zsp 4), (6, (xb false)), (7, (xi 0)), (zsp 8), (9, (xi 0)), (24, (xb false)), (zsp 10), (29, (.d (dl (eL zi) p2.1 p2.2))), (30, (xi (p2.1.length : Int))), (31, (xi s1_14)), (32, (xb true)), (12, (.d (dl zi v502.1 v502.2))), (13, (xi r.1)), (14, (xi r.2.1)), (35, (.d (dl zi v502.1 v502.2))), (36, (xi (v502.1.length : Int))), (37, (xi r.2.2.1)), (38, (xb true)), (zsp 16), (61, (xb true))]
noncomputable def zLg (p0 : zd) (p1 : Int) (p2 : (SL (SL zk))) (s1_14 : Int) (v502 : (SL zk)) (r : (Int × Int × Int × (Nat → Int) × Int × Int)) : St := ⟨(zHA p0 p1 p2 s1_14 v502 r), ⟨[(zc 3 (za p0)), (4, (.cells [(xi p1)])), (zc 8 (za p0)), (zc 10 (aI 12 r.2.2.2.1)), (16, (.cells [(xi r.2.2.2.2.1), (xi r.2.2.2.2.2)]))], []⟩, []⟩
noncomputable def ziA (p0 : zd) (p1 : Int) (p2 : (SL (SL zk))) (s1_14 : Int) (v502 : (SL zk)) (r : (Int × Int × Int × (Nat → Int))) : TM := [(0, (.d (.agg (za p0)))), (1, (xi p1)), (2, (.d (dl (eL zi) p2.1 p2.2))), (zsp 3), (zsp 4), (6, (xb false)), (7, (xi 0)), (zsp 8), (9, (xi 0)), (24, (xb false)), (zsp 10), (29, (.d (dl (eL zi) p2.1 p2.2))), (30, (xi (p2.1.length : Int))), (31, (xi s1_14)), (32, (xb true)), (12, (.d (dl zi v502.1 v502.2))), (13, (xi r.1)), (14, (xi r.2.1)), (35, (.d (dl zi v502.1 v502.2))), (36, (xi (v502.1.length : Int))), (37, (xi r.2.2.1)), (38, (xb false))]
noncomputable def zPd (p0 : zd) (p1 : Int) (p2 : (SL (SL zk))) (s1_14 : Int) (v502 : (SL zk)) (r : (Int × Int × Int × (Nat → Int))) : St := ⟨(ziA p0 p1 p2 s1_14 v502 r), ⟨[(zc 3 (za p0)), (4, (.cells [(xi p1)])), (zc 8 (za p0)), (zc 10 (aI 12 r.2.2.2))], []⟩, []⟩
noncomputable def zpp (p0 : zd) (p1 : Int) (p2 : (SL (SL zk))) (s1_14 : Int) (v502 : (SL zk)) : ((Int × Int × Int × (Nat → Int) × Int × Int) ⊕ (Int × Int × Int × (Nat → Int))) → Ex × St := Sum.elim (fun r => (.ret, zLg p0 p1 p2 s1_14 v502 r)) (fun r => ((.exit 2), zPd p0 p1 p2 s1_14 v502 r))
theorem zMg (k : Nat) (p0 : zd) (p1 : Int) (p2 : (SL (SL zk))) (s1_14 : Int) (v502 : (SL zk)) (s5_17 s5_18 s5_21 : Int) (s5_35 : zt6) (x : (Int × Int × Int × (Nat → Int)) ⊕ ((Int × Int × Int × (Nat → Int) × Int × Int) ⊕ (Int × Int × Int × (Nat → Int)))) (h : zYi k p0 p1 p2 s1_14 v502 s5_17 s5_18 s5_21 s5_35 = some x) : zE TE 14 (blk TE 14 2) (fun s : (Int × Int × Int × (Nat → Int)) => zqp p0 p1 p2 s1_14 v502 s.1 s.2.1 s.2.2.1 s.2.2.2) (zpp p0 p1 p2 s1_14 v502) (s5_17, s5_18, s5_21, s5_35) x := by
 unfold zYi at h
 refine zn h (fun h701 g1 => ?_) (fun h701 g1 => ?_)
 ·refine zj g1 (fun v702 h703 g2 => ?_)
  refine zj g2 (fun v704 h705 g3 => ?_)
  refine zn g3 (fun h706 g4 => ?_) (fun h706 g4 => ?_)
  ·subst h706
   exact zqo [(14, 10, 0, .q (xb true)), (14, 11, 0, .q (.d (.pin [(di v702.Shelf), (di v702.Many)])))] [(14, 1000012, (.nor, z0d p0 p1 p2 s1_14 v502 s5_17 s5_18 s5_21 s5_35 v702 true))] g4 (ob (o_b h701) (ob (o_ia (e := zi) 2 h703 rfl) (ob (zIj k p0 p1 p2 s1_14 v502 s5_17 s5_18 s5_21 s5_35 v702 _ h705) ob0))) (by kernel_rfl)
  ·subst h706
   refine zO g4 (fun h707 g5 => ?_)
   exact zqn (v702.Shelf, (w64 (s5_18 + v702.Many)), (w64 (s5_21 + 1)), (upd s5_35 v702.Shelf.toNat (w64 ((s5_35 v702.Shelf.toNat) - v702.Many)))) [] [(14, 10, 0, .q (xb true)), (14, 11, 0, .q (.d (.pin [(di v702.Shelf), (di v702.Many)]))), (14, 14, 2, .q (.ptr 0 10 (v702.Shelf.toNat))), (14, 14, 3, .q (xi (s5_35 v702.Shelf.toNat))), (14, 14, 7, .q (.ptr 0 10 (v702.Shelf.toNat))), (14, 14, 8, .st ((aI 12 (upd s5_35 v702.Shelf.toNat (w64 ((s5_35 v702.Shelf.toNat) - v702.Many)))).map .d))] [(14, 1000012, (.nor, z0d p0 p1 p2 s1_14 v502 s5_17 s5_18 s5_21 s5_35 v702 false))] g5 (ob (o_b h701) (ob (o_ia (e := zi) 2 h703 rfl) (ob (zIj k p0 p1 p2 s1_14 v502 s5_17 s5_18 s5_21 s5_35 v702 _ h705) (ob (zrf (m := 12) 0 10 0 1 v702.Shelf.toNat h707 (by omega)) (ob (z8n 12 s5_35 v702.Shelf.toNat (by have := h707; simp only [Bool.and_eq_true, decide_eq_true_eq] at this; omega)) (ob (zrf (m := 12) 0 10 0 1 v702.Shelf.toNat h707 (by omega)) (ob (zmp 12 s5_35 v702.Shelf.toNat (w64 ((s5_35 v702.Shelf.toNat) - v702.Many)) (by have := h707; simp only [Bool.and_eq_true, decide_eq_true_eq] at this; omega)) ob0))))))) (by kernel_rfl)
 ·exact zqo [(14, 10, 0, .q (xb false))] [] g1 (ob (o_b h701) ob0) (by kernel_rfl)
noncomputable def zFA (p0 : zd) (p1 : Int) (p2 : (SL (SL zk))) (s1_14 : Int) : TM := [(0, (.d (.agg (za p0)))), (1, (xi p1)), (2, (.d (dl (eL zi) p2.1 p2.2))), (zsp 3), (zsp 4), (6, (xb false)), (7, (xi 0)), (zsp 8), (9, (xi 0)), (24, (xb false)), (zsp 10), (29, (.d (dl (eL zi) p2.1 p2.2))), (30, (xi (p2.1.length : Int))), (31, (xi s1_14))]
noncomputable def zop (p0 : zd) (p1 : Int) (p2 : (SL (SL zk))) (s1_14 : Int) (s1_28 : zt6) : St := ⟨(zFA p0 p1 p2 s1_14), ⟨[(zc 3 (za p0)), (4, (.cells [(xi p1)])), (zc 8 (za p0)), (zc 10 (aI 12 s1_28))], []⟩, []⟩
noncomputable def z0A (p0 : zd) (p1 : Int) (p2 : (SL (SL zk))) (r : (Int × (SL zk) × Int × Int × Int × Int × (Nat → Int) × Int × Int)) : TM := [(0, (.d (.agg (za p0)))), (1, (xi p1)), (2, (.d (dl (eL zi) p2.1 p2.2))), (zsp 3), (zsp 4), (6, (xb false)), (7, (xi 0)), (zsp 8), (9, (xi 0)), (24, (xb false)), (zsp 10), (29, (.d (dl (eL zi) p2.1 p2.2))), (30, (xi (p2.1.length : Int))), (31, (xi r.1)), (32, (xb true)), (12, (.d (dl zi r.2.1.1 r.2.1.2))), (13, (xi r.2.2.1)), (14, (xi r.2.2.2.1)), (35, (.d (dl zi r.2.1.1 r.2.1.2))), (36, (xi r.2.2.2.2.1)), (37, (xi r.2.2.2.2.2.1)), (38, (xb true)), (zsp 16), (61, (xb true))]
noncomputable def zUg (p0 : zd) (p1 : Int) (p2 : (SL (SL zk))) (r : (Int × (SL zk) × Int × Int × Int × Int × (Nat → Int) × Int × Int)) : St := ⟨(z0A p0 p1 p2 r), ⟨[(zc 3 (za p0)), (4, (.cells [(xi p1)])), (zc 8 (za p0)), (zc 10 (aI 12 r.2.2.2.2.2.2.1)), (16, (.cells [(xi r.2.2.2.2.2.2.2.1), (xi r.2.2.2.2.2.2.2.2)]))], []⟩, []⟩
noncomputable def z6A (p0 : zd) (p1 : Int) (p2 : (SL (SL zk))) (r : (Int × (SL zk) × Int × Int × Int × Int × (Nat → Int))) : TM := [(0, (.d (.agg (za p0)))), (1, (xi p1)), (2, (.d (dl (eL zi) p2.1 p2.2))), (zsp 3), (zsp 4), (6, (xb false)), (7, (xi 0)), (zsp 8), (9, (xi 0)), (24, (xb false)), (zsp 10), (29, (.d (dl (eL zi) p2.1 p2.2))), (30, (xi (p2.1.length : Int))), (31, (xi r.1)), (32, (xb true)), (12, (.d (dl zi r.2.1.1 r.2.1.2))), (13, (xi r.2.2.1)), (14, (xi r.2.2.2.1)), (35, (.d (dl zi r.2.1.1 r.2.1.2))), (36, (xi r.2.2.2.2.1)), (37, (xi r.2.2.2.2.2.1)), (38, (xb false)), (82, (xb true))]
noncomputable def zOg (p0 : zd) (p1 : Int) (p2 : (SL (SL zk))) (r : (Int × (SL zk) × Int × Int × Int × Int × (Nat → Int))) : St := ⟨(z6A p0 p1 p2 r), ⟨[(zc 3 (za p0)), (4, (.cells [(xi p1)])), (zc 8 (za p0)), (zc 10 (aI 12 r.2.2.2.2.2.2))], []⟩, []⟩
noncomputable def zOA (p0 : zd) (p1 : Int) (p2 : (SL (SL zk))) (r : (Int × (Nat → Int))) : TM := [(0, (.d (.agg (za p0)))), (1, (xi p1)), (2, (.d (dl (eL zi) p2.1 p2.2))), (zsp 3), (zsp 4), (6, (xb false)), (7, (xi 0)), (zsp 8), (9, (xi 0)), (24, (xb false)), (zsp 10), (29, (.d (dl (eL zi) p2.1 p2.2))), (30, (xi (p2.1.length : Int))), (31, (xi r.1)), (32, (xb false))]
noncomputable def zKg (p0 : zd) (p1 : Int) (p2 : (SL (SL zk))) (r : (Int × (Nat → Int))) : St := ⟨(zOA p0 p1 p2 r), ⟨[(zc 3 (za p0)), (4, (.cells [(xi p1)])), (zc 8 (za p0)), (zc 10 (aI 12 r.2))], []⟩, []⟩
noncomputable def zrp (p0 : zd) (p1 : Int) (p2 : (SL (SL zk))) : ((Int × (SL zk) × Int × Int × Int × Int × (Nat → Int) × Int × Int) ⊕ ((Int × (SL zk) × Int × Int × Int × Int × (Nat → Int)) ⊕ (Int × (Nat → Int)))) → Ex × St := Sum.elim (fun r => (.ret, zUg p0 p1 p2 r)) (Sum.elim (fun r => (.ret, zOg p0 p1 p2 r)) (fun r => ((.exit 0), zKg p0 p1 p2 r)))
theorem zRg (k : Nat) (p0 : zd) (p1 : Int) (p2 : (SL (SL zk))) (s1_14 : Int) (s1_28 : zt6) (x : (Int × (Nat → Int)) ⊕ ((Int × (SL zk) × Int × Int × Int × Int × (Nat → Int) × Int × Int) ⊕ ((Int × (SL zk) × Int × Int × Int × Int × (Nat → Int)) ⊕ (Int × (Nat → Int))))) (h : zmi k p0 p1 p2 s1_14 s1_28 = some x) : zE TE 14 (blk TE 14 0) (fun s : (Int × (Nat → Int)) => zop p0 p1 p2 s.1 s.2) (zrp p0 p1 p2) (s1_14, s1_28) x := by
 unfold zmi at h
 refine zn h (fun h501 g1 => ?_) (fun h501 g1 => ?_)
 ·refine zj g1 (fun v502 h503 g2 => ?_)
  refine zj g2 (fun v504 h505 g3 => ?_)
  refine zPb g3 (fun v507 hh g4_0 => ?_) (fun v507 hh g4_0 => ?_)
  ·subst hh
   exact zqo [(14, 6, 0, .q (xb true)), (14, 7, 0, .q (.d (.pin [(dl zi v502.1 v502.2)]))), (14, 9, 1, .q (xi (v502.1.length : Int)))] [(14, 2, (.ret, zLg p0 p1 p2 s1_14 v502 v507))] g4_0 (ob (o_b h501) (ob (o_ia (e := (eL zi)) 1 h503 rfl) (ob (zr zi v502.1) (ob (zx (id := 2) (r' := (.ret, zLg p0 p1 p2 s1_14 v502 v507)) (zdq (zMg k p0 p1 p2 s1_14 v502) k _ _ h505) rfl) ob0)))) (by kernel_rfl)
  ·subst hh
   refine zj g4_0 (fun v508 h509 g5 => ?_)
   refine zn g5 (fun h510 g6 => ?_) (fun h510 g6 => ?_)
   ·exact zqo [(14, 6, 0, .q (xb true)), (14, 7, 0, .q (.d (.pin [(dl zi v502.1 v502.2)]))), (14, 9, 1, .q (xi (v502.1.length : Int))), (14, 17, 4, .c (db v508)), (14, 17, 5, .q (xb true))] [(14, 2, (.nor, zPd p0 p1 p2 s1_14 v502 v507))] g6 (ob (o_b h501) (ob (o_ia (e := (eL zi)) 1 h503 rfl) (ob (zr zi v502.1) (ob (zx (id := 2) (r' := (.nor, zPd p0 p1 p2 s1_14 v502 v507)) (zdq (zMg k p0 p1 p2 s1_14 v502) k _ _ h505) rfl) (ob (zS k v507.2.1 1 p0.Carry _ h509) (ob (o_b h510) ob0)))))) (by kernel_rfl)
   ·exact zqn ((w64 (s1_14 + 1)), v507.2.2.2) [] [(14, 6, 0, .q (xb true)), (14, 7, 0, .q (.d (.pin [(dl zi v502.1 v502.2)]))), (14, 9, 1, .q (xi (v502.1.length : Int))), (14, 17, 4, .c (db v508)), (14, 17, 5, .q (xb false))] [(14, 2, (.nor, zPd p0 p1 p2 s1_14 v502 v507))] g6 (ob (o_b h501) (ob (o_ia (e := (eL zi)) 1 h503 rfl) (ob (zr zi v502.1) (ob (zx (id := 2) (r' := (.nor, zPd p0 p1 p2 s1_14 v502 v507)) (zdq (zMg k p0 p1 p2 s1_14 v502) k _ _ h505) rfl) (ob (zS k v507.2.1 1 p0.Carry _ h509) (ob (o_b h510) ob0)))))) (by kernel_rfl)
 ·exact zqo [(14, 6, 0, .q (xb false))] [] g1 (ob (o_b h501) ob0) (by kernel_rfl)
theorem zkr (k : Nat) (p0 : zd) (p1 : Int) (p2 : (SL (SL zk))) (r : zt9) (h : zgl k p0 p1 p2 = some r) : zB TE (ev TE) 14 [(.agg (za p0)), (di p1), (dl (eL zi) p2.1 p2.2)] = some (zoe r) := by
 unfold zgl at h
 refine zj h (fun v1 h2 g1 => ?_)
 refine zn g1 (fun h3 g2 => ?_) (fun h3 g2 => ?_)
 ·exact zy (g := zoe) g2 (zqc [(52, 1, 1, .c (di v1)), (52, 2, 1, .q (xb true)), (14, 2, 1, .q (xb true))] [] (ob (zQ k p0 _ h2) (ob (o_b h3) (ob (o_b h3) ob0))) (by kernel_rfl))
 ·refine zj g2 (fun v4 h5 g3 => ?_)
  have y1 := fun (d : D) (P : List Prop) (V : Ovs) (C : Cuts) (q : All P) h => (zqc ([(52, 1, 1, .c (di v1)), (52, 2, 1, .q (xb false)), (53, 1, 2, .c (db v4))] ++ V) C (ob (zQ k p0 _ h2) (ob (o_b h3) (ob (zab k (⟨p0⟩ : zh) p1 _ h5) q))) h : zB TE (ev TE) 14 [(.agg (za p0)), (di p1), (dl (eL zi) p2.1 p2.2)] = some d)
  refine zn g3 (fun h6 g4 => ?_) (fun h6 g4 => ?_)
  ·exact zy (g := zoe) g4 (y1 _ _ [(52, 4, 4, .q (xb true))] [] (ob (o_b h6) ob0) (by kernel_rfl))
  ·refine zj g4 (fun v7 h8 g5 => ?_)
   refine zj g5 (fun v9 h10 g6 => ?_)
   have y2 := fun (d : _) (P : List Prop) (V : Ovs) (C : Cuts) (q : All P) h => y1 d _ ([(52, 4, 4, .q (xb false)), (14, 4, 2, .c (.agg (aI 12 v7))), (14, 5, 1, .q (xi (p2.1.length : Int)))] ++ V) C (ob (o_b h6) (ob (zWf k (⟨p0⟩ : zh) p1 _ h8) (ob (zr (eL zi) p2.1) q))) h
   refine zPb g6 (fun v12 hh g7_0 => ?_) (fun w6_0 hh g7_0 => ?_)
   ·subst hh
    exact zy (g := zoe) g7_0 (y2 _ _ [] [(14, 0, (.ret, zUg p0 p1 p2 v12))] (ob (zx (id := 0) (r' := (.ret, zUg p0 p1 p2 v12)) (zkb (zRg k p0 p1 p2) k _ _ h10) rfl) ob0) (by kernel_rfl))
   ·subst hh
    refine zPb g7_0 (fun v12 hh g7_1 => ?_) (fun v12 hh g7_1 => ?_)
    ·subst hh
     exact zy (g := zoe) g7_1 (y2 _ _ [] [(14, 0, (.ret, zOg p0 p1 p2 v12))] (ob (zx (id := 0) (r' := (.ret, zOg p0 p1 p2 v12)) (zkb (zRg k p0 p1 p2) k _ _ h10) rfl) ob0) (by kernel_rfl))
    ·subst hh
     refine zj g7_1 (fun v13 h14 g8 => ?_)
     exact zy (g := zoe) g8 (y2 _ _ [(14, 20, 1, .c (.agg (aI 12 v13)))] [(14, 0, (.nor, zKg p0 p1 p2 v12))] (ob (zx (id := 0) (r' := (.nor, zKg p0 p1 p2 v12)) (zkb (zRg k p0 p1 p2) k _ _ h10) rfl) (ob (zZe k _ h14) ob0)) (by kernel_rfl))
noncomputable def zyj (r0 : (SL Int)) (r1 r2 : Int) (r : zt1) : TM := [(0, (.d (dl eI r0.1 r0.2))), (1, (xi r1)), (2, (xi r2)), (3, (.ptr 0 6 0)), (4, (.ptr 0 8 0)), (5, (.ptr 0 3 0)), (6, (.ptr 0 9 0)), (10, (.d (.sl [] .nil))), (11, (xb false)), (21, (xb false)), (14, (xi r.1)), (36, (xb r.2))]
noncomputable def zFf (p0 : zd) (p1 : Int) (r0 : (SL Int)) (r1 r2 : Int) (cb : Bool) (rc : zt0) (r : zt1) : St := ⟨(zyj r0 r1 r2 r), ⟨[], [[(zc 2 (za p0)), (3, (.cells [(xi p1)])), (zc 6 (za p0)), (8, (.cells [(xi (w64 ((zo 1 (p0.Slips.1.length : Int)) - 1)))])), (9, (.cells [(.fn 77 [] [(.ptr 0 6 0), (.ptr 0 8 0), (.ptr 0 3 0), (.ptr 0 9 0)])]))]]⟩, []⟩
noncomputable def zwj (r0 : (SL Int)) (r1 r2 : Int) (cb : Bool) : TM := [(0, (.d (dl eI r0.1 r0.2))), (1, (xi r1)), (2, (xi r2)), (3, (.ptr 0 6 0)), (4, (.ptr 0 8 0)), (5, (.ptr 0 3 0)), (6, (.ptr 0 9 0)), (10, (.d (.sl [] .nil))), (11, (xb false)), (21, (xb false)), (14, (xi 0)), (36, (xb cb))]
theorem zwm (k : Nat) (p0 : zd) (p1 : Int) (r0 : (SL Int)) (r1 r2 : Int) (cb : Bool) (rc : zt0) (hrc : ∀ (f : Fr) (r0 : (SL Int)) (r1 : Int) (r2 : Int) (r : ((SL Int) × Bool)), rc r0 r1 r2 = some r → zJ TE (ev TE) 77 [(.d (dl eI r0.1 r0.2)), (xi r1), (xi r2), (.ptr 0 6 0), (.ptr 0 8 0), (.ptr 0 3 0), (.ptr 0 9 0)] ⟨f, [[(2, (.cells ((za p0).map .d))), (3, (.cells [(xi p1)])), (6, (.cells ((za p0).map .d))), (8, (.cells [(xi (w64 ((zo 1 (p0.Slips.1.length : Int)) - 1)))])), (9, (.cells [(.fn 77 [] [(.ptr 0 6 0), (.ptr 0 8 0), (.ptr 0 3 0), (.ptr 0 9 0)])]))]]⟩ [] = some (zu r, ⟨f, [[(2, (.cells ((za p0).map .d))), (3, (.cells [(xi p1)])), (6, (.cells ((za p0).map .d))), (8, (.cells [(xi (w64 ((zo 1 (p0.Slips.1.length : Int)) - 1)))])), (9, (.cells [(.fn 77 [] [(.ptr 0 6 0), (.ptr 0 8 0), (.ptr 0 3 0), (.ptr 0 9 0)])]))]]⟩, [])) (r : zt1) (h : zKl k p0 p1 r0 r1 r2 cb rc = some r) : ev TE 77 (cnd TE 77 36) ⟨(zwj r0 r1 r2 cb), ⟨[], [[(zc 2 (za p0)), (3, (.cells [(xi p1)])), (zc 6 (za p0)), (8, (.cells [(xi (w64 ((zo 1 (p0.Slips.1.length : Int)) - 1)))])), (9, (.cells [(.fn 77 [] [(.ptr 0 6 0), (.ptr 0 8 0), (.ptr 0 3 0), (.ptr 0 9 0)])]))]]⟩, []⟩ = some (.nor, zFf p0 p1 r0 r1 r2 cb rc r) := by
 unfold zKl at h
 refine zn h (fun h401 g1 => ?_) (fun h401 g1 => ?_)
 ·subst h401
  refine zj g1 (fun v402 h403 g2 => ?_)
  exact zA (g := fun r => (Ex.nor, zFf p0 p1 r0 r1 r2 true rc r)) g2 (zqe [(77, 6, 2, .q (xi (r0.1.length : Int))), (77, 6, 4, .q (.d (.pin [(di v402)])))] [] (ob (zr eI r0.1) (ob (o_ia (e := eI) 1 h403 rfl) ob0)) (by kernel_rfl))
 ·subst h401
  exact zA (g := fun r => (Ex.nor, zFf p0 p1 r0 r1 r2 false rc r)) g1 (zqe [] [] ob0 (by kernel_rfl))
noncomputable def zKA (r0 : (SL Int)) (r1 r2 : Int) (v302 : zt1) (s4_8 : Int) : TM := [(0, (.d (dl eI r0.1 r0.2))), (1, (xi r1)), (2, (xi r2)), (3, (.ptr 0 6 0)), (4, (.ptr 0 8 0)), (5, (.ptr 0 3 0)), (6, (.ptr 0 9 0)), (10, (.d (.sl [] .nil))), (11, (xb false)), (21, (xb false)), (14, (xi v302.1)), (36, (xb v302.2)), (15, (xi s4_8))]
noncomputable def zPr (p0 : zd) (p1 : Int) (r0 : (SL Int)) (r1 r2 : Int) (v302 : zt1) (rc : zt0) (s4_8 : Int) : St := ⟨(zKA r0 r1 r2 v302 s4_8), ⟨[], [[(zc 2 (za p0)), (3, (.cells [(xi p1)])), (zc 6 (za p0)), (8, (.cells [(xi (w64 ((zo 1 (p0.Slips.1.length : Int)) - 1)))])), (9, (.cells [(.fn 77 [] [(.ptr 0 6 0), (.ptr 0 8 0), (.ptr 0 3 0), (.ptr 0 9 0)])]))]]⟩, []⟩
noncomputable def z5A (r0 : (SL Int)) (r1 r2 : Int) (r : zt19) (v302 : zt1) : TM := [(0, (.d (dl eI r0.1 r0.2))), (1, (xi r1)), (2, (xi r2)), (3, (.ptr 0 6 0)), (4, (.ptr 0 8 0)), (5, (.ptr 0 3 0)), (6, (.ptr 0 9 0)), (10, (.d (dl eI r.1.1 r.1.2))), (11, (xb true)), (21, (xb false)), (14, (xi v302.1)), (36, (xb v302.2)), (15, (xi r.2.1)), (50, (xb true)), (16, (.d (dl eI r.1.1 r.1.2))), (17, (xb r.2.2)), (72, (xb true))]
noncomputable def zwi (p0 : zd) (p1 : Int) (r0 : (SL Int)) (r1 r2 : Int) (v302 : zt1) (rc : zt0) (r : zt19) : St := ⟨(z5A r0 r1 r2 r v302), ⟨[], [[(zc 2 (za p0)), (3, (.cells [(xi p1)])), (zc 6 (za p0)), (8, (.cells [(xi (w64 ((zo 1 (p0.Slips.1.length : Int)) - 1)))])), (9, (.cells [(.fn 77 [] [(.ptr 0 6 0), (.ptr 0 8 0), (.ptr 0 3 0), (.ptr 0 9 0)])]))]]⟩, []⟩
noncomputable def zVA (r0 : (SL Int)) (r1 r2 : Int) (v302 : zt1) (r : Int) : TM := [(0, (.d (dl eI r0.1 r0.2))), (1, (xi r1)), (2, (xi r2)), (3, (.ptr 0 6 0)), (4, (.ptr 0 8 0)), (5, (.ptr 0 3 0)), (6, (.ptr 0 9 0)), (10, (.d (.sl [] .nil))), (11, (xb false)), (21, (xb false)), (14, (xi v302.1)), (36, (xb v302.2)), (15, (xi r)), (50, (xb false))]
noncomputable def z1i (p0 : zd) (p1 : Int) (r0 : (SL Int)) (r1 r2 : Int) (v302 : zt1) (rc : zt0) (r : Int) : St := ⟨(zVA r0 r1 r2 v302 r), ⟨[], [[(zc 2 (za p0)), (3, (.cells [(xi p1)])), (zc 6 (za p0)), (8, (.cells [(xi (w64 ((zo 1 (p0.Slips.1.length : Int)) - 1)))])), (9, (.cells [(.fn 77 [] [(.ptr 0 6 0), (.ptr 0 8 0), (.ptr 0 3 0), (.ptr 0 9 0)])]))]]⟩, []⟩
noncomputable def zJr (p0 : zd) (p1 : Int) (r0 : (SL Int)) (r1 r2 : Int) (v302 : zt1) (rc : zt0) : (((SL Int) × Int × Bool) ⊕ Int) → Ex × St := Sum.elim (fun r => (.ret, zwi p0 p1 r0 r1 r2 v302 rc r)) (fun r => ((.exit 0), z1i p0 p1 r0 r1 r2 v302 rc r))
theorem zFm (k : Nat) (p0 : zd) (p1 : Int) (r0 : (SL Int)) (r1 r2 : Int) (v302 : zt1) (rc : zt0) (hrc : ∀ (f : Fr) (r0 : (SL Int)) (r1 : Int) (r2 : Int) (r : ((SL Int) × Bool)), rc r0 r1 r2 = some r → zJ TE (ev TE) 77 [(.d (dl eI r0.1 r0.2)), (xi r1), (xi r2), (.ptr 0 6 0), (.ptr 0 8 0), (.ptr 0 3 0), (.ptr 0 9 0)] ⟨f, [[(2, (.cells ((za p0).map .d))), (3, (.cells [(xi p1)])), (6, (.cells ((za p0).map .d))), (8, (.cells [(xi (w64 ((zo 1 (p0.Slips.1.length : Int)) - 1)))])), (9, (.cells [(.fn 77 [] [(.ptr 0 6 0), (.ptr 0 8 0), (.ptr 0 3 0), (.ptr 0 9 0)])]))]]⟩ [] = some (zu r, ⟨f, [[(2, (.cells ((za p0).map .d))), (3, (.cells [(xi p1)])), (6, (.cells ((za p0).map .d))), (8, (.cells [(xi (w64 ((zo 1 (p0.Slips.1.length : Int)) - 1)))])), (9, (.cells [(.fn 77 [] [(.ptr 0 6 0), (.ptr 0 8 0), (.ptr 0 3 0), (.ptr 0 9 0)])]))]]⟩, [])) (s4_8 : Int) (x : Int ⊕ (((SL Int) × Int × Bool) ⊕ Int)) (h : z4k k p0 p1 r0 r1 r2 v302 rc s4_8 = some x) : zE TE 77 (blk TE 77 0) (fun s : Int => zPr p0 p1 r0 r1 r2 v302 rc s) (zJr p0 p1 r0 r1 r2 v302 rc) s4_8 x := by
 unfold z4k at h
 refine zn h (fun h501 g1 => ?_) (fun h501 g1 => ?_)
 ·refine zn g1 (fun h502 g2 => ?_) (fun h502 g2 => ?_)
  ·cases g2
  ·refine zO g2 (fun h503 g3 => ?_)
   refine zn g3 (fun h504 g4 => ?_) (fun h504 g4 => ?_)
   ·cases g4
   ·refine zj g4 (fun v505 h506 g5 => ?_)
    refine zn g5 (fun h507 g6 => ?_) (fun h507 g6 => ?_)
    ·exact zqo [(77, 8, 4, .q (xi (p0.Slips.1.length : Int))), (77, 8, 5, .q (xb true)), (77, 10, 3, .q (xi (r0.1.length : Int))), (77, 10, 5, .q (xi (r0.1.length : Int))), (77, 10, 6, .q (.d (dl eI r0.1 (ccap r0.2)))), (77, 10, 9, .q (.d (dl eI (r0.1 ++ [s4_8]) .ro))), (77, 10, 12, .q (xi (zo 1 s4_8))), (77, 10, 15, .i (.tup [(dl eI v505.1.1 v505.1.2), (db v505.2)]) ⟨[], [[(2, (.cells ((za p0).map .d))), (3, (.cells [(xi p1)])), (6, (.cells ((za p0).map .d))), (8, (.cells [(xi (w64 ((zo 1 (p0.Slips.1.length : Int)) - 1)))])), (9, (.cells [(.fn 77 [] [(.ptr 0 6 0), (.ptr 0 8 0), (.ptr 0 3 0), (.ptr 0 9 0)])]))]]⟩ []), (77, 11, 0, .q (xb true))] [] g6 (ob (zr zl p0.Slips.1) (ob (o_b h501) (ob (zr eI r0.1) (ob (zr eI r0.1) (ob (zod (e := eI) (z := 1) r0.1 r0.2) (ob (o_ad (P := TE.P) (φ := fun _ _ => none) (T := 22) (q := (1, [(di 0)])) (c := (ccap r0.2)) (e := eI) r0.1 s4_8 (by kernel_rfl) (fun _ => rfl) h502 h503) (ob (zIb (x := 1) h504) (ob (hrc ([] : Fr) ((r0.1 ++ [s4_8]), .ro) (or64 r1 (zo 1 s4_8)) r2 _ h506) (ob (o_b h507) ob0))))))))) (by kernel_rfl)
    ·exact zqn (w64 (s4_8 + 1)) [] [(77, 8, 4, .q (xi (p0.Slips.1.length : Int))), (77, 8, 5, .q (xb true)), (77, 10, 3, .q (xi (r0.1.length : Int))), (77, 10, 5, .q (xi (r0.1.length : Int))), (77, 10, 6, .q (.d (dl eI r0.1 (ccap r0.2)))), (77, 10, 9, .q (.d (dl eI (r0.1 ++ [s4_8]) .ro))), (77, 10, 12, .q (xi (zo 1 s4_8))), (77, 10, 15, .i (.tup [(dl eI v505.1.1 v505.1.2), (db v505.2)]) ⟨[], [[(2, (.cells ((za p0).map .d))), (3, (.cells [(xi p1)])), (6, (.cells ((za p0).map .d))), (8, (.cells [(xi (w64 ((zo 1 (p0.Slips.1.length : Int)) - 1)))])), (9, (.cells [(.fn 77 [] [(.ptr 0 6 0), (.ptr 0 8 0), (.ptr 0 3 0), (.ptr 0 9 0)])]))]]⟩ []), (77, 11, 0, .q (xb false))] [] g6 (ob (zr zl p0.Slips.1) (ob (o_b h501) (ob (zr eI r0.1) (ob (zr eI r0.1) (ob (zod (e := eI) (z := 1) r0.1 r0.2) (ob (o_ad (P := TE.P) (φ := fun _ _ => none) (T := 22) (q := (1, [(di 0)])) (c := (ccap r0.2)) (e := eI) r0.1 s4_8 (by kernel_rfl) (fun _ => rfl) h502 h503) (ob (zIb (x := 1) h504) (ob (hrc ([] : Fr) ((r0.1 ++ [s4_8]), .ro) (or64 r1 (zo 1 s4_8)) r2 _ h506) (ob (o_b h507) ob0))))))))) (by kernel_rfl)
 ·exact zqo [(77, 8, 4, .q (xi (p0.Slips.1.length : Int))), (77, 8, 5, .q (xb false))] [] g1 (ob (zr zl p0.Slips.1) (ob (o_b h501) ob0)) (by kernel_rfl)
theorem zJp (k : Nat) (p0 : zd) (p1 : Int) (rc : zt0) (hrc : ∀ (f : Fr) (r0 : (SL Int)) (r1 : Int) (r2 : Int) (r : ((SL Int) × Bool)), rc r0 r1 r2 = some r → zJ TE (ev TE) 77 [(.d (dl eI r0.1 r0.2)), (xi r1), (xi r2), (.ptr 0 6 0), (.ptr 0 8 0), (.ptr 0 3 0), (.ptr 0 9 0)] ⟨f, [[(2, (.cells ((za p0).map .d))), (3, (.cells [(xi p1)])), (6, (.cells ((za p0).map .d))), (8, (.cells [(xi (w64 ((zo 1 (p0.Slips.1.length : Int)) - 1)))])), (9, (.cells [(.fn 77 [] [(.ptr 0 6 0), (.ptr 0 8 0), (.ptr 0 3 0), (.ptr 0 9 0)])]))]]⟩ [] = some (zu r, ⟨f, [[(2, (.cells ((za p0).map .d))), (3, (.cells [(xi p1)])), (6, (.cells ((za p0).map .d))), (8, (.cells [(xi (w64 ((zo 1 (p0.Slips.1.length : Int)) - 1)))])), (9, (.cells [(.fn 77 [] [(.ptr 0 6 0), (.ptr 0 8 0), (.ptr 0 3 0), (.ptr 0 9 0)])]))]]⟩, [])) (r0 : (SL Int)) (r1 r2 : Int) (r : zt14) (h : zNi k p0 p1 rc r0 r1 r2 = some r) : zJ TE (ev TE) 77 [(.d (dl eI r0.1 r0.2)), (xi r1), (xi r2), (.ptr 0 6 0), (.ptr 0 8 0), (.ptr 0 3 0), (.ptr 0 9 0)] ⟨[(zc 2 (za p0)), (3, (.cells [(xi p1)])), (zc 6 (za p0)), (8, (.cells [(xi (w64 ((zo 1 (p0.Slips.1.length : Int)) - 1)))])), (9, (.cells [(.fn 77 [] [(.ptr 0 6 0), (.ptr 0 8 0), (.ptr 0 3 0), (.ptr 0 9 0)])]))], []⟩ [] = some (zu r, ⟨[(zc 2 (za p0)), (3, (.cells [(xi p1)])), (zc 6 (za p0)), (8, (.cells [(xi (w64 ((zo 1 (p0.Slips.1.length : Int)) - 1)))])), (9, (.cells [(.fn 77 [] [(.ptr 0 6 0), (.ptr 0 8 0), (.ptr 0 3 0), (.ptr 0 9 0)])]))], []⟩, []) := by
 unfold zNi at h
 refine zn h (fun h301 g1 => ?_) (fun h301 g1 => ?_)
 ·refine zj g1 (fun v302 h303 g2 => ?_)
  exact zP (g := (fun r => (zu r, ⟨[(2, (.cells ((za p0).map .d))), (3, (.cells [(xi p1)])), (6, (.cells ((za p0).map .d))), (8, (.cells [(xi (w64 ((zo 1 (p0.Slips.1.length : Int)) - 1)))])), (9, (.cells [(.fn 77 [] [(.ptr 0 6 0), (.ptr 0 8 0), (.ptr 0 3 0), (.ptr 0 9 0)])]))], []⟩, []))) g2 (zH (n := 80) (V := [(77, 1, 1, .q (xi (r0.1.length : Int))), (77, 1, 3, .q (xb true)), (77, 2, 6, .c (.tup [(dl (eL eI) v302.1.1 v302.1.2), (db v302.2)]))]) (C := []) (ob (zr eI r0.1) (ob (o_b h301) (ob (zR k (⟨p0⟩ : zh) (⟨(zib (w64 ((zo 1 (p0.Slips.1.length : Int)) - 1)) r1), p1⟩ : zt) _ h303) ob0))) (by kernel_rfl))
 ·refine zj g1 (fun v302 h303 g2 => ?_)
  refine zj g2 (fun v304 h305 g3 => ?_)
  refine zPb g3 (fun v307 hh g4_0 => ?_) (fun v307 hh g4_0 => ?_)
  ·subst hh
   exact zP (g := (fun r => (zu r, ⟨[(2, (.cells ((za p0).map .d))), (3, (.cells [(xi p1)])), (6, (.cells ((za p0).map .d))), (8, (.cells [(xi (w64 ((zo 1 (p0.Slips.1.length : Int)) - 1)))])), (9, (.cells [(.fn 77 [] [(.ptr 0 6 0), (.ptr 0 8 0), (.ptr 0 3 0), (.ptr 0 9 0)])]))], []⟩, []))) g4_0 (zH (n := 80) (V := [(77, 1, 1, .q (xi (r0.1.length : Int))), (77, 1, 3, .q (xb false)), (77, 5, 1, .q (xi (r0.1.length : Int)))]) (C := [(77, 2000036, (.nor, zFf p0 p1 r0 r1 r2 (decide ((r0.1.length : Int) > 0)) rc v302)), (77, 0, (.ret, zwi p0 p1 r0 r1 r2 v302 rc v307))]) (ob (zr eI r0.1) (ob (o_b h301) (ob (zr eI r0.1) (ob (zwm k p0 p1 r0 r1 r2 (decide ((r0.1.length : Int) > 0)) rc hrc _ h303) (ob (zx (id := 0) (r' := (.ret, zwi p0 p1 r0 r1 r2 v302 rc v307)) (zSd (zFm k p0 p1 r0 r1 r2 v302 rc hrc) k _ _ h305) rfl) ob0))))) (by kernel_rfl))
  ·subst hh
   exact zP (g := (fun r => (zu r, ⟨[(2, (.cells ((za p0).map .d))), (3, (.cells [(xi p1)])), (6, (.cells ((za p0).map .d))), (8, (.cells [(xi (w64 ((zo 1 (p0.Slips.1.length : Int)) - 1)))])), (9, (.cells [(.fn 77 [] [(.ptr 0 6 0), (.ptr 0 8 0), (.ptr 0 3 0), (.ptr 0 9 0)])]))], []⟩, []))) g4_0 (zH (n := 80) (V := [(77, 1, 1, .q (xi (r0.1.length : Int))), (77, 1, 3, .q (xb false)), (77, 5, 1, .q (xi (r0.1.length : Int)))]) (C := [(77, 2000036, (.nor, zFf p0 p1 r0 r1 r2 (decide ((r0.1.length : Int) > 0)) rc v302)), (77, 0, (.nor, z1i p0 p1 r0 r1 r2 v302 rc v307))]) (ob (zr eI r0.1) (ob (o_b h301) (ob (zr eI r0.1) (ob (zwm k p0 p1 r0 r1 r2 (decide ((r0.1.length : Int) > 0)) rc hrc _ h303) (ob (zx (id := 0) (r' := (.nor, z1i p0 p1 r0 r1 r2 v302 rc v307)) (zSd (zFm k p0 p1 r0 r1 r2 v302 rc hrc) k _ _ h305) rfl) ob0))))) (by kernel_rfl))
noncomputable def zCf (p0 : zd) (p1 : Int) (r0 : (SL Int)) (r1 r2 : Int) (cb : Bool) (rc : zt0) (f1 : Fr) (r : zt1) : St := ⟨(zyj r0 r1 r2 r), ⟨[], [[(zc 2 (za p0)), (3, (.cells [(xi p1)])), (zc 6 (za p0)), (8, (.cells [(xi (w64 ((zo 1 (p0.Slips.1.length : Int)) - 1)))])), (9, (.cells [(.fn 77 [] [(.ptr 0 6 0), (.ptr 0 8 0), (.ptr 0 3 0), (.ptr 0 9 0)])]))], f1]⟩, []⟩
theorem zGm (k : Nat) (p0 : zd) (p1 : Int) (r0 : (SL Int)) (r1 r2 : Int) (cb : Bool) (rc : zt0) (f1 : Fr) (hrc : ∀ (f : Fr) (r0 : (SL Int)) (r1 : Int) (r2 : Int) (r : ((SL Int) × Bool)), rc r0 r1 r2 = some r → zJ TE (ev TE) 77 [(.d (dl eI r0.1 r0.2)), (xi r1), (xi r2), (.ptr 0 6 0), (.ptr 0 8 0), (.ptr 0 3 0), (.ptr 0 9 0)] ⟨f, [[(2, (.cells ((za p0).map .d))), (3, (.cells [(xi p1)])), (6, (.cells ((za p0).map .d))), (8, (.cells [(xi (w64 ((zo 1 (p0.Slips.1.length : Int)) - 1)))])), (9, (.cells [(.fn 77 [] [(.ptr 0 6 0), (.ptr 0 8 0), (.ptr 0 3 0), (.ptr 0 9 0)])]))], f1]⟩ [] = some (zu r, ⟨f, [[(2, (.cells ((za p0).map .d))), (3, (.cells [(xi p1)])), (6, (.cells ((za p0).map .d))), (8, (.cells [(xi (w64 ((zo 1 (p0.Slips.1.length : Int)) - 1)))])), (9, (.cells [(.fn 77 [] [(.ptr 0 6 0), (.ptr 0 8 0), (.ptr 0 3 0), (.ptr 0 9 0)])]))], f1]⟩, [])) (r : zt1) (h : zol k p0 p1 r0 r1 r2 cb rc = some r) : ev TE 77 (cnd TE 77 36) ⟨(zwj r0 r1 r2 cb), ⟨[], [[(zc 2 (za p0)), (3, (.cells [(xi p1)])), (zc 6 (za p0)), (8, (.cells [(xi (w64 ((zo 1 (p0.Slips.1.length : Int)) - 1)))])), (9, (.cells [(.fn 77 [] [(.ptr 0 6 0), (.ptr 0 8 0), (.ptr 0 3 0), (.ptr 0 9 0)])]))], f1]⟩, []⟩ = some (.nor, zCf p0 p1 r0 r1 r2 cb rc f1 r) := by
 unfold zol at h
 refine zn h (fun h601 g1 => ?_) (fun h601 g1 => ?_)
 ·subst h601
  refine zj g1 (fun v602 h603 g2 => ?_)
  exact zA (g := fun r => (Ex.nor, zCf p0 p1 r0 r1 r2 true rc f1 r)) g2 (zqe [(77, 6, 2, .q (xi (r0.1.length : Int))), (77, 6, 4, .q (.d (.pin [(di v602)])))] [] (ob (zr eI r0.1) (ob (o_ia (e := eI) 1 h603 rfl) ob0)) (by kernel_rfl))
 ·subst h601
  exact zA (g := fun r => (Ex.nor, zCf p0 p1 r0 r1 r2 false rc f1 r)) g1 (zqe [] [] ob0 (by kernel_rfl))
noncomputable def zaB (r0 : (SL Int)) (r1 r2 : Int) (v502 : zt1) (s6_8 : Int) : TM := [(0, (.d (dl eI r0.1 r0.2))), (1, (xi r1)), (2, (xi r2)), (3, (.ptr 0 6 0)), (4, (.ptr 0 8 0)), (5, (.ptr 0 3 0)), (6, (.ptr 0 9 0)), (10, (.d (.sl [] .nil))), (11, (xb false)), (21, (xb false)), (14, (xi v502.1)), (36, (xb v502.2)), (15, (xi s6_8))]
noncomputable def zTr (p0 : zd) (p1 : Int) (r0 : (SL Int)) (r1 r2 : Int) (v502 : zt1) (rc : zt0) (f1 : Fr) (s6_8 : Int) : St := ⟨(zaB r0 r1 r2 v502 s6_8), ⟨[], [[(zc 2 (za p0)), (3, (.cells [(xi p1)])), (zc 6 (za p0)), (8, (.cells [(xi (w64 ((zo 1 (p0.Slips.1.length : Int)) - 1)))])), (9, (.cells [(.fn 77 [] [(.ptr 0 6 0), (.ptr 0 8 0), (.ptr 0 3 0), (.ptr 0 9 0)])]))], f1]⟩, []⟩
noncomputable def z4z (r0 : (SL Int)) (r1 r2 : Int) (r : zt19) (v502 : zt1) : TM := [(0, (.d (dl eI r0.1 r0.2))), (1, (xi r1)), (2, (xi r2)), (3, (.ptr 0 6 0)), (4, (.ptr 0 8 0)), (5, (.ptr 0 3 0)), (6, (.ptr 0 9 0)), (10, (.d (dl eI r.1.1 r.1.2))), (11, (xb true)), (21, (xb false)), (14, (xi v502.1)), (36, (xb v502.2)), (15, (xi r.2.1)), (50, (xb true)), (16, (.d (dl eI r.1.1 r.1.2))), (17, (xb r.2.2)), (72, (xb true))]
noncomputable def zPi (p0 : zd) (p1 : Int) (r0 : (SL Int)) (r1 r2 : Int) (v502 : zt1) (rc : zt0) (f1 : Fr) (r : zt19) : St := ⟨(z4z r0 r1 r2 r v502), ⟨[], [[(zc 2 (za p0)), (3, (.cells [(xi p1)])), (zc 6 (za p0)), (8, (.cells [(xi (w64 ((zo 1 (p0.Slips.1.length : Int)) - 1)))])), (9, (.cells [(.fn 77 [] [(.ptr 0 6 0), (.ptr 0 8 0), (.ptr 0 3 0), (.ptr 0 9 0)])]))], f1]⟩, []⟩
noncomputable def z1A (r0 : (SL Int)) (r1 r2 : Int) (v502 : zt1) (r : Int) : TM := [(0, (.d (dl eI r0.1 r0.2))), (1, (xi r1)), (2, (xi r2)), (3, (.ptr 0 6 0)), (4, (.ptr 0 8 0)), (5, (.ptr 0 3 0)), (6, (.ptr 0 9 0)), (10, (.d (.sl [] .nil))), (11, (xb false)), (21, (xb false)), (14, (xi v502.1)), (36, (xb v502.2)), (15, (xi r)), (50, (xb false))]
noncomputable def z3i (p0 : zd) (p1 : Int) (r0 : (SL Int)) (r1 r2 : Int) (v502 : zt1) (rc : zt0) (f1 : Fr) (r : Int) : St := ⟨(z1A r0 r1 r2 v502 r), ⟨[], [[(zc 2 (za p0)), (3, (.cells [(xi p1)])), (zc 6 (za p0)), (8, (.cells [(xi (w64 ((zo 1 (p0.Slips.1.length : Int)) - 1)))])), (9, (.cells [(.fn 77 [] [(.ptr 0 6 0), (.ptr 0 8 0), (.ptr 0 3 0), (.ptr 0 9 0)])]))], f1]⟩, []⟩
noncomputable def zbs (p0 : zd) (p1 : Int) (r0 : (SL Int)) (r1 r2 : Int) (v502 : zt1) (rc : zt0) (f1 : Fr) : (((SL Int) × Int × Bool) ⊕ Int) → Ex × St := Sum.elim (fun r => (.ret, zPi p0 p1 r0 r1 r2 v502 rc f1 r)) (fun r => ((.exit 0), z3i p0 p1 r0 r1 r2 v502 rc f1 r))
theorem zym (k : Nat) (p0 : zd) (p1 : Int) (r0 : (SL Int)) (r1 r2 : Int) (v502 : zt1) (rc : zt0) (f1 : Fr) (hrc : ∀ (f : Fr) (r0 : (SL Int)) (r1 : Int) (r2 : Int) (r : ((SL Int) × Bool)), rc r0 r1 r2 = some r → zJ TE (ev TE) 77 [(.d (dl eI r0.1 r0.2)), (xi r1), (xi r2), (.ptr 0 6 0), (.ptr 0 8 0), (.ptr 0 3 0), (.ptr 0 9 0)] ⟨f, [[(2, (.cells ((za p0).map .d))), (3, (.cells [(xi p1)])), (6, (.cells ((za p0).map .d))), (8, (.cells [(xi (w64 ((zo 1 (p0.Slips.1.length : Int)) - 1)))])), (9, (.cells [(.fn 77 [] [(.ptr 0 6 0), (.ptr 0 8 0), (.ptr 0 3 0), (.ptr 0 9 0)])]))], f1]⟩ [] = some (zu r, ⟨f, [[(2, (.cells ((za p0).map .d))), (3, (.cells [(xi p1)])), (6, (.cells ((za p0).map .d))), (8, (.cells [(xi (w64 ((zo 1 (p0.Slips.1.length : Int)) - 1)))])), (9, (.cells [(.fn 77 [] [(.ptr 0 6 0), (.ptr 0 8 0), (.ptr 0 3 0), (.ptr 0 9 0)])]))], f1]⟩, [])) (s6_8 : Int) (x : Int ⊕ (((SL Int) × Int × Bool) ⊕ Int)) (h : zXl k p0 p1 r0 r1 r2 v502 rc s6_8 = some x) : zE TE 77 (blk TE 77 0) (fun s : Int => zTr p0 p1 r0 r1 r2 v502 rc f1 s) (zbs p0 p1 r0 r1 r2 v502 rc f1) s6_8 x := by
 unfold zXl at h
 refine zn h (fun h701 g1 => ?_) (fun h701 g1 => ?_)
 ·refine zn g1 (fun h702 g2 => ?_) (fun h702 g2 => ?_)
  ·cases g2
  ·refine zO g2 (fun h703 g3 => ?_)
   refine zn g3 (fun h704 g4 => ?_) (fun h704 g4 => ?_)
   ·cases g4
   ·refine zj g4 (fun v705 h706 g5 => ?_)
    refine zn g5 (fun h707 g6 => ?_) (fun h707 g6 => ?_)
    ·exact zqo [(77, 8, 4, .q (xi (p0.Slips.1.length : Int))), (77, 8, 5, .q (xb true)), (77, 10, 3, .q (xi (r0.1.length : Int))), (77, 10, 5, .q (xi (r0.1.length : Int))), (77, 10, 6, .q (.d (dl eI r0.1 (ccap r0.2)))), (77, 10, 9, .q (.d (dl eI (r0.1 ++ [s6_8]) .ro))), (77, 10, 12, .q (xi (zo 1 s6_8))), (77, 10, 15, .i (.tup [(dl eI v705.1.1 v705.1.2), (db v705.2)]) ⟨[], [[(2, (.cells ((za p0).map .d))), (3, (.cells [(xi p1)])), (6, (.cells ((za p0).map .d))), (8, (.cells [(xi (w64 ((zo 1 (p0.Slips.1.length : Int)) - 1)))])), (9, (.cells [(.fn 77 [] [(.ptr 0 6 0), (.ptr 0 8 0), (.ptr 0 3 0), (.ptr 0 9 0)])]))], f1]⟩ []), (77, 11, 0, .q (xb true))] [] g6 (ob (zr zl p0.Slips.1) (ob (o_b h701) (ob (zr eI r0.1) (ob (zr eI r0.1) (ob (zod (e := eI) (z := 1) r0.1 r0.2) (ob (o_ad (P := TE.P) (φ := fun _ _ => none) (T := 22) (q := (1, [(di 0)])) (c := (ccap r0.2)) (e := eI) r0.1 s6_8 (by kernel_rfl) (fun _ => rfl) h702 h703) (ob (zIb (x := 1) h704) (ob (hrc ([] : Fr) ((r0.1 ++ [s6_8]), .ro) (or64 r1 (zo 1 s6_8)) r2 _ h706) (ob (o_b h707) ob0))))))))) (by kernel_rfl)
    ·exact zqn (w64 (s6_8 + 1)) [] [(77, 8, 4, .q (xi (p0.Slips.1.length : Int))), (77, 8, 5, .q (xb true)), (77, 10, 3, .q (xi (r0.1.length : Int))), (77, 10, 5, .q (xi (r0.1.length : Int))), (77, 10, 6, .q (.d (dl eI r0.1 (ccap r0.2)))), (77, 10, 9, .q (.d (dl eI (r0.1 ++ [s6_8]) .ro))), (77, 10, 12, .q (xi (zo 1 s6_8))), (77, 10, 15, .i (.tup [(dl eI v705.1.1 v705.1.2), (db v705.2)]) ⟨[], [[(2, (.cells ((za p0).map .d))), (3, (.cells [(xi p1)])), (6, (.cells ((za p0).map .d))), (8, (.cells [(xi (w64 ((zo 1 (p0.Slips.1.length : Int)) - 1)))])), (9, (.cells [(.fn 77 [] [(.ptr 0 6 0), (.ptr 0 8 0), (.ptr 0 3 0), (.ptr 0 9 0)])]))], f1]⟩ []), (77, 11, 0, .q (xb false))] [] g6 (ob (zr zl p0.Slips.1) (ob (o_b h701) (ob (zr eI r0.1) (ob (zr eI r0.1) (ob (zod (e := eI) (z := 1) r0.1 r0.2) (ob (o_ad (P := TE.P) (φ := fun _ _ => none) (T := 22) (q := (1, [(di 0)])) (c := (ccap r0.2)) (e := eI) r0.1 s6_8 (by kernel_rfl) (fun _ => rfl) h702 h703) (ob (zIb (x := 1) h704) (ob (hrc ([] : Fr) ((r0.1 ++ [s6_8]), .ro) (or64 r1 (zo 1 s6_8)) r2 _ h706) (ob (o_b h707) ob0))))))))) (by kernel_rfl)
 ·exact zqo [(77, 8, 4, .q (xi (p0.Slips.1.length : Int))), (77, 8, 5, .q (xb false))] [] g1 (ob (zr zl p0.Slips.1) (ob (o_b h701) ob0)) (by kernel_rfl)
theorem zpq (k : Nat) (p0 : zd) (p1 : Int) (rc : zt0) (f1 : Fr) (hrc : ∀ (f : Fr) (r0 : (SL Int)) (r1 : Int) (r2 : Int) (r : ((SL Int) × Bool)), rc r0 r1 r2 = some r → zJ TE (ev TE) 77 [(.d (dl eI r0.1 r0.2)), (xi r1), (xi r2), (.ptr 0 6 0), (.ptr 0 8 0), (.ptr 0 3 0), (.ptr 0 9 0)] ⟨f, [[(2, (.cells ((za p0).map .d))), (3, (.cells [(xi p1)])), (6, (.cells ((za p0).map .d))), (8, (.cells [(xi (w64 ((zo 1 (p0.Slips.1.length : Int)) - 1)))])), (9, (.cells [(.fn 77 [] [(.ptr 0 6 0), (.ptr 0 8 0), (.ptr 0 3 0), (.ptr 0 9 0)])]))], f1]⟩ [] = some (zu r, ⟨f, [[(2, (.cells ((za p0).map .d))), (3, (.cells [(xi p1)])), (6, (.cells ((za p0).map .d))), (8, (.cells [(xi (w64 ((zo 1 (p0.Slips.1.length : Int)) - 1)))])), (9, (.cells [(.fn 77 [] [(.ptr 0 6 0), (.ptr 0 8 0), (.ptr 0 3 0), (.ptr 0 9 0)])]))], f1]⟩, [])) (r0 : (SL Int)) (r1 r2 : Int) (r : zt14) (h : zAi k p0 p1 rc r0 r1 r2 = some r) : zJ TE (ev TE) 77 [(.d (dl eI r0.1 r0.2)), (xi r1), (xi r2), (.ptr 0 6 0), (.ptr 0 8 0), (.ptr 0 3 0), (.ptr 0 9 0)] ⟨f1, [[(zc 2 (za p0)), (3, (.cells [(xi p1)])), (zc 6 (za p0)), (8, (.cells [(xi (w64 ((zo 1 (p0.Slips.1.length : Int)) - 1)))])), (9, (.cells [(.fn 77 [] [(.ptr 0 6 0), (.ptr 0 8 0), (.ptr 0 3 0), (.ptr 0 9 0)])]))]]⟩ [] = some (zu r, ⟨f1, [[(zc 2 (za p0)), (3, (.cells [(xi p1)])), (zc 6 (za p0)), (8, (.cells [(xi (w64 ((zo 1 (p0.Slips.1.length : Int)) - 1)))])), (9, (.cells [(.fn 77 [] [(.ptr 0 6 0), (.ptr 0 8 0), (.ptr 0 3 0), (.ptr 0 9 0)])]))]]⟩, []) := by
 unfold zAi at h
 refine zn h (fun h501 g1 => ?_) (fun h501 g1 => ?_)
 ·refine zj g1 (fun v502 h503 g2 => ?_)
  exact zP (g := (fun r => (zu r, ⟨f1, [[(2, (.cells ((za p0).map .d))), (3, (.cells [(xi p1)])), (6, (.cells ((za p0).map .d))), (8, (.cells [(xi (w64 ((zo 1 (p0.Slips.1.length : Int)) - 1)))])), (9, (.cells [(.fn 77 [] [(.ptr 0 6 0), (.ptr 0 8 0), (.ptr 0 3 0), (.ptr 0 9 0)])]))]]⟩, []))) g2 (zH (n := 80) (V := [(77, 1, 1, .q (xi (r0.1.length : Int))), (77, 1, 3, .q (xb true)), (77, 2, 6, .c (.tup [(dl (eL eI) v502.1.1 v502.1.2), (db v502.2)]))]) (C := []) (ob (zr eI r0.1) (ob (o_b h501) (ob (zR k (⟨p0⟩ : zh) (⟨(zib (w64 ((zo 1 (p0.Slips.1.length : Int)) - 1)) r1), p1⟩ : zt) _ h503) ob0))) (by kernel_rfl))
 ·refine zj g1 (fun v502 h503 g2 => ?_)
  refine zj g2 (fun v504 h505 g3 => ?_)
  refine zPb g3 (fun v507 hh g4_0 => ?_) (fun v507 hh g4_0 => ?_)
  ·subst hh
   exact zP (g := (fun r => (zu r, ⟨f1, [[(2, (.cells ((za p0).map .d))), (3, (.cells [(xi p1)])), (6, (.cells ((za p0).map .d))), (8, (.cells [(xi (w64 ((zo 1 (p0.Slips.1.length : Int)) - 1)))])), (9, (.cells [(.fn 77 [] [(.ptr 0 6 0), (.ptr 0 8 0), (.ptr 0 3 0), (.ptr 0 9 0)])]))]]⟩, []))) g4_0 (zH (n := 80) (V := [(77, 1, 1, .q (xi (r0.1.length : Int))), (77, 1, 3, .q (xb false)), (77, 5, 1, .q (xi (r0.1.length : Int)))]) (C := [(77, 2000036, (.nor, zCf p0 p1 r0 r1 r2 (decide ((r0.1.length : Int) > 0)) rc f1 v502)), (77, 0, (.ret, zPi p0 p1 r0 r1 r2 v502 rc f1 v507))]) (ob (zr eI r0.1) (ob (o_b h501) (ob (zr eI r0.1) (ob (zGm k p0 p1 r0 r1 r2 (decide ((r0.1.length : Int) > 0)) rc f1 hrc _ h503) (ob (zx (id := 0) (r' := (.ret, zPi p0 p1 r0 r1 r2 v502 rc f1 v507)) (zSd (zym k p0 p1 r0 r1 r2 v502 rc f1 hrc) k _ _ h505) rfl) ob0))))) (by kernel_rfl))
  ·subst hh
   exact zP (g := (fun r => (zu r, ⟨f1, [[(2, (.cells ((za p0).map .d))), (3, (.cells [(xi p1)])), (6, (.cells ((za p0).map .d))), (8, (.cells [(xi (w64 ((zo 1 (p0.Slips.1.length : Int)) - 1)))])), (9, (.cells [(.fn 77 [] [(.ptr 0 6 0), (.ptr 0 8 0), (.ptr 0 3 0), (.ptr 0 9 0)])]))]]⟩, []))) g4_0 (zH (n := 80) (V := [(77, 1, 1, .q (xi (r0.1.length : Int))), (77, 1, 3, .q (xb false)), (77, 5, 1, .q (xi (r0.1.length : Int)))]) (C := [(77, 2000036, (.nor, zCf p0 p1 r0 r1 r2 (decide ((r0.1.length : Int) > 0)) rc f1 v502)), (77, 0, (.nor, z3i p0 p1 r0 r1 r2 v502 rc f1 v507))]) (ob (zr eI r0.1) (ob (o_b h501) (ob (zr eI r0.1) (ob (zGm k p0 p1 r0 r1 r2 (decide ((r0.1.length : Int) > 0)) rc f1 hrc _ h503) (ob (zx (id := 0) (r' := (.nor, z3i p0 p1 r0 r1 r2 v502 rc f1 v507)) (zSd (zym k p0 p1 r0 r1 r2 v502 rc f1 hrc) k _ _ h505) rfl) ob0))))) (by kernel_rfl))
noncomputable def zIf (p0 : zd) (p1 : Int) (r0 : (SL Int)) (r1 r2 : Int) (cb : Bool) (rc : zt0) (f1 f2 : Fr) (r : zt1) : St := ⟨(zyj r0 r1 r2 r), ⟨[], [[(zc 2 (za p0)), (3, (.cells [(xi p1)])), (zc 6 (za p0)), (8, (.cells [(xi (w64 ((zo 1 (p0.Slips.1.length : Int)) - 1)))])), (9, (.cells [(.fn 77 [] [(.ptr 0 6 0), (.ptr 0 8 0), (.ptr 0 3 0), (.ptr 0 9 0)])]))], f1, f2]⟩, []⟩
theorem ztm (k : Nat) (p0 : zd) (p1 : Int) (r0 : (SL Int)) (r1 r2 : Int) (cb : Bool) (rc : zt0) (f1 f2 : Fr) (hrc : ∀ (f : Fr) (r0 : (SL Int)) (r1 : Int) (r2 : Int) (r : ((SL Int) × Bool)), rc r0 r1 r2 = some r → zJ TE (ev TE) 77 [(.d (dl eI r0.1 r0.2)), (xi r1), (xi r2), (.ptr 0 6 0), (.ptr 0 8 0), (.ptr 0 3 0), (.ptr 0 9 0)] ⟨f, [[(2, (.cells ((za p0).map .d))), (3, (.cells [(xi p1)])), (6, (.cells ((za p0).map .d))), (8, (.cells [(xi (w64 ((zo 1 (p0.Slips.1.length : Int)) - 1)))])), (9, (.cells [(.fn 77 [] [(.ptr 0 6 0), (.ptr 0 8 0), (.ptr 0 3 0), (.ptr 0 9 0)])]))], f1, f2]⟩ [] = some (zu r, ⟨f, [[(2, (.cells ((za p0).map .d))), (3, (.cells [(xi p1)])), (6, (.cells ((za p0).map .d))), (8, (.cells [(xi (w64 ((zo 1 (p0.Slips.1.length : Int)) - 1)))])), (9, (.cells [(.fn 77 [] [(.ptr 0 6 0), (.ptr 0 8 0), (.ptr 0 3 0), (.ptr 0 9 0)])]))], f1, f2]⟩, [])) (r : zt1) (h : zll k p0 p1 r0 r1 r2 cb rc = some r) : ev TE 77 (cnd TE 77 36) ⟨(zwj r0 r1 r2 cb), ⟨[], [[(zc 2 (za p0)), (3, (.cells [(xi p1)])), (zc 6 (za p0)), (8, (.cells [(xi (w64 ((zo 1 (p0.Slips.1.length : Int)) - 1)))])), (9, (.cells [(.fn 77 [] [(.ptr 0 6 0), (.ptr 0 8 0), (.ptr 0 3 0), (.ptr 0 9 0)])]))], f1, f2]⟩, []⟩ = some (.nor, zIf p0 p1 r0 r1 r2 cb rc f1 f2 r) := by
 unfold zll at h
 refine zn h (fun h801 g1 => ?_) (fun h801 g1 => ?_)
 ·subst h801
  refine zj g1 (fun v802 h803 g2 => ?_)
  exact zA (g := fun r => (Ex.nor, zIf p0 p1 r0 r1 r2 true rc f1 f2 r)) g2 (zqe [(77, 6, 2, .q (xi (r0.1.length : Int))), (77, 6, 4, .q (.d (.pin [(di v802)])))] [] (ob (zr eI r0.1) (ob (o_ia (e := eI) 1 h803 rfl) ob0)) (by kernel_rfl))
 ·subst h801
  exact zA (g := fun r => (Ex.nor, zIf p0 p1 r0 r1 r2 false rc f1 f2 r)) g1 (zqe [] [] ob0 (by kernel_rfl))
noncomputable def zpA (r0 : (SL Int)) (r1 r2 : Int) (v702 : zt1) (s8_8 : Int) : TM := [(0, (.d (dl eI r0.1 r0.2))), (1, (xi r1)), (2, (xi r2)), (3, (.ptr 0 6 0)), (4, (.ptr 0 8 0)), (5, (.ptr 0 3 0)), (6, (.ptr 0 9 0)), (10, (.d (.sl [] .nil))), (11, (xb false)), (21, (xb false)), (14, (xi v702.1)), (36, (xb v702.2)), (15, (xi s8_8))]
noncomputable def zLr (p0 : zd) (p1 : Int) (r0 : (SL Int)) (r1 r2 : Int) (v702 : zt1) (rc : zt0) (f1 f2 : Fr) (s8_8 : Int) : St := ⟨(zpA r0 r1 r2 v702 s8_8), ⟨[], [[(zc 2 (za p0)), (3, (.cells [(xi p1)])), (zc 6 (za p0)), (8, (.cells [(xi (w64 ((zo 1 (p0.Slips.1.length : Int)) - 1)))])), (9, (.cells [(.fn 77 [] [(.ptr 0 6 0), (.ptr 0 8 0), (.ptr 0 3 0), (.ptr 0 9 0)])]))], f1, f2]⟩, []⟩
noncomputable def zQA (r0 : (SL Int)) (r1 r2 : Int) (r : zt19) (v702 : zt1) : TM := [(0, (.d (dl eI r0.1 r0.2))), (1, (xi r1)), (2, (xi r2)), (3, (.ptr 0 6 0)), (4, (.ptr 0 8 0)), (5, (.ptr 0 3 0)), (6, (.ptr 0 9 0)), (10, (.d (dl eI r.1.1 r.1.2))), (11, (xb true)), (21, (xb false)), (14, (xi v702.1)), (36, (xb v702.2)), (15, (xi r.2.1)), (50, (xb true)), (16, (.d (dl eI r.1.1 r.1.2))), (17, (xb r.2.2)), (72, (xb true))]
noncomputable def zvi (p0 : zd) (p1 : Int) (r0 : (SL Int)) (r1 r2 : Int) (v702 : zt1) (rc : zt0) (f1 f2 : Fr) (r : zt19) : St := ⟨(zQA r0 r1 r2 r v702), ⟨[], [[(zc 2 (za p0)), (3, (.cells [(xi p1)])), (zc 6 (za p0)), (8, (.cells [(xi (w64 ((zo 1 (p0.Slips.1.length : Int)) - 1)))])), (9, (.cells [(.fn 77 [] [(.ptr 0 6 0), (.ptr 0 8 0), (.ptr 0 3 0), (.ptr 0 9 0)])]))], f1, f2]⟩, []⟩
noncomputable def zYz (r0 : (SL Int)) (r1 r2 : Int) (v702 : zt1) (r : Int) : TM := [(0, (.d (dl eI r0.1 r0.2))), (1, (xi r1)), (2, (xi r2)), (3, (.ptr 0 6 0)), (4, (.ptr 0 8 0)), (5, (.ptr 0 3 0)), (6, (.ptr 0 9 0)), (10, (.d (.sl [] .nil))), (11, (xb false)), (21, (xb false)), (14, (xi v702.1)), (36, (xb v702.2)), (15, (xi r)), (50, (xb false))]
noncomputable def zGi (p0 : zd) (p1 : Int) (r0 : (SL Int)) (r1 r2 : Int) (v702 : zt1) (rc : zt0) (f1 f2 : Fr) (r : Int) : St := ⟨(zYz r0 r1 r2 v702 r), ⟨[], [[(zc 2 (za p0)), (3, (.cells [(xi p1)])), (zc 6 (za p0)), (8, (.cells [(xi (w64 ((zo 1 (p0.Slips.1.length : Int)) - 1)))])), (9, (.cells [(.fn 77 [] [(.ptr 0 6 0), (.ptr 0 8 0), (.ptr 0 3 0), (.ptr 0 9 0)])]))], f1, f2]⟩, []⟩
noncomputable def zNr (p0 : zd) (p1 : Int) (r0 : (SL Int)) (r1 r2 : Int) (v702 : zt1) (rc : zt0) (f1 f2 : Fr) : (((SL Int) × Int × Bool) ⊕ Int) → Ex × St := Sum.elim (fun r => (.ret, zvi p0 p1 r0 r1 r2 v702 rc f1 f2 r)) (fun r => ((.exit 0), zGi p0 p1 r0 r1 r2 v702 rc f1 f2 r))
theorem zmm (k : Nat) (p0 : zd) (p1 : Int) (r0 : (SL Int)) (r1 r2 : Int) (v702 : zt1) (rc : zt0) (f1 f2 : Fr) (hrc : ∀ (f : Fr) (r0 : (SL Int)) (r1 : Int) (r2 : Int) (r : ((SL Int) × Bool)), rc r0 r1 r2 = some r → zJ TE (ev TE) 77 [(.d (dl eI r0.1 r0.2)), (xi r1), (xi r2), (.ptr 0 6 0), (.ptr 0 8 0), (.ptr 0 3 0), (.ptr 0 9 0)] ⟨f, [[(2, (.cells ((za p0).map .d))), (3, (.cells [(xi p1)])), (6, (.cells ((za p0).map .d))), (8, (.cells [(xi (w64 ((zo 1 (p0.Slips.1.length : Int)) - 1)))])), (9, (.cells [(.fn 77 [] [(.ptr 0 6 0), (.ptr 0 8 0), (.ptr 0 3 0), (.ptr 0 9 0)])]))], f1, f2]⟩ [] = some (zu r, ⟨f, [[(2, (.cells ((za p0).map .d))), (3, (.cells [(xi p1)])), (6, (.cells ((za p0).map .d))), (8, (.cells [(xi (w64 ((zo 1 (p0.Slips.1.length : Int)) - 1)))])), (9, (.cells [(.fn 77 [] [(.ptr 0 6 0), (.ptr 0 8 0), (.ptr 0 3 0), (.ptr 0 9 0)])]))], f1, f2]⟩, [])) (s8_8 : Int) (x : Int ⊕ (((SL Int) × Int × Bool) ⊕ Int)) (h : zTl k p0 p1 r0 r1 r2 v702 rc s8_8 = some x) : zE TE 77 (blk TE 77 0) (fun s : Int => zLr p0 p1 r0 r1 r2 v702 rc f1 f2 s) (zNr p0 p1 r0 r1 r2 v702 rc f1 f2) s8_8 x := by
 unfold zTl at h
 refine zn h (fun h901 g1 => ?_) (fun h901 g1 => ?_)
 ·refine zn g1 (fun h902 g2 => ?_) (fun h902 g2 => ?_)
  ·cases g2
  ·refine zO g2 (fun h903 g3 => ?_)
   refine zn g3 (fun h904 g4 => ?_) (fun h904 g4 => ?_)
   ·cases g4
   ·refine zj g4 (fun v905 h906 g5 => ?_)
    refine zn g5 (fun h907 g6 => ?_) (fun h907 g6 => ?_)
    ·exact zqo [(77, 8, 4, .q (xi (p0.Slips.1.length : Int))), (77, 8, 5, .q (xb true)), (77, 10, 3, .q (xi (r0.1.length : Int))), (77, 10, 5, .q (xi (r0.1.length : Int))), (77, 10, 6, .q (.d (dl eI r0.1 (ccap r0.2)))), (77, 10, 9, .q (.d (dl eI (r0.1 ++ [s8_8]) .ro))), (77, 10, 12, .q (xi (zo 1 s8_8))), (77, 10, 15, .i (.tup [(dl eI v905.1.1 v905.1.2), (db v905.2)]) ⟨[], [[(2, (.cells ((za p0).map .d))), (3, (.cells [(xi p1)])), (6, (.cells ((za p0).map .d))), (8, (.cells [(xi (w64 ((zo 1 (p0.Slips.1.length : Int)) - 1)))])), (9, (.cells [(.fn 77 [] [(.ptr 0 6 0), (.ptr 0 8 0), (.ptr 0 3 0), (.ptr 0 9 0)])]))], f1, f2]⟩ []), (77, 11, 0, .q (xb true))] [] g6 (ob (zr zl p0.Slips.1) (ob (o_b h901) (ob (zr eI r0.1) (ob (zr eI r0.1) (ob (zod (e := eI) (z := 1) r0.1 r0.2) (ob (o_ad (P := TE.P) (φ := fun _ _ => none) (T := 22) (q := (1, [(di 0)])) (c := (ccap r0.2)) (e := eI) r0.1 s8_8 (by kernel_rfl) (fun _ => rfl) h902 h903) (ob (zIb (x := 1) h904) (ob (hrc ([] : Fr) ((r0.1 ++ [s8_8]), .ro) (or64 r1 (zo 1 s8_8)) r2 _ h906) (ob (o_b h907) ob0))))))))) (by kernel_rfl)
    ·exact zqn (w64 (s8_8 + 1)) [] [(77, 8, 4, .q (xi (p0.Slips.1.length : Int))), (77, 8, 5, .q (xb true)), (77, 10, 3, .q (xi (r0.1.length : Int))), (77, 10, 5, .q (xi (r0.1.length : Int))), (77, 10, 6, .q (.d (dl eI r0.1 (ccap r0.2)))), (77, 10, 9, .q (.d (dl eI (r0.1 ++ [s8_8]) .ro))), (77, 10, 12, .q (xi (zo 1 s8_8))), (77, 10, 15, .i (.tup [(dl eI v905.1.1 v905.1.2), (db v905.2)]) ⟨[], [[(2, (.cells ((za p0).map .d))), (3, (.cells [(xi p1)])), (6, (.cells ((za p0).map .d))), (8, (.cells [(xi (w64 ((zo 1 (p0.Slips.1.length : Int)) - 1)))])), (9, (.cells [(.fn 77 [] [(.ptr 0 6 0), (.ptr 0 8 0), (.ptr 0 3 0), (.ptr 0 9 0)])]))], f1, f2]⟩ []), (77, 11, 0, .q (xb false))] [] g6 (ob (zr zl p0.Slips.1) (ob (o_b h901) (ob (zr eI r0.1) (ob (zr eI r0.1) (ob (zod (e := eI) (z := 1) r0.1 r0.2) (ob (o_ad (P := TE.P) (φ := fun _ _ => none) (T := 22) (q := (1, [(di 0)])) (c := (ccap r0.2)) (e := eI) r0.1 s8_8 (by kernel_rfl) (fun _ => rfl) h902 h903) (ob (zIb (x := 1) h904) (ob (hrc ([] : Fr) ((r0.1 ++ [s8_8]), .ro) (or64 r1 (zo 1 s8_8)) r2 _ h906) (ob (o_b h907) ob0))))))))) (by kernel_rfl)
 ·exact zqo [(77, 8, 4, .q (xi (p0.Slips.1.length : Int))), (77, 8, 5, .q (xb false))] [] g1 (ob (zr zl p0.Slips.1) (ob (o_b h901) ob0)) (by kernel_rfl)
theorem ziq (k : Nat) (p0 : zd) (p1 : Int) (rc : zt0) (f1 f2 : Fr) (hrc : ∀ (f : Fr) (r0 : (SL Int)) (r1 : Int) (r2 : Int) (r : ((SL Int) × Bool)), rc r0 r1 r2 = some r → zJ TE (ev TE) 77 [(.d (dl eI r0.1 r0.2)), (xi r1), (xi r2), (.ptr 0 6 0), (.ptr 0 8 0), (.ptr 0 3 0), (.ptr 0 9 0)] ⟨f, [[(2, (.cells ((za p0).map .d))), (3, (.cells [(xi p1)])), (6, (.cells ((za p0).map .d))), (8, (.cells [(xi (w64 ((zo 1 (p0.Slips.1.length : Int)) - 1)))])), (9, (.cells [(.fn 77 [] [(.ptr 0 6 0), (.ptr 0 8 0), (.ptr 0 3 0), (.ptr 0 9 0)])]))], f1, f2]⟩ [] = some (zu r, ⟨f, [[(2, (.cells ((za p0).map .d))), (3, (.cells [(xi p1)])), (6, (.cells ((za p0).map .d))), (8, (.cells [(xi (w64 ((zo 1 (p0.Slips.1.length : Int)) - 1)))])), (9, (.cells [(.fn 77 [] [(.ptr 0 6 0), (.ptr 0 8 0), (.ptr 0 3 0), (.ptr 0 9 0)])]))], f1, f2]⟩, [])) (r0 : (SL Int)) (r1 r2 : Int) (r : zt14) (h : zyi k p0 p1 rc r0 r1 r2 = some r) : zJ TE (ev TE) 77 [(.d (dl eI r0.1 r0.2)), (xi r1), (xi r2), (.ptr 0 6 0), (.ptr 0 8 0), (.ptr 0 3 0), (.ptr 0 9 0)] ⟨f2, [[(zc 2 (za p0)), (3, (.cells [(xi p1)])), (zc 6 (za p0)), (8, (.cells [(xi (w64 ((zo 1 (p0.Slips.1.length : Int)) - 1)))])), (9, (.cells [(.fn 77 [] [(.ptr 0 6 0), (.ptr 0 8 0), (.ptr 0 3 0), (.ptr 0 9 0)])]))], f1]⟩ [] = some (zu r, ⟨f2, [[(zc 2 (za p0)), (3, (.cells [(xi p1)])), (zc 6 (za p0)), (8, (.cells [(xi (w64 ((zo 1 (p0.Slips.1.length : Int)) - 1)))])), (9, (.cells [(.fn 77 [] [(.ptr 0 6 0), (.ptr 0 8 0), (.ptr 0 3 0), (.ptr 0 9 0)])]))], f1]⟩, []) := by
 unfold zyi at h
 refine zn h (fun h701 g1 => ?_) (fun h701 g1 => ?_)
 ·refine zj g1 (fun v702 h703 g2 => ?_)
  exact zP (g := (fun r => (zu r, ⟨f2, [[(2, (.cells ((za p0).map .d))), (3, (.cells [(xi p1)])), (6, (.cells ((za p0).map .d))), (8, (.cells [(xi (w64 ((zo 1 (p0.Slips.1.length : Int)) - 1)))])), (9, (.cells [(.fn 77 [] [(.ptr 0 6 0), (.ptr 0 8 0), (.ptr 0 3 0), (.ptr 0 9 0)])]))], f1]⟩, []))) g2 (zH (n := 80) (V := [(77, 1, 1, .q (xi (r0.1.length : Int))), (77, 1, 3, .q (xb true)), (77, 2, 6, .c (.tup [(dl (eL eI) v702.1.1 v702.1.2), (db v702.2)]))]) (C := []) (ob (zr eI r0.1) (ob (o_b h701) (ob (zR k (⟨p0⟩ : zh) (⟨(zib (w64 ((zo 1 (p0.Slips.1.length : Int)) - 1)) r1), p1⟩ : zt) _ h703) ob0))) (by kernel_rfl))
 ·refine zj g1 (fun v702 h703 g2 => ?_)
  refine zj g2 (fun v704 h705 g3 => ?_)
  refine zPb g3 (fun v707 hh g4_0 => ?_) (fun v707 hh g4_0 => ?_)
  ·subst hh
   exact zP (g := (fun r => (zu r, ⟨f2, [[(2, (.cells ((za p0).map .d))), (3, (.cells [(xi p1)])), (6, (.cells ((za p0).map .d))), (8, (.cells [(xi (w64 ((zo 1 (p0.Slips.1.length : Int)) - 1)))])), (9, (.cells [(.fn 77 [] [(.ptr 0 6 0), (.ptr 0 8 0), (.ptr 0 3 0), (.ptr 0 9 0)])]))], f1]⟩, []))) g4_0 (zH (n := 80) (V := [(77, 1, 1, .q (xi (r0.1.length : Int))), (77, 1, 3, .q (xb false)), (77, 5, 1, .q (xi (r0.1.length : Int)))]) (C := [(77, 2000036, (.nor, zIf p0 p1 r0 r1 r2 (decide ((r0.1.length : Int) > 0)) rc f1 f2 v702)), (77, 0, (.ret, zvi p0 p1 r0 r1 r2 v702 rc f1 f2 v707))]) (ob (zr eI r0.1) (ob (o_b h701) (ob (zr eI r0.1) (ob (ztm k p0 p1 r0 r1 r2 (decide ((r0.1.length : Int) > 0)) rc f1 f2 hrc _ h703) (ob (zx (id := 0) (r' := (.ret, zvi p0 p1 r0 r1 r2 v702 rc f1 f2 v707)) (zSd (zmm k p0 p1 r0 r1 r2 v702 rc f1 f2 hrc) k _ _ h705) rfl) ob0))))) (by kernel_rfl))
  ·subst hh
   exact zP (g := (fun r => (zu r, ⟨f2, [[(2, (.cells ((za p0).map .d))), (3, (.cells [(xi p1)])), (6, (.cells ((za p0).map .d))), (8, (.cells [(xi (w64 ((zo 1 (p0.Slips.1.length : Int)) - 1)))])), (9, (.cells [(.fn 77 [] [(.ptr 0 6 0), (.ptr 0 8 0), (.ptr 0 3 0), (.ptr 0 9 0)])]))], f1]⟩, []))) g4_0 (zH (n := 80) (V := [(77, 1, 1, .q (xi (r0.1.length : Int))), (77, 1, 3, .q (xb false)), (77, 5, 1, .q (xi (r0.1.length : Int)))]) (C := [(77, 2000036, (.nor, zIf p0 p1 r0 r1 r2 (decide ((r0.1.length : Int) > 0)) rc f1 f2 v702)), (77, 0, (.nor, zGi p0 p1 r0 r1 r2 v702 rc f1 f2 v707))]) (ob (zr eI r0.1) (ob (o_b h701) (ob (zr eI r0.1) (ob (ztm k p0 p1 r0 r1 r2 (decide ((r0.1.length : Int) > 0)) rc f1 f2 hrc _ h703) (ob (zx (id := 0) (r' := (.nor, zGi p0 p1 r0 r1 r2 v702 rc f1 f2 v707)) (zSd (zmm k p0 p1 r0 r1 r2 v702 rc f1 f2 hrc) k _ _ h705) rfl) ob0))))) (by kernel_rfl))
noncomputable def zEf (p0 : zd) (p1 : Int) (r0 : (SL Int)) (r1 r2 : Int) (cb : Bool) (rc : zt0) (f1 f2 f3 : Fr) (r : zt1) : St := ⟨(zyj r0 r1 r2 r), ⟨[], [[(zc 2 (za p0)), (3, (.cells [(xi p1)])), (zc 6 (za p0)), (8, (.cells [(xi (w64 ((zo 1 (p0.Slips.1.length : Int)) - 1)))])), (9, (.cells [(.fn 77 [] [(.ptr 0 6 0), (.ptr 0 8 0), (.ptr 0 3 0), (.ptr 0 9 0)])]))], f1, f2, f3]⟩, []⟩
theorem zDm (k : Nat) (p0 : zd) (p1 : Int) (r0 : (SL Int)) (r1 r2 : Int) (cb : Bool) (rc : zt0) (f1 f2 f3 : Fr) (hrc : ∀ (f : Fr) (r0 : (SL Int)) (r1 : Int) (r2 : Int) (r : ((SL Int) × Bool)), rc r0 r1 r2 = some r → zJ TE (ev TE) 77 [(.d (dl eI r0.1 r0.2)), (xi r1), (xi r2), (.ptr 0 6 0), (.ptr 0 8 0), (.ptr 0 3 0), (.ptr 0 9 0)] ⟨f, [[(2, (.cells ((za p0).map .d))), (3, (.cells [(xi p1)])), (6, (.cells ((za p0).map .d))), (8, (.cells [(xi (w64 ((zo 1 (p0.Slips.1.length : Int)) - 1)))])), (9, (.cells [(.fn 77 [] [(.ptr 0 6 0), (.ptr 0 8 0), (.ptr 0 3 0), (.ptr 0 9 0)])]))], f1, f2, f3]⟩ [] = some (zu r, ⟨f, [[(2, (.cells ((za p0).map .d))), (3, (.cells [(xi p1)])), (6, (.cells ((za p0).map .d))), (8, (.cells [(xi (w64 ((zo 1 (p0.Slips.1.length : Int)) - 1)))])), (9, (.cells [(.fn 77 [] [(.ptr 0 6 0), (.ptr 0 8 0), (.ptr 0 3 0), (.ptr 0 9 0)])]))], f1, f2, f3]⟩, [])) (r : zt1) (h : z0k k p0 p1 r0 r1 r2 cb rc = some r) : ev TE 77 (cnd TE 77 36) ⟨(zwj r0 r1 r2 cb), ⟨[], [[(zc 2 (za p0)), (3, (.cells [(xi p1)])), (zc 6 (za p0)), (8, (.cells [(xi (w64 ((zo 1 (p0.Slips.1.length : Int)) - 1)))])), (9, (.cells [(.fn 77 [] [(.ptr 0 6 0), (.ptr 0 8 0), (.ptr 0 3 0), (.ptr 0 9 0)])]))], f1, f2, f3]⟩, []⟩ = some (.nor, zEf p0 p1 r0 r1 r2 cb rc f1 f2 f3 r) := by
 unfold z0k at h
 refine zn h (fun h1001 g1 => ?_) (fun h1001 g1 => ?_)
 ·subst h1001
  refine zj g1 (fun v1002 h1003 g2 => ?_)
  exact zA (g := fun r => (Ex.nor, zEf p0 p1 r0 r1 r2 true rc f1 f2 f3 r)) g2 (zqe [(77, 6, 2, .q (xi (r0.1.length : Int))), (77, 6, 4, .q (.d (.pin [(di v1002)])))] [] (ob (zr eI r0.1) (ob (o_ia (e := eI) 1 h1003 rfl) ob0)) (by kernel_rfl))
 ·subst h1001
  exact zA (g := fun r => (Ex.nor, zEf p0 p1 r0 r1 r2 false rc f1 f2 f3 r)) g1 (zqe [] [] ob0 (by kernel_rfl))
noncomputable def zNz (r0 : (SL Int)) (r1 r2 : Int) (v902 : zt1) (s10_8 : Int) : TM := [(0, (.d (dl eI r0.1 r0.2))), (1, (xi r1)), (2, (xi r2)), (3, (.ptr 0 6 0)), (4, (.ptr 0 8 0)), (5, (.ptr 0 3 0)), (6, (.ptr 0 9 0)), (10, (.d (.sl [] .nil))), (11, (xb false)), (21, (xb false)), (14, (xi v902.1)), (36, (xb v902.2)), (15, (xi s10_8))]
noncomputable def zcr (p0 : zd) (p1 : Int) (r0 : (SL Int)) (r1 r2 : Int) (v902 : zt1) (rc : zt0) (f1 f2 f3 : Fr) (s10_8 : Int) : St := ⟨(zNz r0 r1 r2 v902 s10_8), ⟨[], [[(zc 2 (za p0)), (3, (.cells [(xi p1)])), (zc 6 (za p0)), (8, (.cells [(xi (w64 ((zo 1 (p0.Slips.1.length : Int)) - 1)))])), (9, (.cells [(.fn 77 [] [(.ptr 0 6 0), (.ptr 0 8 0), (.ptr 0 3 0), (.ptr 0 9 0)])]))], f1, f2, f3]⟩, []⟩
noncomputable def zYA (r0 : (SL Int)) (r1 r2 : Int) (r : zt19) (v902 : zt1) : TM := [(0, (.d (dl eI r0.1 r0.2))), (1, (xi r1)), (2, (xi r2)), (3, (.ptr 0 6 0)), (4, (.ptr 0 8 0)), (5, (.ptr 0 3 0)), (6, (.ptr 0 9 0)), (10, (.d (dl eI r.1.1 r.1.2))), (11, (xb true)), (21, (xb false)), (14, (xi v902.1)), (36, (xb v902.2)), (15, (xi r.2.1)), (50, (xb true)), (16, (.d (dl eI r.1.1 r.1.2))), (17, (xb r.2.2)), (72, (xb true))]
noncomputable def zVh (p0 : zd) (p1 : Int) (r0 : (SL Int)) (r1 r2 : Int) (v902 : zt1) (rc : zt0) (f1 f2 f3 : Fr) (r : zt19) : St := ⟨(zYA r0 r1 r2 r v902), ⟨[], [[(zc 2 (za p0)), (3, (.cells [(xi p1)])), (zc 6 (za p0)), (8, (.cells [(xi (w64 ((zo 1 (p0.Slips.1.length : Int)) - 1)))])), (9, (.cells [(.fn 77 [] [(.ptr 0 6 0), (.ptr 0 8 0), (.ptr 0 3 0), (.ptr 0 9 0)])]))], f1, f2, f3]⟩, []⟩
noncomputable def zCA (r0 : (SL Int)) (r1 r2 : Int) (v902 : zt1) (r : Int) : TM := [(0, (.d (dl eI r0.1 r0.2))), (1, (xi r1)), (2, (xi r2)), (3, (.ptr 0 6 0)), (4, (.ptr 0 8 0)), (5, (.ptr 0 3 0)), (6, (.ptr 0 9 0)), (10, (.d (.sl [] .nil))), (11, (xb false)), (21, (xb false)), (14, (xi v902.1)), (36, (xb v902.2)), (15, (xi r)), (50, (xb false))]
noncomputable def zDh (p0 : zd) (p1 : Int) (r0 : (SL Int)) (r1 r2 : Int) (v902 : zt1) (rc : zt0) (f1 f2 f3 : Fr) (r : Int) : St := ⟨(zCA r0 r1 r2 v902 r), ⟨[], [[(zc 2 (za p0)), (3, (.cells [(xi p1)])), (zc 6 (za p0)), (8, (.cells [(xi (w64 ((zo 1 (p0.Slips.1.length : Int)) - 1)))])), (9, (.cells [(.fn 77 [] [(.ptr 0 6 0), (.ptr 0 8 0), (.ptr 0 3 0), (.ptr 0 9 0)])]))], f1, f2, f3]⟩, []⟩
noncomputable def zBq (p0 : zd) (p1 : Int) (r0 : (SL Int)) (r1 r2 : Int) (v902 : zt1) (rc : zt0) (f1 f2 f3 : Fr) : (((SL Int) × Int × Bool) ⊕ Int) → Ex × St := Sum.elim (fun r => (.ret, zVh p0 p1 r0 r1 r2 v902 rc f1 f2 f3 r)) (fun r => ((.exit 0), zDh p0 p1 r0 r1 r2 v902 rc f1 f2 f3 r))
end Go.AM

