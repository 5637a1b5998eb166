/- The statement NamesakeEasier holds for every input that its row lets in. Conditions: none. -/
import Derived.Test.YtbigoihkijjeiaaDoorC
set_option linter.all false
set_option linter.unusedVariables false
set_option maxRecDepth 100000
namespace Go.AM
open Go Go.Proofs
def zsp (n : Nat) : Nat × X := (n, .ptr 0 n 0)
def zc (n : Nat) (l : List D) : Nat × O := (n, .cells (l.map .d))
section
variable {E : Env} {fid : Nat} {c : Code}
theorem zqn {S R : Type} {S0 : S → St} {R0 : R → Ex × St} {s : S} {x : S ⊕ R} (s' : S) (rs : List Nat) (V : Ovs) (C : Cuts) (h : some (Sum.inl s') = some x) {P : List Prop} (hP : All P) (hr : z2i E V C rs 80 fid c (S0 s) = some (.inl (S0 s'), P)) : zN E fid c S0 R0 s x := znu h hP hr
theorem zqo {S R : Type} {S0 : S → St} {R0 : R → Ex × St} {s : S} {r : R} {x : S ⊕ R} (V : Ovs) (C : Cuts) (h : some (Sum.inr r) = some x) {P : List Prop} (hP : All P) (hr : z2i E V C [] 80 fid c (S0 s) = some (.inr (R0 r), P)) : zN E fid c S0 R0 s x := zJu h hP hr
theorem zge {A0 R : Type} {S0 : A0 → St} {R0 : R → Ex × St} {W : A0 → Option ((A0) ⊕ R)} (h : ∀ b0 x, W b0 = some x → zN E fid c S0 R0 b0 x) : ∀ (m : Nat) (s : A0) (r : R), iter (fun s => W s) m s = some r → ev E fid c (S0 s) = some (R0 r) := zZi fun s x e => h s x e
theorem zkc {A0 A1 R : Type} {S0 : A0 × A1 → St} {R0 : R → Ex × St} {W : A0 → A1 → Option ((A0 × A1) ⊕ R)} (h : ∀ b0 b1 x, W b0 b1 = some x → zN E fid c S0 R0 (b0, b1) x) : ∀ (m : Nat) (s : A0 × A1) (r : R), iter (fun s => W s.1 s.2) m s = some r → ev E fid c (S0 s) = some (R0 r) := zZi fun s x e => h s.1 s.2 x e
theorem zin {A0 A1 A2 R : Type} {S0 : A0 × A1 × A2 → St} {R0 : R → Ex × St} {W : A0 → A1 → A2 → Option ((A0 × A1 × A2) ⊕ R)} (h : ∀ b0 b1 b2 x, W b0 b1 b2 = some x → zN E fid c S0 R0 (b0, b1, b2) x) : ∀ (m : Nat) (s : A0 × A1 × A2) (r : R), iter (fun s => W s.1 s.2.1 s.2.2) m s = some r → ev E fid c (S0 s) = some (R0 r) := zZi fun s x e => h s.1 s.2.1 s.2.2 x e
theorem zRu {A0 A1 A2 A3 R : Type} {S0 : A0 × A1 × A2 × A3 → St} {R0 : R → Ex × St} {W : A0 → A1 → A2 → A3 → Option ((A0 × A1 × A2 × A3) ⊕ R)} (h : ∀ b0 b1 b2 b3 x, W b0 b1 b2 b3 = some x → zN E fid c S0 R0 (b0, b1, b2, b3) x) : ∀ (m : Nat) (s : A0 × A1 × A2 × A3) (r : R), iter (fun s => W s.1 s.2.1 s.2.2.1 s.2.2.2) m s = some r → ev E fid c (S0 s) = some (R0 r) := zZi fun s x e => h s.1 s.2.1 s.2.2.1 s.2.2.2 x e
theorem zzx {A0 A1 A2 A3 A4 R : Type} {S0 : A0 × A1 × A2 × A3 × A4 → St} {R0 : R → Ex × St} {W : A0 → A1 → A2 → A3 → A4 → Option ((A0 × A1 × A2 × A3 × A4) ⊕ R)} (h : ∀ b0 b1 b2 b3 b4 x, W b0 b1 b2 b3 b4 = some x → zN E fid c S0 R0 (b0, b1, b2, b3, b4) x) : ∀ (m : Nat) (s : A0 × A1 × A2 × A3 × A4) (r : R), iter (fun s => W s.1 s.2.1 s.2.2.1 s.2.2.2.1 s.2.2.2.2) m s = some r → ev E fid c (S0 s) = some (R0 r) := zZi fun s x e => h s.1 s.2.1 s.2.2.1 s.2.2.2.1 s.2.2.2.2 x e
theorem zAx {A0 A1 A2 A3 A4 A5 R : Type} {S0 : A0 × A1 × A2 × A3 × A4 × A5 → St} {R0 : R → Ex × St} {W : A0 → A1 → A2 → A3 → A4 → A5 → Option ((A0 × A1 × A2 × A3 × A4 × A5) ⊕ R)} (h : ∀ b0 b1 b2 b3 b4 b5 x, W b0 b1 b2 b3 b4 b5 = some x → zN E fid c S0 R0 (b0, b1, b2, b3, b4, b5) x) : ∀ (m : Nat) (s : A0 × A1 × A2 × A3 × A4 × A5) (r : R), iter (fun s => W s.1 s.2.1 s.2.2.1 s.2.2.2.1 s.2.2.2.2.1 s.2.2.2.2.2) m s = some r → ev E fid c (S0 s) = some (R0 r) := zZi fun s x e => h s.1 s.2.1 s.2.2.1 s.2.2.2.1 s.2.2.2.2.1 s.2.2.2.2.2 x e
theorem zqe {st : St} {r : Ex × St} {P : List Prop} (V : Ovs) (C : Cuts) (hP : All P) (h : evV E V C 80 fid c st = some (r, P)) : ev E fid c st = some r := zxu hP h
theorem zqc {f : Nat} {ds : List D} {d : D} {P : List Prop} (V : Ovs) (C : Cuts) (hP : All P) (h : zFp E V C 80 f ds = some (d, P)) : zC E (ev E) f ds = some d := zbt hP h
theorem zqr {f : Nat} {ds : List D} {d : D} {P : List Prop} (V : Ovs) (C : Cuts) (res : List D) (hP : All P) (h : zko E V C 80 f ds res = some (d, P)) : zC E (ev E) f ds = some d := z2s hP h
end
section
variable {α : Type}
theorem zqa (T : TypeId) (bt lv s : Nat) (n : Int) (b : Bool) (z : Nat) (e : α → List D) (l : List α) (w : Bool) {y : α} (ha : arT TE.P T = none) (hs : slT TE.P T = some (z, bt)) (h : idx l n = some y) : iaX TE.P (fun _ _ => some (rowO b z e l w)) T (.row lv s l.length) (xi n) = some (.rp lv s l.length n.toNat 0) := zbv ha hs h
theorem zql (T : TypeId) (q : Nat × Bool) (lv s o : Nat) (n : Int) (x : X) (b : Bool) (z : Nat) (e : α → List D) (l : List α) (w : Bool) {y : α} (ht : tyT TE.P T = some q) (h : idx l n = some y) (hx : (zGh q.2 q.1 ((e y).drop o)).map X.d = some x) : ldX TE.P (fun _ _ => some (rowO b z e l w)) T (.rp lv s l.length n.toNat o) = some x := zCv ht h hx
theorem zqf (T : TypeId) (q : Nat × Nat × Bool) (lv s o f : Nat) (n : Int) (b : Bool) (z : Nat) (e : α → List D) (l : List α) (w : Bool) {y : α} (hf : fdT TE.P T f = some q) (hq : q.2.1 ≠ 0) (h : idx l n = some y) : faX TE.P (fun _ _ => some (rowO b z e l w)) T (.rp lv s l.length n.toNat o) f = some (.rp lv s l.length n.toNat (o + q.1)) := zdw hf hq h
end
theorem zy (k : Nat) (p0 p1 p2 : Int) (r : Bool) (h : zT k p0 p1 p2 = some r) : zC TE (ev TE) 51 [(di p0), (di p1), (di p2)] = some (zmh r) := by
 unfold zT at h
 refine zo h (fun h1 g1 => ?_) (fun h1 g1 => ?_)
 ·exact zt (g := zmh) g1 (zqc [(51, 1, 3, .q (xb true))] [] (ob (o_b h1) ob0) (by kernel_rfl))
 ·exact zt (g := zmh) g1 (zqc [(51, 1, 3, .q (xb false))] [] (ob (o_b h1) ob0) (by kernel_rfl))
noncomputable def zk1 (p0 : (SL (Nat → Int))) (p1 : zt4) (s1_4 : Int) : TM := [(0, (.d (dl (aI 2) p0.1 p0.2))), (1, (.d (.agg (aI 2 p1)))), (zsp 3), (4, (xi 0)), (7, (xi (p0.1.length : Int))), (8, (xi s1_4))]
noncomputable def zIi (p0 : (SL (Nat → Int))) (p1 : zt4) (s1_4 : Int) : St := ⟨(zk1 p0 p1 s1_4), ⟨[(zc 3 (aI 2 p1))], []⟩, []⟩
noncomputable def zk2 (p0 : (SL (Nat → Int))) (p1 : zt4) (r : Int) : TM := [(0, (.d (dl (aI 2) p0.1 p0.2))), (1, (.d (.agg (aI 2 p1)))), (zsp 3), (4, (xi r)), (7, (xi (p0.1.length : Int))), (8, (xi r)), (9, (xb true)), (5, (xi r)), (16, (xb true))]
noncomputable def zld (p0 : (SL (Nat → Int))) (p1 : zt4) (r : Int) : St := ⟨(zk2 p0 p1 r), ⟨[(zc 3 (aI 2 p1))], []⟩, []⟩
noncomputable def zk3 (p0 : (SL (Nat → Int))) (p1 : zt4) (r : Int) : TM := [(0, (.d (dl (aI 2) p0.1 p0.2))), (1, (.d (.agg (aI 2 p1)))), (zsp 3), (4, (xi 0)), (7, (xi (p0.1.length : Int))), (8, (xi r)), (9, (xb false))]
noncomputable def zbd (p0 : (SL (Nat → Int))) (p1 : zt4) (r : Int) : St := ⟨(zk3 p0 p1 r), ⟨[(zc 3 (aI 2 p1))], []⟩, []⟩
noncomputable def zGi (p0 : (SL (Nat → Int))) (p1 : zt4) : (Int ⊕ Int) → Ex × St := Sum.elim (fun r => (.ret, zld p0 p1 r)) (fun r => ((.exit 0), zbd p0 p1 r))
theorem zdf (k : Nat) (p0 : (SL (Nat → Int))) (p1 : zt4) (s1_4 : Int) (x : Int ⊕ (Int ⊕ Int)) (h : zXb k p0 p1 s1_4 = some x) : zN TE 84 (blk TE 84 0) (fun s : Int => zIi p0 p1 s) (zGi p0 p1) s1_4 x := by
 unfold zXb at h
 refine zo h (fun h201 g1 => ?_) (fun h201 g1 => ?_)
 ·refine zl g1 (fun v202 h203 g2 => ?_)
  refine zo g2 (fun h204 g3 => ?_) (fun h204 g3 => ?_)
  ·exact zqo [(84, 2, 0, .q (xb true)), (84, 4, 3, .q (.d (.pin (aI 2 v202)))), (84, 4, 5, .q (xb true))] [] g3 (ob (o_b h201) (ob (o_ia (e := (aI 2)) 2 h203 rfl) (ob (o_b h204) ob0))) (by kernel_rfl)
  ·exact zqn (w64 (s1_4 + 1)) [] [(84, 2, 0, .q (xb true)), (84, 4, 3, .q (.d (.pin (aI 2 v202)))), (84, 4, 5, .q (xb false))] [] g3 (ob (o_b h201) (ob (o_ia (e := (aI 2)) 2 h203 rfl) (ob (o_b h204) ob0))) (by kernel_rfl)
 ·exact zqo [(84, 2, 0, .q (xb false))] [] g1 (ob (o_b h201) ob0) (by kernel_rfl)
theorem zmj (k : Nat) (p0 : (SL (Nat → Int))) (p1 : zt4) (r : Int) (h : zid k p0 p1 = some r) : zC TE (ev TE) 84 [(dl (aI 2) p0.1 p0.2), (.agg (aI 2 p1))] = some (zae r) := by
 unfold zid at h
 refine zl h (fun v1 h2 g1 => ?_)
 refine zxd g1 (fun v4 hh g2_0 => ?_) (fun v4 hh g2_0 => ?_)
 ·subst hh
  exact zt (g := zae) g2_0 (zqc [(84, 1, 1, .q (xi (p0.1.length : Int)))] [(84, 0, (.ret, zld p0 p1 v4))] (ob (zq (aI 2) p0.1) (ob (zz (id := 0) (r' := (.ret, zld p0 p1 v4)) (zge (zdf k p0 p1) k _ _ h2) rfl) ob0)) (by kernel_rfl))
 ·subst hh
  exact zt (g := zae) g2_0 (zqc [(84, 1, 1, .q (xi (p0.1.length : Int)))] [(84, 0, (.nor, zbd p0 p1 v4))] (ob (zq (aI 2) p0.1) (ob (zz (id := 0) (r' := (.nor, zbd p0 p1 v4)) (zge (zdf k p0 p1) k _ _ h2) rfl) ob0)) (by kernel_rfl))
theorem zqi (k : Nat) (p0 : (SL (Nat → Int))) (p1 : zt4) (r : Bool) (h : zWb k p0 p1 = some r) : zC TE (ev TE) 55 [(dl (aI 2) p0.1 p0.2), (.agg (aI 2 p1))] = some (zxf r) := by
 unfold zWb at h
 refine zl h (fun v1 h2 g1 => ?_)
 exact zt (g := zxf) g1 (zqc [(55, 1, 2, .c (di v1))] [] (ob (zmj k p0 p1 _ h2) ob0) (by kernel_rfl))
noncomputable def zk4 (p0 : za) (r : Bool) : TM := [(0, (.d (.agg (zd p0)))), (zsp 1), (2, (xi 0)), (3, (xi (p0.Letters.1.length : Int))), (4, (xi (p0.Far.1.length : Int))), (5, (xb r))]
noncomputable def zic (p0 : za) (r : Bool) : St := ⟨(zk4 p0 r), ⟨[(zc 1 (zd p0))], []⟩, []⟩
noncomputable def zk5 (p0 : za) : TM := [(0, (.d (.agg (zd p0)))), (zsp 1), (2, (xi 0)), (3, (xi (p0.Letters.1.length : Int))), (4, (xi (p0.Far.1.length : Int)))]
theorem zsi (k : Nat) (p0 : za) (r : Bool) (h : zoe k p0 = some r) : ev TE 16 (rgn TE 16 2) ⟨(zk5 p0), ⟨[(zc 1 (zd p0))], []⟩, []⟩ = some (.nor, zic p0 r) := by
 unfold zoe at h
 refine zl h (fun v201 h202 g1 => ?_)
 refine zo g1 (fun h203 g2 => ?_) (fun h203 g2 => ?_)
 ·refine zl g2 (fun v204 h205 g3 => ?_)
  refine zo g3 (fun h206 g4 => ?_) (fun h206 g4 => ?_)
  ·refine zo g4 (fun h207 g5 => ?_) (fun h207 g5 => ?_)
   ·refine zl g5 (fun v208 h209 g6 => ?_)
    exact zu (g := fun r => (Ex.nor, zic p0 r)) g6 (zqe [(16, 2, 1, .c (db v201)), (16, 2, 2, .q (xb true)), (16, 2, 4, .c (db v204)), (16, 2, 6, .q (xb true)), (16, 2, 9, .q (xi (p0.Apart.1.length : Int))), (16, 2, 12, .q (xb true)), (16, 2, 15, .c (db v208))] [] (ob (zy k (p0.Letters.1.length : Int) 1 8 _ h202) (ob (o_b h203) (ob (zy k (p0.Far.1.length : Int) 1 6 _ h205) (ob (o_b h206) (ob (zq (aI 2) p0.Apart.1) (ob (o_b h207) (ob (zy k p0.Most 1 8 _ h209) ob0))))))) (by kernel_rfl))
   ·exact zu (g := fun r => (Ex.nor, zic p0 r)) g5 (zqe [(16, 2, 1, .c (db v201)), (16, 2, 2, .q (xb true)), (16, 2, 4, .c (db v204)), (16, 2, 6, .q (xb true)), (16, 2, 9, .q (xi (p0.Apart.1.length : Int))), (16, 2, 12, .q (xb false))] [] (ob (zy k (p0.Letters.1.length : Int) 1 8 _ h202) (ob (o_b h203) (ob (zy k (p0.Far.1.length : Int) 1 6 _ h205) (ob (o_b h206) (ob (zq (aI 2) p0.Apart.1) (ob (o_b h207) ob0)))))) (by kernel_rfl))
  ·exact zu (g := fun r => (Ex.nor, zic p0 r)) g4 (zqe [(16, 2, 1, .c (db v201)), (16, 2, 2, .q (xb true)), (16, 2, 4, .c (db v204)), (16, 2, 6, .q (xb false))] [] (ob (zy k (p0.Letters.1.length : Int) 1 8 _ h202) (ob (o_b h203) (ob (zy k (p0.Far.1.length : Int) 1 6 _ h205) (ob (o_b h206) ob0)))) (by kernel_rfl))
 ·exact zu (g := fun r => (Ex.nor, zic p0 r)) g2 (zqe [(16, 2, 1, .c (db v201)), (16, 2, 2, .q (xb false))] [] (ob (zy k (p0.Letters.1.length : Int) 1 8 _ h202) (ob (o_b h203) ob0)) (by kernel_rfl))
noncomputable def zk6 (p0 : za) (r : Bool) (s2_8 s2_11 : Int) : TM := zk4 p0 r ++ [(6, (xi s2_8)), (39, (.d (dl zb p0.Letters.1 p0.Letters.2))), (40, (xi (p0.Letters.1.length : Int))), (41, (xi s2_11)), (42, (xb true)), (zsp 8)]
noncomputable def zLb (p0 : za) (s2_7 : Bool) (s2_8 s2_11 : Int) (v402 : zi) (r : Bool) : St := ⟨(zk6 p0 r s2_8 s2_11), ⟨[(zc 1 (zd p0)), (zc 8 (zb v402))], []⟩, []⟩
noncomputable def zk7 (p0 : za) (s2_7 : Bool) (s2_8 s2_11 : Int) : TM := zk5 p0 ++ [(5, (xb s2_7)), (6, (xi s2_8)), (39, (.d (dl zb p0.Letters.1 p0.Letters.2))), (40, (xi (p0.Letters.1.length : Int))), (41, (xi s2_11)), (42, (xb true)), (zsp 8)]
theorem zim (k : Nat) (p0 : za) (s2_7 : Bool) (s2_8 s2_11 : Int) (v402 : zi) (r : Bool) (h : zzf k p0 s2_7 s2_8 s2_11 v402 = some r) : ev TE 16 (rgn TE 16 7) ⟨(zk7 p0 s2_7 s2_8 s2_11), ⟨[(zc 1 (zd p0)), (zc 8 (zb v402))], []⟩, []⟩ = some (.nor, zLb p0 s2_7 s2_8 s2_11 v402 r) := by
 unfold zzf at h
 refine zo h (fun h501 g1 => ?_) (fun h501 g1 => ?_)
 ·refine zl g1 (fun v502 h503 g2 => ?_)
  refine zo g2 (fun h504 g3 => ?_) (fun h504 g3 => ?_)
  ·refine zl g3 (fun v505 h506 g4 => ?_)
   refine zo g4 (fun h507 g5 => ?_) (fun h507 g5 => ?_)
   ·refine zl g5 (fun v508 h509 g6 => ?_)
    refine zo g6 (fun h510 g7 => ?_) (fun h510 g7 => ?_)
    ·refine zo g7 (fun h511 g8 => ?_) (fun h511 g8 => ?_)
     ·refine zl g8 (fun v512 h513 g9 => ?_)
      exact zu (g := fun r => (Ex.nor, zLb p0 s2_7 s2_8 s2_11 v402 r)) g9 (zqe [(16, 7, 1, .q (xb true)), (16, 7, 5, .c (db v502)), (16, 7, 7, .q (xb true)), (16, 7, 12, .c (db v505)), (16, 7, 14, .q (xb true)), (16, 7, 21, .c (db v508)), (16, 7, 23, .q (xb true)), (16, 7, 29, .q (xb true)), (16, 7, 32, .c (db v512))] [] (ob (o_b h501) (ob (zy k v402.Day s2_8 20000 _ h503) (ob (o_b h504) (ob (zy k v402.Place 0 (w64 ((p0.Far.1.length : Int) - 1)) _ h506) (ob (o_b h507) (ob (zy k v402.Born.Low 0 v402.Born.High _ h509) (ob (o_b h510) (ob (o_b h511) (ob (zy k v402.Account 0 1000 _ h513) ob0))))))))) (by kernel_rfl))
     ·exact zu (g := fun r => (Ex.nor, zLb p0 s2_7 s2_8 s2_11 v402 r)) g8 (zqe [(16, 7, 1, .q (xb true)), (16, 7, 5, .c (db v502)), (16, 7, 7, .q (xb true)), (16, 7, 12, .c (db v505)), (16, 7, 14, .q (xb true)), (16, 7, 21, .c (db v508)), (16, 7, 23, .q (xb true)), (16, 7, 29, .q (xb false))] [] (ob (o_b h501) (ob (zy k v402.Day s2_8 20000 _ h503) (ob (o_b h504) (ob (zy k v402.Place 0 (w64 ((p0.Far.1.length : Int) - 1)) _ h506) (ob (o_b h507) (ob (zy k v402.Born.Low 0 v402.Born.High _ h509) (ob (o_b h510) (ob (o_b h511) ob0)))))))) (by kernel_rfl))
    ·exact zu (g := fun r => (Ex.nor, zLb p0 s2_7 s2_8 s2_11 v402 r)) g7 (zqe [(16, 7, 1, .q (xb true)), (16, 7, 5, .c (db v502)), (16, 7, 7, .q (xb true)), (16, 7, 12, .c (db v505)), (16, 7, 14, .q (xb true)), (16, 7, 21, .c (db v508)), (16, 7, 23, .q (xb false))] [] (ob (o_b h501) (ob (zy k v402.Day s2_8 20000 _ h503) (ob (o_b h504) (ob (zy k v402.Place 0 (w64 ((p0.Far.1.length : Int) - 1)) _ h506) (ob (o_b h507) (ob (zy k v402.Born.Low 0 v402.Born.High _ h509) (ob (o_b h510) ob0))))))) (by kernel_rfl))
   ·exact zu (g := fun r => (Ex.nor, zLb p0 s2_7 s2_8 s2_11 v402 r)) g5 (zqe [(16, 7, 1, .q (xb true)), (16, 7, 5, .c (db v502)), (16, 7, 7, .q (xb true)), (16, 7, 12, .c (db v505)), (16, 7, 14, .q (xb false))] [] (ob (o_b h501) (ob (zy k v402.Day s2_8 20000 _ h503) (ob (o_b h504) (ob (zy k v402.Place 0 (w64 ((p0.Far.1.length : Int) - 1)) _ h506) (ob (o_b h507) ob0))))) (by kernel_rfl))
  ·exact zu (g := fun r => (Ex.nor, zLb p0 s2_7 s2_8 s2_11 v402 r)) g3 (zqe [(16, 7, 1, .q (xb true)), (16, 7, 5, .c (db v502)), (16, 7, 7, .q (xb false))] [] (ob (o_b h501) (ob (zy k v402.Day s2_8 20000 _ h503) (ob (o_b h504) ob0))) (by kernel_rfl))
 ·exact zu (g := fun r => (Ex.nor, zLb p0 s2_7 s2_8 s2_11 v402 r)) g1 (zqe [(16, 7, 1, .q (xb false))] [] (ob (o_b h501) ob0) (by kernel_rfl))
noncomputable def zk8 (p0 : za) (s2_7 : Bool) (s2_8 s2_11 : Int) : TM := zk5 p0 ++ [(5, (xb s2_7)), (6, (xi s2_8)), (39, (.d (dl zb p0.Letters.1 p0.Letters.2))), (40, (xi (p0.Letters.1.length : Int))), (41, (xi s2_11))]
noncomputable def zTm (p0 : za) (s2_7 : Bool) (s2_8 s2_11 : Int) : St := ⟨(zk8 p0 s2_7 s2_8 s2_11), ⟨[(zc 1 (zd p0))], []⟩, []⟩
noncomputable def zk9 (p0 : za) (r : zt6) : TM := zk5 p0 ++ [(5, (xb r.1)), (6, (xi r.2.1)), (39, (.d (dl zb p0.Letters.1 p0.Letters.2))), (40, (xi (p0.Letters.1.length : Int))), (41, (xi r.2.2)), (42, (xb false))]
noncomputable def zfd (p0 : za) (r : zt6) : St := ⟨(zk9 p0 r), ⟨[(zc 1 (zd p0))], []⟩, []⟩
noncomputable def zOm (p0 : za) : (Bool × Int × Int) → Ex × St := fun r => ((.exit 0), zfd p0 r)
theorem zoi (k : Nat) (p0 : za) (s2_7 : Bool) (s2_8 s2_11 : Int) (x : (Bool × Int × Int) ⊕ (Bool × Int × Int)) (h : zpd k p0 s2_7 s2_8 s2_11 = some x) : zN TE 16 (blk TE 16 0) (fun s : (Bool × Int × Int) => zTm p0 s.1 s.2.1 s.2.2) (zOm p0) (s2_7, s2_8, s2_11) x := by
 unfold zpd at h
 refine zo h (fun h401 g1 => ?_) (fun h401 g1 => ?_)
 ·refine zl g1 (fun v402 h403 g2 => ?_)
  refine zl g2 (fun v404 h405 g3 => ?_)
  exact zqn (v404, v402.Day, (w64 (s2_11 + 1))) [] [(16, 5, 0, .q (xb true)), (16, 6, 0, .q (.d (.pin (zb v402))))] [(16, 1000007, (.nor, zLb p0 s2_7 s2_8 s2_11 v402 v404))] g3 (ob (o_b h401) (ob (o_ia (e := zb) 6 h403 rfl) (ob (zim k p0 s2_7 s2_8 s2_11 v402 _ h405) ob0))) (by kernel_rfl)
 ·exact zqo [(16, 5, 0, .q (xb false))] [] g1 (ob (o_b h401) ob0) (by kernel_rfl)
noncomputable def zXu (p0 : za) (r : Bool) (v3 : zt6) (s5_15 : Int) (v1002 : (SL Int)) : TM := zk4 p0 r ++ [(6, (xi v3.2.1)), (39, (.d (dl zb p0.Letters.1 p0.Letters.2))), (40, (xi (p0.Letters.1.length : Int))), (41, (xi v3.2.2)), (42, (xb false)), (83, (.d (dl (eL eI) p0.Far.1 p0.Far.2))), (84, (xi (p0.Far.1.length : Int))), (85, (xi s5_15)), (86, (xb true)), (9, (xi s5_15)), (10, (.d (dl eI v1002.1 v1002.2)))]
noncomputable def zpe (p0 : za) (v3 : zt6) (s5_7 : Bool) (s5_15 : Int) (v1002 : (SL Int)) (r : Bool) : St := ⟨(zXu p0 r v3 s5_15 v1002), ⟨[(zc 1 (zd p0))], []⟩, []⟩
noncomputable def zDw (p0 : za) (s5_7 : Bool) (v3 : zt6) (s5_15 : Int) (v1002 : (SL Int)) : TM := zk5 p0 ++ [(5, (xb s5_7)), (6, (xi v3.2.1)), (39, (.d (dl zb p0.Letters.1 p0.Letters.2))), (40, (xi (p0.Letters.1.length : Int))), (41, (xi v3.2.2)), (42, (xb false)), (83, (.d (dl (eL eI) p0.Far.1 p0.Far.2))), (84, (xi (p0.Far.1.length : Int))), (85, (xi s5_15)), (86, (xb true)), (9, (xi s5_15)), (10, (.d (dl eI v1002.1 v1002.2)))]
theorem zLl (k : Nat) (p0 : za) (v3 : zt6) (s5_7 : Bool) (s5_15 : Int) (v1002 : (SL Int)) (r : Bool) (h : zjf k p0 v3 s5_7 s5_15 v1002 = some r) : ev TE 16 (rgn TE 16 13) ⟨(zDw p0 s5_7 v3 s5_15 v1002), ⟨[(zc 1 (zd p0))], []⟩, []⟩ = some (.nor, zpe p0 v3 s5_7 s5_15 v1002 r) := by
 unfold zjf at h
 refine zo h (fun h1101 g1 => ?_) (fun h1101 g1 => ?_)
 ·exact zu (g := fun r => (Ex.nor, zpe p0 v3 s5_7 s5_15 v1002 r)) g1 (zqe [(16, 13, 1, .q (xb true)), (16, 13, 3, .q (xi (v1002.1.length : Int)))] [] (ob (o_b h1101) (ob (zq eI v1002.1) ob0)) (by kernel_rfl))
 ·exact zu (g := fun r => (Ex.nor, zpe p0 v3 s5_7 s5_15 v1002 r)) g1 (zqe [(16, 13, 1, .q (xb false))] [] (ob (o_b h1101) ob0) (by kernel_rfl))
noncomputable def zEw (p0 : za) (r : Bool) (v3 : zt6) (s5_15 : Int) (v1002 : (SL Int)) (s11_21 v1302 : Int) : TM := zXu p0 r v3 s5_15 v1002 ++ [(97, (.d (dl eI v1002.1 v1002.2))), (98, (xi (v1002.1.length : Int))), (99, (xi s11_21)), (100, (xb true)), (11, (xi s11_21)), (12, (xi v1302))]
noncomputable def zEc (p0 : za) (v3 : zt6) (s5_15 : Int) (v1002 : (SL Int)) (s11_7 : Bool) (s11_21 v1302 : Int) (r : Bool) : St := ⟨(zEw p0 r v3 s5_15 v1002 s11_21 v1302), ⟨[(zc 1 (zd p0))], []⟩, []⟩
noncomputable def zdx (p0 : za) (s11_7 : Bool) (v3 : zt6) (s5_15 : Int) (v1002 : (SL Int)) (s11_21 v1302 : Int) : TM := zk5 p0 ++ [(5, (xb s11_7)), (6, (xi v3.2.1)), (39, (.d (dl zb p0.Letters.1 p0.Letters.2))), (40, (xi (p0.Letters.1.length : Int))), (41, (xi v3.2.2)), (42, (xb false)), (83, (.d (dl (eL eI) p0.Far.1 p0.Far.2))), (84, (xi (p0.Far.1.length : Int))), (85, (xi s5_15)), (86, (xb true)), (9, (xi s5_15)), (10, (.d (dl eI v1002.1 v1002.2))), (97, (.d (dl eI v1002.1 v1002.2))), (98, (xi (v1002.1.length : Int))), (99, (xi s11_21)), (100, (xb true)), (11, (xi s11_21)), (12, (xi v1302))]
theorem zvl (k : Nat) (p0 : za) (v3 : zt6) (s5_15 : Int) (v1002 : (SL Int)) (s11_7 : Bool) (s11_21 v1302 : Int) (r : Bool) (h : zbf k p0 v3 s5_15 v1002 s11_7 s11_21 v1302 = some r) : ev TE 16 (rgn TE 16 17) ⟨(zdx p0 s11_7 v3 s5_15 v1002 s11_21 v1302), ⟨[(zc 1 (zd p0))], []⟩, []⟩ = some (.nor, zEc p0 v3 s5_15 v1002 s11_7 s11_21 v1302 r) := by
 unfold zbf at h
 refine zo h (fun h1401 g1 => ?_) (fun h1401 g1 => ?_)
 ·refine zl g1 (fun v1402 h1403 g2 => ?_)
  refine zo g2 (fun h1404 g3 => ?_) (fun h1404 g3 => ?_)
  ·refine zo g3 (fun h1405 g4 => ?_) (fun h1405 g4 => ?_)
   ·exact zu (g := fun r => (Ex.nor, zEc p0 v3 s5_15 v1002 s11_7 s11_21 v1302 r)) g4 (zqe [(16, 17, 1, .q (xb true)), (16, 17, 3, .c (db v1402)), (16, 17, 5, .q (xb true)), (16, 17, 9, .q (xb true))] [] (ob (o_b h1401) (ob (zy k v1302 0 400 _ h1403) (ob (o_b h1404) (ob (o_b h1405) ob0)))) (by kernel_rfl))
   ·exact zu (g := fun r => (Ex.nor, zEc p0 v3 s5_15 v1002 s11_7 s11_21 v1302 r)) g4 (zqe [(16, 17, 1, .q (xb true)), (16, 17, 3, .c (db v1402)), (16, 17, 5, .q (xb true)), (16, 17, 9, .q (xb false))] [] (ob (o_b h1401) (ob (zy k v1302 0 400 _ h1403) (ob (o_b h1404) (ob (o_b h1405) ob0)))) (by kernel_rfl))
  ·exact zu (g := fun r => (Ex.nor, zEc p0 v3 s5_15 v1002 s11_7 s11_21 v1302 r)) g3 (zqe [(16, 17, 1, .q (xb true)), (16, 17, 3, .c (db v1402)), (16, 17, 5, .q (xb false))] [] (ob (o_b h1401) (ob (zy k v1302 0 400 _ h1403) (ob (o_b h1404) ob0))) (by kernel_rfl))
 ·exact zu (g := fun r => (Ex.nor, zEc p0 v3 s5_15 v1002 s11_7 s11_21 v1302 r)) g1 (zqe [(16, 17, 1, .q (xb false))] [] (ob (o_b h1401) ob0) (by kernel_rfl))
noncomputable def zox (p0 : za) (s11_7 : Bool) (v3 : zt6) (s5_15 : Int) (v1002 : (SL Int)) (s11_21 : Int) : TM := zk5 p0 ++ [(5, (xb s11_7)), (6, (xi v3.2.1)), (39, (.d (dl zb p0.Letters.1 p0.Letters.2))), (40, (xi (p0.Letters.1.length : Int))), (41, (xi v3.2.2)), (42, (xb false)), (83, (.d (dl (eL eI) p0.Far.1 p0.Far.2))), (84, (xi (p0.Far.1.length : Int))), (85, (xi s5_15)), (86, (xb true)), (9, (xi s5_15)), (10, (.d (dl eI v1002.1 v1002.2))), (97, (.d (dl eI v1002.1 v1002.2))), (98, (xi (v1002.1.length : Int))), (99, (xi s11_21))]
noncomputable def z3l (p0 : za) (v3 : zt6) (s5_15 : Int) (v1002 : (SL Int)) (s11_7 : Bool) (s11_21 : Int) : St := ⟨(zox p0 s11_7 v3 s5_15 v1002 s11_21), ⟨[(zc 1 (zd p0))], []⟩, []⟩
noncomputable def zBw (p0 : za) (r : zt2) (v3 : zt6) (s5_15 : Int) (v1002 : (SL Int)) : TM := zk5 p0 ++ [(5, (xb r.1)), (6, (xi v3.2.1)), (39, (.d (dl zb p0.Letters.1 p0.Letters.2))), (40, (xi (p0.Letters.1.length : Int))), (41, (xi v3.2.2)), (42, (xb false)), (83, (.d (dl (eL eI) p0.Far.1 p0.Far.2))), (84, (xi (p0.Far.1.length : Int))), (85, (xi s5_15)), (86, (xb true)), (9, (xi s5_15)), (10, (.d (dl eI v1002.1 v1002.2))), (97, (.d (dl eI v1002.1 v1002.2))), (98, (xi (v1002.1.length : Int))), (99, (xi r.2)), (100, (xb false))]
noncomputable def zPf (p0 : za) (v3 : zt6) (s5_15 : Int) (v1002 : (SL Int)) (r : zt2) : St := ⟨(zBw p0 r v3 s5_15 v1002), ⟨[(zc 1 (zd p0))], []⟩, []⟩
noncomputable def zdm (p0 : za) (v3 : zt6) (s5_15 : Int) (v1002 : (SL Int)) : (Bool × Int) → Ex × St := fun r => ((.exit 4), zPf p0 v3 s5_15 v1002 r)
theorem zCl (k : Nat) (p0 : za) (v3 : zt6) (s5_15 : Int) (v1002 : (SL Int)) (s11_7 : Bool) (s11_21 : Int) (x : (Bool × Int) ⊕ (Bool × Int)) (h : z0d k p0 v3 s5_15 v1002 s11_7 s11_21 = some x) : zN TE 16 (blk TE 16 4) (fun s : (Bool × Int) => z3l p0 v3 s5_15 v1002 s.1 s.2) (zdm p0 v3 s5_15 v1002) (s11_7, s11_21) x := by
 unfold z0d at h
 refine zo h (fun h1301 g1 => ?_) (fun h1301 g1 => ?_)
 ·refine zl g1 (fun v1302 h1303 g2 => ?_)
  refine zl g2 (fun v1304 h1305 g3 => ?_)
  exact zqn (v1304, (w64 (s11_21 + 1))) [] [(16, 15, 0, .q (xb true)), (16, 16, 1, .q (.d (.pin [(di v1302)])))] [(16, 1000017, (.nor, zEc p0 v3 s5_15 v1002 s11_7 s11_21 v1302 v1304))] g3 (ob (o_b h1301) (ob (o_ia (e := eI) 1 h1303 rfl) (ob (zvl k p0 v3 s5_15 v1002 s11_7 s11_21 v1302 _ h1305) ob0))) (by kernel_rfl)
 ·exact zqo [(16, 15, 0, .q (xb false))] [] g1 (ob (o_b h1301) ob0) (by kernel_rfl)
noncomputable def z4w (p0 : za) (s5_7 : Bool) (v3 : zt6) (s5_15 : Int) : TM := zk5 p0 ++ [(5, (xb s5_7)), (6, (xi v3.2.1)), (39, (.d (dl zb p0.Letters.1 p0.Letters.2))), (40, (xi (p0.Letters.1.length : Int))), (41, (xi v3.2.2)), (42, (xb false)), (83, (.d (dl (eL eI) p0.Far.1 p0.Far.2))), (84, (xi (p0.Far.1.length : Int))), (85, (xi s5_15))]
noncomputable def zRm (p0 : za) (v3 : zt6) (s5_7 : Bool) (s5_15 : Int) : St := ⟨(z4w p0 s5_7 v3 s5_15), ⟨[(zc 1 (zd p0))], []⟩, []⟩
noncomputable def zUw (p0 : za) (r : zt2) (v3 : zt6) : TM := zk5 p0 ++ [(5, (xb r.1)), (6, (xi v3.2.1)), (39, (.d (dl zb p0.Letters.1 p0.Letters.2))), (40, (xi (p0.Letters.1.length : Int))), (41, (xi v3.2.2)), (42, (xb false)), (83, (.d (dl (eL eI) p0.Far.1 p0.Far.2))), (84, (xi (p0.Far.1.length : Int))), (85, (xi r.2)), (86, (xb false))]
noncomputable def zcd (p0 : za) (v3 : zt6) (r : zt2) : St := ⟨(zUw p0 r v3), ⟨[(zc 1 (zd p0))], []⟩, []⟩
noncomputable def zLm (p0 : za) (v3 : zt6) : (Bool × Int) → Ex × St := fun r => ((.exit 2), zcd p0 v3 r)
theorem zri (k : Nat) (p0 : za) (v3 : zt6) (s5_7 : Bool) (s5_15 : Int) (x : (Bool × Int) ⊕ (Bool × Int)) (h : znd k p0 v3 s5_7 s5_15 = some x) : zN TE 16 (blk TE 16 2) (fun s : (Bool × Int) => zRm p0 v3 s.1 s.2) (zLm p0 v3) (s5_7, s5_15) x := by
 unfold znd at h
 refine zo h (fun h1001 g1 => ?_) (fun h1001 g1 => ?_)
 ·refine zl g1 (fun v1002 h1003 g2 => ?_)
  refine zl g2 (fun v1004 h1005 g3 => ?_)
  refine zl g3 (fun v1006 h1007 g4 => ?_)
  exact zqn (v1006.1, (w64 (s5_15 + 1))) [] [(16, 11, 0, .q (xb true)), (16, 12, 1, .q (.d (.pin [(dl eI v1002.1 v1002.2)]))), (16, 14, 1, .q (xi (v1002.1.length : Int)))] [(16, 1000013, (.nor, zpe p0 v3 s5_7 s5_15 v1002 v1004)), (16, 4, (.nor, zPf p0 v3 s5_15 v1002 v1006))] g4 (ob (o_b h1001) (ob (o_ia (e := (eL eI)) 1 h1003 rfl) (ob (zLl k p0 v3 s5_7 s5_15 v1002 _ h1005) (ob (zq eI v1002.1) (ob (zz (id := 4) (r' := (.nor, zPf p0 v3 s5_15 v1002 v1006)) (zkc (zCl k p0 v3 s5_15 v1002) k _ _ h1007) rfl) ob0))))) (by kernel_rfl)
 ·exact zqo [(16, 11, 0, .q (xb false))] [] g1 (ob (o_b h1001) ob0) (by kernel_rfl)
noncomputable def zmw (p0 : za) (r : Bool) (v3 : zt6) (v5 : zt2) (s14_19 : Int) : TM := zk4 p0 r ++ [(6, (xi v3.2.1)), (39, (.d (dl zb p0.Letters.1 p0.Letters.2))), (40, (xi (p0.Letters.1.length : Int))), (41, (xi v3.2.2)), (42, (xb false)), (83, (.d (dl (eL eI) p0.Far.1 p0.Far.2))), (84, (xi (p0.Far.1.length : Int))), (85, (xi v5.2)), (86, (xb false)), (121, (.d (dl (aI 2) p0.Apart.1 p0.Apart.2))), (122, (xi (p0.Apart.1.length : Int))), (123, (xi s14_19)), (124, (xb true)), (zsp 14), (13, (xi s14_19))]
noncomputable def zFc (p0 : za) (v3 : zt6) (v5 : zt2) (s14_7 : Bool) (s14_19 : Int) (v1602 : zt4) (r : Bool) : St := ⟨(zmw p0 r v3 v5 s14_19), ⟨[(zc 1 (zd p0)), (zc 14 (aI 2 v1602))], []⟩, []⟩
noncomputable def zHw (p0 : za) (s14_7 : Bool) (v3 : zt6) (v5 : zt2) (s14_19 : Int) : TM := zk5 p0 ++ [(5, (xb s14_7)), (6, (xi v3.2.1)), (39, (.d (dl zb p0.Letters.1 p0.Letters.2))), (40, (xi (p0.Letters.1.length : Int))), (41, (xi v3.2.2)), (42, (xb false)), (83, (.d (dl (eL eI) p0.Far.1 p0.Far.2))), (84, (xi (p0.Far.1.length : Int))), (85, (xi v5.2)), (86, (xb false)), (121, (.d (dl (aI 2) p0.Apart.1 p0.Apart.2))), (122, (xi (p0.Apart.1.length : Int))), (123, (xi s14_19)), (124, (xb true)), (zsp 14), (13, (xi s14_19))]
theorem zzl (k : Nat) (p0 : za) (v3 : zt6) (v5 : zt2) (s14_7 : Bool) (s14_19 : Int) (v1602 : zt4) (r : Bool) (h : zhf k p0 v3 v5 s14_7 s14_19 v1602 = some r) : ev TE 16 (rgn TE 16 23) ⟨(zHw p0 s14_7 v3 v5 s14_19), ⟨[(zc 1 (zd p0)), (zc 14 (aI 2 v1602))], []⟩, []⟩ = some (.nor, zFc p0 v3 v5 s14_7 s14_19 v1602 r) := by
 unfold zhf at h
 refine zo h (fun h1701 g1 => ?_) (fun h1701 g1 => ?_)
 ·refine zl g1 (fun v1702 h1703 g2 => ?_)
  refine zo g2 (fun h1704 g3 => ?_) (fun h1704 g3 => ?_)
  ·refine zo g3 (fun h1705 g4 => ?_) (fun h1705 g4 => ?_)
   ·refine zAb g4 (fun h1706 g5 => ?_)
    refine zl g5 (fun v1707 h1708 g6 => ?_)
    exact zu (g := fun r => (Ex.nor, zFc p0 v3 v5 s14_7 s14_19 v1602 r)) g6 (zqe [(16, 23, 1, .q (xb true)), (16, 23, 7, .c (db v1702)), (16, 23, 9, .q (xb true)), (16, 23, 15, .q (xb true)), (16, 23, 19, .q (.d (dl (aI 2) (p0.Apart.1.take s14_19.toNat) (pcap p0.Apart.2 (s14_19 == (p0.Apart.1.length : Int)))))), (16, 23, 21, .c (db v1707))] [] (ob (o_b h1701) (ob (zy k (v1602 0) 0 (w64 ((v1602 1) - 1)) _ h1703) (ob (o_b h1704) (ob (o_b h1705) (ob (zjq (e := (aI 2)) (z := 2) (n := s14_19) p0.Apart.1 p0.Apart.2 h1706) (ob (zqi k ((p0.Apart.1.take s14_19.toNat), (pcap p0.Apart.2 (s14_19 == (p0.Apart.1.length : Int)))) v1602 _ h1708) ob0)))))) (by kernel_rfl))
   ·exact zu (g := fun r => (Ex.nor, zFc p0 v3 v5 s14_7 s14_19 v1602 r)) g4 (zqe [(16, 23, 1, .q (xb true)), (16, 23, 7, .c (db v1702)), (16, 23, 9, .q (xb true)), (16, 23, 15, .q (xb false))] [] (ob (o_b h1701) (ob (zy k (v1602 0) 0 (w64 ((v1602 1) - 1)) _ h1703) (ob (o_b h1704) (ob (o_b h1705) ob0)))) (by kernel_rfl))
  ·exact zu (g := fun r => (Ex.nor, zFc p0 v3 v5 s14_7 s14_19 v1602 r)) g3 (zqe [(16, 23, 1, .q (xb true)), (16, 23, 7, .c (db v1702)), (16, 23, 9, .q (xb false))] [] (ob (o_b h1701) (ob (zy k (v1602 0) 0 (w64 ((v1602 1) - 1)) _ h1703) (ob (o_b h1704) ob0))) (by kernel_rfl))
 ·exact zu (g := fun r => (Ex.nor, zFc p0 v3 v5 s14_7 s14_19 v1602 r)) g1 (zqe [(16, 23, 1, .q (xb false))] [] (ob (o_b h1701) ob0) (by kernel_rfl))
noncomputable def zyw (p0 : za) (s14_7 : Bool) (v3 : zt6) (v5 : zt2) (s14_19 : Int) : TM := zk5 p0 ++ [(5, (xb s14_7)), (6, (xi v3.2.1)), (39, (.d (dl zb p0.Letters.1 p0.Letters.2))), (40, (xi (p0.Letters.1.length : Int))), (41, (xi v3.2.2)), (42, (xb false)), (83, (.d (dl (eL eI) p0.Far.1 p0.Far.2))), (84, (xi (p0.Far.1.length : Int))), (85, (xi v5.2)), (86, (xb false)), (121, (.d (dl (aI 2) p0.Apart.1 p0.Apart.2))), (122, (xi (p0.Apart.1.length : Int))), (123, (xi s14_19))]
noncomputable def zhm (p0 : za) (v3 : zt6) (v5 : zt2) (s14_7 : Bool) (s14_19 : Int) : St := ⟨(zyw p0 s14_7 v3 v5 s14_19), ⟨[(zc 1 (zd p0))], []⟩, []⟩
noncomputable def zbx (p0 : za) (r : zt2) (v3 : zt6) (v5 : zt2) : TM := zk5 p0 ++ [(5, (xb r.1)), (6, (xi v3.2.1)), (39, (.d (dl zb p0.Letters.1 p0.Letters.2))), (40, (xi (p0.Letters.1.length : Int))), (41, (xi v3.2.2)), (42, (xb false)), (83, (.d (dl (eL eI) p0.Far.1 p0.Far.2))), (84, (xi (p0.Far.1.length : Int))), (85, (xi v5.2)), (86, (xb false)), (121, (.d (dl (aI 2) p0.Apart.1 p0.Apart.2))), (122, (xi (p0.Apart.1.length : Int))), (123, (xi r.2)), (124, (xb false))]
noncomputable def z2c (p0 : za) (v3 : zt6) (v5 r : zt2) : St := ⟨(zbx p0 r v3 v5), ⟨[(zc 1 (zd p0))], []⟩, []⟩
noncomputable def z6l (p0 : za) (v3 : zt6) (v5 : zt2) : (Bool × Int) → Ex × St := fun r => ((.exit 6), z2c p0 v3 v5 r)
theorem zZh (k : Nat) (p0 : za) (v3 : zt6) (v5 : zt2) (s14_7 : Bool) (s14_19 : Int) (x : (Bool × Int) ⊕ (Bool × Int)) (h : z0c k p0 v3 v5 s14_7 s14_19 = some x) : zN TE 16 (blk TE 16 6) (fun s : (Bool × Int) => zhm p0 v3 v5 s.1 s.2) (z6l p0 v3 v5) (s14_7, s14_19) x := by
 unfold z0c at h
 refine zo h (fun h1601 g1 => ?_) (fun h1601 g1 => ?_)
 ·refine zl g1 (fun v1602 h1603 g2 => ?_)
  refine zl g2 (fun v1604 h1605 g3 => ?_)
  exact zqn (v1604, (w64 (s14_19 + 1))) [] [(16, 21, 0, .q (xb true)), (16, 22, 1, .q (.d (.pin (aI 2 v1602))))] [(16, 1000023, (.nor, zFc p0 v3 v5 s14_7 s14_19 v1602 v1604))] g3 (ob (o_b h1601) (ob (o_ia (e := (aI 2)) 2 h1603 rfl) (ob (zzl k p0 v3 v5 s14_7 s14_19 v1602 _ h1605) ob0))) (by kernel_rfl)
 ·exact zqo [(16, 21, 0, .q (xb false))] [] g1 (ob (o_b h1601) ob0) (by kernel_rfl)
theorem zD (k : Nat) (p0 : za) (r : Int) (h : zTb k p0 = some r) : zC TE (ev TE) 16 [(.agg (zd p0))] = some (zMh r) := by
 unfold zTb at h
 refine zl h (fun v1 h2 g1 => ?_)
 refine zl g1 (fun v3 h4 g2 => ?_)
 refine zl g2 (fun v5 h6 g3 => ?_)
 refine zl g3 (fun v7 h8 g4 => ?_)
 refine zo g4 (fun h9 g5 => ?_) (fun h9 g5 => ?_)
 ·exact zt (g := zMh) g5 (zqc [(16, 1, 2, .q (xi (p0.Letters.1.length : Int))), (16, 1, 5, .q (xi (p0.Far.1.length : Int))), (16, 4, 2, .q (xi (p0.Letters.1.length : Int))), (16, 10, 2, .q (xi (p0.Far.1.length : Int))), (16, 20, 2, .q (xi (p0.Apart.1.length : Int))), (16, 25, 1, .q (xb true))] [(16, 1000002, (.nor, zic p0 v1)), (16, 0, (.nor, zfd p0 v3)), (16, 2, (.nor, zcd p0 v3 v5)), (16, 6, (.nor, z2c p0 v3 v5 v7))] (ob (zq zb p0.Letters.1) (ob (zq (eL eI) p0.Far.1) (ob (zsi k p0 _ h2) (ob (zq zb p0.Letters.1) (ob (zz (id := 0) (r' := (.nor, zfd p0 v3)) (zin (zoi k p0) k _ _ h4) rfl) (ob (zq (eL eI) p0.Far.1) (ob (zz (id := 2) (r' := (.nor, zcd p0 v3 v5)) (zkc (zri k p0 v3) k _ _ h6) rfl) (ob (zq (aI 2) p0.Apart.1) (ob (zz (id := 6) (r' := (.nor, z2c p0 v3 v5 v7)) (zkc (zZh k p0 v3 v5) k _ _ h8) rfl) (ob (o_b h9) ob0)))))))))) (by kernel_rfl))
 ·exact zt (g := zMh) g5 (zqc [(16, 1, 2, .q (xi (p0.Letters.1.length : Int))), (16, 1, 5, .q (xi (p0.Far.1.length : Int))), (16, 4, 2, .q (xi (p0.Letters.1.length : Int))), (16, 10, 2, .q (xi (p0.Far.1.length : Int))), (16, 20, 2, .q (xi (p0.Apart.1.length : Int))), (16, 25, 1, .q (xb false))] [(16, 1000002, (.nor, zic p0 v1)), (16, 0, (.nor, zfd p0 v3)), (16, 2, (.nor, zcd p0 v3 v5)), (16, 6, (.nor, z2c p0 v3 v5 v7))] (ob (zq zb p0.Letters.1) (ob (zq (eL eI) p0.Far.1) (ob (zsi k p0 _ h2) (ob (zq zb p0.Letters.1) (ob (zz (id := 0) (r' := (.nor, zfd p0 v3)) (zin (zoi k p0) k _ _ h4) rfl) (ob (zq (eL eI) p0.Far.1) (ob (zz (id := 2) (r' := (.nor, zcd p0 v3 v5)) (zkc (zri k p0 v3) k _ _ h6) rfl) (ob (zq (aI 2) p0.Apart.1) (ob (zz (id := 6) (r' := (.nor, z2c p0 v3 v5 v7)) (zkc (zZh k p0 v3 v5) k _ _ h8) rfl) (ob (o_b h9) ob0)))))))))) (by kernel_rfl))
theorem zG (k : Nat) (p0 p1 p2 : Int) (r : Bool) (h : zY k p0 p1 p2 = some r) : zC TE (ev TE) 40 [(di p0), (di p1), (di p2)] = some (zNf r) := by
 unfold zY at h
 refine zo h (fun h1 g1 => ?_) (fun h1 g1 => ?_)
 ·exact zt (g := zNf) g1 (zqc [(40, 1, 3, .q (xb true))] [] (ob (o_b h1) ob0) (by kernel_rfl))
 ·exact zt (g := zNf) g1 (zqc [(40, 1, 3, .q (xb false))] [] (ob (o_b h1) ob0) (by kernel_rfl))
theorem zIk (k : Nat) (p0 : zOb) (p1 p2 : Int) (r : Bool) (h : zjd k p0 p1 p2 = some r) : zC TE (ev TE) 56 [(.agg [(di p0.Low), (di p0.High)]), (di p1), (di p2)] = some (zLd r) := by
 unfold zjd at h
 refine zo h (fun h1 g1 => ?_) (fun h1 g1 => ?_)
 ·refine zo g1 (fun h2 g2 => ?_) (fun h2 g2 => ?_)
  ·exact zt (g := zLd) g2 (zqc [(56, 1, 4, .q (xb true)), (56, 1, 11, .q (xb true))] [] (ob (o_b h1) (ob (o_b h2) ob0)) (by kernel_rfl))
  ·exact zt (g := zLd) g2 (zqc [(56, 1, 4, .q (xb true)), (56, 1, 11, .q (xb false))] [] (ob (o_b h1) (ob (o_b h2) ob0)) (by kernel_rfl))
 ·exact zt (g := zLd) g1 (zqc [(56, 1, 4, .q (xb false))] [] (ob (o_b h1) ob0) (by kernel_rfl))
noncomputable def zCt (p0 : za) (r : Bool) : TM := [(0, (.d (.agg (zd p0)))), (zsp 1), (2, (xb false)), (3, (xb r))]
noncomputable def zub (p0 : za) (r : Bool) : St := ⟨(zCt p0 r), ⟨[(zc 1 (zd p0))], []⟩, []⟩
theorem z0j (k : Nat) (p0 : za) (r : Bool) (h : zNd k p0 = some r) : ev TE 37 (rgn TE 37 1) ⟨[(0, (.d (.agg (zd p0)))), (zsp 1), (2, (xb false))], ⟨[(zc 1 (zd p0))], []⟩, []⟩ = some (.nor, zub p0 r) := by
 unfold zNd at h
 refine zl h (fun v201 h202 g1 => ?_)
 refine zo g1 (fun h203 g2 => ?_) (fun h203 g2 => ?_)
 ·refine zl g2 (fun v204 h205 g3 => ?_)
  refine zo g3 (fun h206 g4 => ?_) (fun h206 g4 => ?_)
  ·refine zl g4 (fun v207 h208 g5 => ?_)
   refine zo g5 (fun h209 g6 => ?_) (fun h209 g6 => ?_)
   ·refine zo g6 (fun h210 g7 => ?_) (fun h210 g7 => ?_)
    ·refine zl g7 (fun v211 h212 g8 => ?_)
     exact zu (g := fun r => (Ex.nor, zub p0 r)) g8 (zqe [(37, 1, 1, .c (di v201)), (37, 1, 3, .q (xb true)), (37, 1, 6, .q (xi (p0.Letters.1.length : Int))), (37, 1, 7, .c (db v204)), (37, 1, 9, .q (xb true)), (37, 1, 12, .q (xi (p0.Far.1.length : Int))), (37, 1, 13, .c (db v207)), (37, 1, 15, .q (xb true)), (37, 1, 18, .q (xi (p0.Apart.1.length : Int))), (37, 1, 21, .q (xb true)), (37, 1, 24, .c (db v211))] [] (ob (zD k p0 _ h202) (ob (o_b h203) (ob (zq zb p0.Letters.1) (ob (zG k (p0.Letters.1.length : Int) 1 8 _ h205) (ob (o_b h206) (ob (zq (eL eI) p0.Far.1) (ob (zG k (p0.Far.1.length : Int) 1 6 _ h208) (ob (o_b h209) (ob (zq (aI 2) p0.Apart.1) (ob (o_b h210) (ob (zG k p0.Most 1 8 _ h212) ob0))))))))))) (by kernel_rfl))
    ·exact zu (g := fun r => (Ex.nor, zub p0 r)) g7 (zqe [(37, 1, 1, .c (di v201)), (37, 1, 3, .q (xb true)), (37, 1, 6, .q (xi (p0.Letters.1.length : Int))), (37, 1, 7, .c (db v204)), (37, 1, 9, .q (xb true)), (37, 1, 12, .q (xi (p0.Far.1.length : Int))), (37, 1, 13, .c (db v207)), (37, 1, 15, .q (xb true)), (37, 1, 18, .q (xi (p0.Apart.1.length : Int))), (37, 1, 21, .q (xb false))] [] (ob (zD k p0 _ h202) (ob (o_b h203) (ob (zq zb p0.Letters.1) (ob (zG k (p0.Letters.1.length : Int) 1 8 _ h205) (ob (o_b h206) (ob (zq (eL eI) p0.Far.1) (ob (zG k (p0.Far.1.length : Int) 1 6 _ h208) (ob (o_b h209) (ob (zq (aI 2) p0.Apart.1) (ob (o_b h210) ob0)))))))))) (by kernel_rfl))
   ·exact zu (g := fun r => (Ex.nor, zub p0 r)) g6 (zqe [(37, 1, 1, .c (di v201)), (37, 1, 3, .q (xb true)), (37, 1, 6, .q (xi (p0.Letters.1.length : Int))), (37, 1, 7, .c (db v204)), (37, 1, 9, .q (xb true)), (37, 1, 12, .q (xi (p0.Far.1.length : Int))), (37, 1, 13, .c (db v207)), (37, 1, 15, .q (xb false))] [] (ob (zD k p0 _ h202) (ob (o_b h203) (ob (zq zb p0.Letters.1) (ob (zG k (p0.Letters.1.length : Int) 1 8 _ h205) (ob (o_b h206) (ob (zq (eL eI) p0.Far.1) (ob (zG k (p0.Far.1.length : Int) 1 6 _ h208) (ob (o_b h209) ob0)))))))) (by kernel_rfl))
  ·exact zu (g := fun r => (Ex.nor, zub p0 r)) g4 (zqe [(37, 1, 1, .c (di v201)), (37, 1, 3, .q (xb true)), (37, 1, 6, .q (xi (p0.Letters.1.length : Int))), (37, 1, 7, .c (db v204)), (37, 1, 9, .q (xb false))] [] (ob (zD k p0 _ h202) (ob (o_b h203) (ob (zq zb p0.Letters.1) (ob (zG k (p0.Letters.1.length : Int) 1 8 _ h205) (ob (o_b h206) ob0))))) (by kernel_rfl))
 ·exact zu (g := fun r => (Ex.nor, zub p0 r)) g2 (zqe [(37, 1, 1, .c (di v201)), (37, 1, 3, .q (xb false))] [] (ob (zD k p0 _ h202) (ob (o_b h203) ob0)) (by kernel_rfl))
noncomputable def zSw (p0 : za) (s2_5 : Bool) (s2_6 : Int) (r : Bool) : TM := [(0, (.d (.agg (zd p0)))), (zsp 1), (2, (xb false)), (3, (xb s2_5)), (4, (xi s2_6)), (42, (xb r))]
noncomputable def zsc (p0 : za) (s2_5 : Bool) (s2_6 : Int) (r : Bool) : St := ⟨(zSw p0 s2_5 s2_6 r), ⟨[(zc 1 (zd p0))], []⟩, []⟩
noncomputable def zIu (p0 : za) (s2_5 : Bool) (s2_6 : Int) : TM := [(0, (.d (.agg (zd p0)))), (zsp 1), (2, (xb false)), (3, (xb s2_5)), (4, (xi s2_6))]
theorem zNg (k : Nat) (p0 : za) (s2_5 : Bool) (s2_6 : Int) (r : Bool) (h : zdc k p0 s2_5 s2_6 = some r) : ev TE 37 (rgn TE 37 3) ⟨(zIu p0 s2_5 s2_6), ⟨[(zc 1 (zd p0))], []⟩, []⟩ = some (.nor, zsc p0 s2_5 s2_6 r) := by
 unfold zdc at h
 refine zo h (fun h801 g1 => ?_) (fun h801 g1 => ?_)
 ·exact zu (g := fun r => (Ex.nor, zsc p0 s2_5 s2_6 r)) g1 (zqe [(37, 3, 1, .q (xb true)), (37, 3, 5, .q (xi (p0.Far.1.length : Int)))] [] (ob (o_b h801) (ob (zq (eL eI) p0.Far.1) ob0)) (by kernel_rfl))
 ·exact zu (g := fun r => (Ex.nor, zsc p0 s2_5 s2_6 r)) g1 (zqe [(37, 3, 1, .q (xb false))] [] (ob (o_b h801) ob0) (by kernel_rfl))
noncomputable def zRw (p0 : za) (s8_5 : Bool) (s2_6 s8_8 : Int) (r : Bool) : TM := [(0, (.d (.agg (zd p0)))), (zsp 1), (2, (xb false)), (3, (xb s8_5)), (4, (xi s2_6)), (42, (xb true)), (5, (xi s8_8)), (65, (xb r))]
noncomputable def zoc (p0 : za) (s2_6 : Int) (s8_5 : Bool) (s8_8 : Int) (r : Bool) : St := ⟨(zRw p0 s8_5 s2_6 s8_8 r), ⟨[(zc 1 (zd p0))], []⟩, []⟩
noncomputable def zWu (p0 : za) (s8_5 : Bool) (s2_6 s8_8 : Int) : TM := [(0, (.d (.agg (zd p0)))), (zsp 1), (2, (xb false)), (3, (xb s8_5)), (4, (xi s2_6)), (42, (xb true)), (5, (xi s8_8))]
theorem zmg (k : Nat) (p0 : za) (s2_6 : Int) (s8_5 : Bool) (s8_8 : Int) (r : Bool) (h : z2b k p0 s2_6 s8_5 s8_8 = some r) : ev TE 37 (rgn TE 37 7) ⟨(zWu p0 s8_5 s2_6 s8_8), ⟨[(zc 1 (zd p0))], []⟩, []⟩ = some (.nor, zoc p0 s2_6 s8_5 s8_8 r) := by
 unfold z2b at h
 refine zo h (fun h1101 g1 => ?_) (fun h1101 g1 => ?_)
 ·refine zl g1 (fun v1102 h1103 g2 => ?_)
  exact zu (g := fun r => (Ex.nor, zoc p0 s2_6 s8_5 s8_8 r)) g2 (zqe [(37, 7, 1, .q (xb true)), (37, 7, 6, .q (.d (.pin [(dl eI v1102.1 v1102.2)]))), (37, 7, 8, .q (xi (v1102.1.length : Int)))] [] (ob (o_b h1101) (ob (o_ia (e := (eL eI)) 1 h1103 rfl) (ob (zq eI v1102.1) ob0))) (by kernel_rfl))
 ·exact zu (g := fun r => (Ex.nor, zoc p0 s2_6 s8_5 s8_8 r)) g1 (zqe [(37, 7, 1, .q (xb false))] [] (ob (o_b h1101) ob0) (by kernel_rfl))
noncomputable def zdk (p0 : za) (s2_6 : Int) (s8_5 : Bool) (s8_8 : Int) : St := ⟨(zWu p0 s8_5 s2_6 s8_8), ⟨[(zc 1 (zd p0))], []⟩, []⟩
noncomputable def zkx (p0 : za) (r : zt2) (s2_6 : Int) : TM := [(0, (.d (.agg (zd p0)))), (zsp 1), (2, (xb false)), (3, (xb r.1)), (4, (xi s2_6)), (42, (xb true)), (5, (xi r.2)), (65, (xb false))]
noncomputable def zve (p0 : za) (s2_6 : Int) (r : zt2) : St := ⟨(zkx p0 r s2_6), ⟨[(zc 1 (zd p0))], []⟩, []⟩
noncomputable def zwk (p0 : za) (s2_6 : Int) : (Bool × Int) → Ex × St := fun r => ((.exit 2), zve p0 s2_6 r)
theorem zSj (k : Nat) (p0 : za) (s2_6 : Int) (s8_5 : Bool) (s8_8 : Int) (x : (Bool × Int) ⊕ (Bool × Int)) (h : zfc k p0 s2_6 s8_5 s8_8 = some x) : zN TE 37 (blk TE 37 2) (fun s : (Bool × Int) => zdk p0 s2_6 s.1 s.2) (zwk p0 s2_6) (s8_5, s8_8) x := by
 unfold zfc at h
 refine zl h (fun v1001 h1002 g1 => ?_)
 refine zo g1 (fun h1003 g2 => ?_) (fun h1003 g2 => ?_)
 ·subst h1003
  refine zl g2 (fun v1004 h1005 g3 => ?_)
  refine zl g3 (fun v1006 h1007 g4 => ?_)
  refine zl g4 (fun v1008 h1009 g5 => ?_)
  exact zqn (v1008, (w64 (s8_8 + 1))) [] [(37, 9, 3, .q (.d (.pin [(dl eI v1004.1 v1004.2)]))), (37, 9, 6, .q (.d (.pin [(di v1006)]))), (37, 9, 8, .c (db v1008))] [(37, 1000007, (.nor, zoc p0 s2_6 s8_5 s8_8 true))] g5 (ob (zmg k p0 s2_6 s8_5 s8_8 _ h1002) (ob (o_ia (e := (eL eI)) 1 h1005 rfl) (ob (o_ia (e := eI) 1 h1007 rfl) (ob (zG k v1006 0 400 _ h1009) ob0)))) (by kernel_rfl)
 ·subst h1003
  exact zqo [] [(37, 1000007, (.nor, zoc p0 s2_6 s8_5 s8_8 false))] g2 (ob (zmg k p0 s2_6 s8_5 s8_8 _ h1002) ob0) (by kernel_rfl)
noncomputable def zmk (p0 : za) (s2_5 : Bool) (s2_6 : Int) : St := ⟨(zIu p0 s2_5 s2_6), ⟨[(zc 1 (zd p0))], []⟩, []⟩
noncomputable def z5w (p0 : za) (r : zt2) : TM := [(0, (.d (.agg (zd p0)))), (zsp 1), (2, (xb false)), (3, (xb r.1)), (4, (xi r.2)), (42, (xb false))]
noncomputable def zue (p0 : za) (r : zt2) : St := ⟨(z5w p0 r), ⟨[(zc 1 (zd p0))], []⟩, []⟩
noncomputable def zkk (p0 : za) : (Bool × Int) → Ex × St := fun r => ((.exit 0), zue p0 r)
theorem zRj (k : Nat) (p0 : za) (s2_5 : Bool) (s2_6 : Int) (x : (Bool × Int) ⊕ (Bool × Int)) (h : zgc k p0 s2_5 s2_6 = some x) : zN TE 37 (blk TE 37 0) (fun s : (Bool × Int) => zmk p0 s.1 s.2) (zkk p0) (s2_5, s2_6) x := by
 unfold zgc at h
 refine zl h (fun v701 h702 g1 => ?_)
 refine zo g1 (fun h703 g2 => ?_) (fun h703 g2 => ?_)
 ·subst h703
  refine zl g2 (fun v704 h705 g3 => ?_)
  refine zl g3 (fun v706 h707 g4 => ?_)
  exact zqn (v706.1, (w64 (s2_6 + 1))) [] [(37, 5, 3, .q (.d (.pin [(dl eI v704.1 v704.2)]))), (37, 5, 5, .q (xi (v704.1.length : Int))), (37, 5, 8, .q (xi (p0.Far.1.length : Int)))] [(37, 1000003, (.nor, zsc p0 s2_5 s2_6 true)), (37, 2, (.nor, zve p0 s2_6 v706))] g4 (ob (zNg k p0 s2_5 s2_6 _ h702) (ob (o_ia (e := (eL eI)) 1 h705 rfl) (ob (zq eI v704.1) (ob (zq (eL eI) p0.Far.1) (ob (zz (id := 2) (r' := (.nor, zve p0 s2_6 v706)) (zkc (zSj k p0 s2_6) k _ _ h707) rfl) ob0))))) (by kernel_rfl)
 ·subst h703
  exact zqo [] [(37, 1000003, (.nor, zsc p0 s2_5 s2_6 false))] g2 (ob (zNg k p0 s2_5 s2_6 _ h702) ob0) (by kernel_rfl)
noncomputable def zww (p0 : za) (s11_5 : Bool) (v3 : zt2) (s11_8 : Int) (r : Bool) : TM := [(0, (.d (.agg (zd p0)))), (zsp 1), (2, (xb false)), (3, (xb s11_5)), (4, (xi v3.2)), (42, (xb false)), (6, (xi s11_8)), (84, (xb r))]
noncomputable def znc (p0 : za) (v3 : zt2) (s11_5 : Bool) (s11_8 : Int) (r : Bool) : St := ⟨(zww p0 s11_5 v3 s11_8 r), ⟨[(zc 1 (zd p0))], []⟩, []⟩
noncomputable def zKt (p0 : za) (s11_5 : Bool) (v3 : zt2) (s11_8 : Int) : TM := [(0, (.d (.agg (zd p0)))), (zsp 1), (2, (xb false)), (3, (xb s11_5)), (4, (xi v3.2)), (42, (xb false)), (6, (xi s11_8))]
theorem zjg (k : Nat) (p0 : za) (v3 : zt2) (s11_5 : Bool) (s11_8 : Int) (r : Bool) (h : z4b k p0 v3 s11_5 s11_8 = some r) : ev TE 37 (rgn TE 37 11) ⟨(zKt p0 s11_5 v3 s11_8), ⟨[(zc 1 (zd p0))], []⟩, []⟩ = some (.nor, znc p0 v3 s11_5 s11_8 r) := by
 unfold z4b at h
 refine zo h (fun h1501 g1 => ?_) (fun h1501 g1 => ?_)
 ·exact zu (g := fun r => (Ex.nor, znc p0 v3 s11_5 s11_8 r)) g1 (zqe [(37, 11, 1, .q (xb true)), (37, 11, 5, .q (xi (p0.Letters.1.length : Int)))] [] (ob (o_b h1501) (ob (zq zb p0.Letters.1) ob0)) (by kernel_rfl))
 ·exact zu (g := fun r => (Ex.nor, znc p0 v3 s11_5 s11_8 r)) g1 (zqe [(37, 11, 1, .q (xb false))] [] (ob (o_b h1501) ob0) (by kernel_rfl))
noncomputable def zrx (p0 : za) (r : Bool) (v3 : zt2) (s11_8 : Int) : TM := zCt p0 r ++ [(4, (xi v3.2)), (42, (xb false)), (6, (xi s11_8)), (84, (xb true)), (zsp 7)]
noncomputable def zmc (p0 : za) (v3 : zt2) (s11_5 : Bool) (s11_8 : Int) (v1404 : zi) (r : Bool) : St := ⟨(zrx p0 r v3 s11_8), ⟨[(zc 1 (zd p0)), (zc 7 (zb v1404))], []⟩, []⟩
theorem zvj (k : Nat) (p0 : za) (v3 : zt2) (s11_5 : Bool) (s11_8 : Int) (v1404 : zi) (r : Bool) (h : zrd k p0 v3 s11_5 s11_8 v1404 = some r) : ev TE 37 (rgn TE 37 14) ⟨(zKt p0 s11_5 v3 s11_8 ++ [(84, (xb true)), (zsp 7)]), ⟨[(zc 1 (zd p0)), (zc 7 (zb v1404))], []⟩, []⟩ = some (.nor, zmc p0 v3 s11_5 s11_8 v1404 r) := by
 unfold zrd at h
 refine zl h (fun v1601 h1602 g1 => ?_)
 refine zo g1 (fun h1603 g2 => ?_) (fun h1603 g2 => ?_)
 ·refine zl g2 (fun v1604 h1605 g3 => ?_)
  refine zo g3 (fun h1606 g4 => ?_) (fun h1606 g4 => ?_)
  ·refine zl g4 (fun v1607 h1608 g5 => ?_)
   exact zu (g := fun r => (Ex.nor, zmc p0 v3 s11_5 s11_8 v1404 r)) g5 (zqe [(37, 14, 2, .c (db v1601)), (37, 14, 3, .q (xb true)), (37, 14, 8, .q (xi (p0.Far.1.length : Int))), (37, 14, 10, .c (db v1604)), (37, 14, 12, .q (xb true)), (37, 14, 15, .c (db v1607))] [] (ob (zG k v1404.Day 0 20000 _ h1602) (ob (o_b h1603) (ob (zq (eL eI) p0.Far.1) (ob (zG k v1404.Place 0 (w64 ((p0.Far.1.length : Int) - 1)) _ h1605) (ob (o_b h1606) (ob (zIk k v1404.Born 0 200 _ h1608) ob0)))))) (by kernel_rfl))
  ·exact zu (g := fun r => (Ex.nor, zmc p0 v3 s11_5 s11_8 v1404 r)) g4 (zqe [(37, 14, 2, .c (db v1601)), (37, 14, 3, .q (xb true)), (37, 14, 8, .q (xi (p0.Far.1.length : Int))), (37, 14, 10, .c (db v1604)), (37, 14, 12, .q (xb false))] [] (ob (zG k v1404.Day 0 20000 _ h1602) (ob (o_b h1603) (ob (zq (eL eI) p0.Far.1) (ob (zG k v1404.Place 0 (w64 ((p0.Far.1.length : Int) - 1)) _ h1605) (ob (o_b h1606) ob0))))) (by kernel_rfl))
 ·exact zu (g := fun r => (Ex.nor, zmc p0 v3 s11_5 s11_8 v1404 r)) g2 (zqe [(37, 14, 2, .c (db v1601)), (37, 14, 3, .q (xb false))] [] (ob (zG k v1404.Day 0 20000 _ h1602) (ob (o_b h1603) ob0)) (by kernel_rfl))
noncomputable def zKj (p0 : za) (v3 : zt2) (s11_5 : Bool) (s11_8 : Int) : St := ⟨(zKt p0 s11_5 v3 s11_8), ⟨[(zc 1 (zd p0))], []⟩, []⟩
noncomputable def zLw (p0 : za) (r v3 : zt2) : TM := [(0, (.d (.agg (zd p0)))), (zsp 1), (2, (xb false)), (3, (xb r.1)), (4, (xi v3.2)), (42, (xb false)), (6, (xi r.2)), (84, (xb false))]
noncomputable def zee (p0 : za) (v3 r : zt2) : St := ⟨(zLw p0 r v3), ⟨[(zc 1 (zd p0))], []⟩, []⟩
noncomputable def zLj (p0 : za) (v3 : zt2) : (Bool × Int) → Ex × St := fun r => ((.exit 4), zee p0 v3 r)
theorem zpj (k : Nat) (p0 : za) (v3 : zt2) (s11_5 : Bool) (s11_8 : Int) (x : (Bool × Int) ⊕ (Bool × Int)) (h : zYb k p0 v3 s11_5 s11_8 = some x) : zN TE 37 (blk TE 37 4) (fun s : (Bool × Int) => zKj p0 v3 s.1 s.2) (zLj p0 v3) (s11_5, s11_8) x := by
 unfold zYb at h
 refine zl h (fun v1401 h1402 g1 => ?_)
 refine zo g1 (fun h1403 g2 => ?_) (fun h1403 g2 => ?_)
 ·subst h1403
  refine zl g2 (fun v1404 h1405 g3 => ?_)
  refine zl g3 (fun v1406 h1407 g4 => ?_)
  exact zqn (v1406, (w64 (s11_8 + 1))) [] [(37, 13, 3, .q (.d (.pin (zb v1404))))] [(37, 1000011, (.nor, znc p0 v3 s11_5 s11_8 true)), (37, 1000014, (.nor, zmc p0 v3 s11_5 s11_8 v1404 v1406))] g4 (ob (zjg k p0 v3 s11_5 s11_8 _ h1402) (ob (o_ia (e := zb) 6 h1405 rfl) (ob (zvj k p0 v3 s11_5 s11_8 v1404 _ h1407) ob0))) (by kernel_rfl)
 ·subst h1403
  exact zqo [] [(37, 1000011, (.nor, znc p0 v3 s11_5 s11_8 false))] g2 (ob (zjg k p0 v3 s11_5 s11_8 _ h1402) ob0) (by kernel_rfl)
noncomputable def zzw (p0 : za) (s16_5 : Bool) (v3 v5 : zt2) (s16_10 : Int) (r : Bool) : TM := [(0, (.d (.agg (zd p0)))), (zsp 1), (2, (xb false)), (3, (xb s16_5)), (4, (xi v3.2)), (42, (xb false)), (6, (xi v5.2)), (84, (xb false)), (8, (xi s16_10)), (116, (xb r))]
noncomputable def zlc (p0 : za) (v3 v5 : zt2) (s16_5 : Bool) (s16_10 : Int) (r : Bool) : St := ⟨(zzw p0 s16_5 v3 v5 s16_10 r), ⟨[(zc 1 (zd p0))], []⟩, []⟩
noncomputable def zat (p0 : za) (s16_5 : Bool) (v3 v5 : zt2) (s16_10 : Int) : TM := [(0, (.d (.agg (zd p0)))), (zsp 1), (2, (xb false)), (3, (xb s16_5)), (4, (xi v3.2)), (42, (xb false)), (6, (xi v5.2)), (84, (xb false)), (8, (xi s16_10))]
theorem zlg (k : Nat) (p0 : za) (v3 v5 : zt2) (s16_5 : Bool) (s16_10 : Int) (r : Bool) (h : zZb k p0 v3 v5 s16_5 s16_10 = some r) : ev TE 37 (rgn TE 37 16) ⟨(zat p0 s16_5 v3 v5 s16_10), ⟨[(zc 1 (zd p0))], []⟩, []⟩ = some (.nor, zlc p0 v3 v5 s16_5 s16_10 r) := by
 unfold zZb at h
 refine zo h (fun h2001 g1 => ?_) (fun h2001 g1 => ?_)
 ·exact zu (g := fun r => (Ex.nor, zlc p0 v3 v5 s16_5 s16_10 r)) g1 (zqe [(37, 16, 1, .q (xb true)), (37, 16, 5, .q (xi (p0.Apart.1.length : Int)))] [] (ob (o_b h2001) (ob (zq (aI 2) p0.Apart.1) ob0)) (by kernel_rfl))
 ·exact zu (g := fun r => (Ex.nor, zlc p0 v3 v5 s16_5 s16_10 r)) g1 (zqe [(37, 16, 1, .q (xb false))] [] (ob (o_b h2001) ob0) (by kernel_rfl))
noncomputable def zex (p0 : za) (r : Bool) (v3 v5 : zt2) (s16_10 : Int) : TM := zCt p0 r ++ [(4, (xi v3.2)), (42, (xb false)), (6, (xi v5.2)), (84, (xb false)), (8, (xi s16_10)), (116, (xb true))]
noncomputable def z7c (p0 : za) (v3 v5 : zt2) (s16_5 : Bool) (s16_10 : Int) (r : Bool) : St := ⟨(zex p0 r v3 v5 s16_10), ⟨[(zc 1 (zd p0))], []⟩, []⟩
theorem zoj (k : Nat) (p0 : za) (v3 v5 : zt2) (s16_5 : Bool) (s16_10 : Int) (r : Bool) (h : ztd k p0 v3 v5 s16_5 s16_10 = some r) : ev TE 37 (rgn TE 37 18) ⟨(zat p0 s16_5 v3 v5 s16_10 ++ [(116, (xb true))]), ⟨[(zc 1 (zd p0))], []⟩, []⟩ = some (.nor, z7c p0 v3 v5 s16_5 s16_10 r) := by
 unfold ztd at h
 refine zl h (fun v2101 h2102 g1 => ?_)
 refine zl g1 (fun v2103 h2104 g2 => ?_)
 refine zo g2 (fun h2105 g3 => ?_) (fun h2105 g3 => ?_)
 ·refine zl g3 (fun v2106 h2107 g4 => ?_)
  refine zl g4 (fun v2108 h2109 g5 => ?_)
  exact zu (g := fun r => (Ex.nor, z7c p0 v3 v5 s16_5 s16_10 r)) g5 (zqe [(37, 18, 3, .q (.d (.pin (aI 2 v2101)))), (37, 18, 8, .q (xi (p0.Letters.1.length : Int))), (37, 18, 10, .c (db v2103)), (37, 18, 11, .q (xb true)), (37, 18, 15, .q (.d (.pin (aI 2 v2106)))), (37, 18, 20, .q (xi (p0.Letters.1.length : Int))), (37, 18, 22, .c (db v2108))] [] (ob (o_ia (e := (aI 2)) 2 h2102 rfl) (ob (zq zb p0.Letters.1) (ob (zG k (v2101 0) 0 (w64 ((p0.Letters.1.length : Int) - 1)) _ h2104) (ob (o_b h2105) (ob (o_ia (e := (aI 2)) 2 h2107 rfl) (ob (zq zb p0.Letters.1) (ob (zG k (v2106 1) 0 (w64 ((p0.Letters.1.length : Int) - 1)) _ h2109) ob0))))))) (by kernel_rfl))
 ·exact zu (g := fun r => (Ex.nor, z7c p0 v3 v5 s16_5 s16_10 r)) g3 (zqe [(37, 18, 3, .q (.d (.pin (aI 2 v2101)))), (37, 18, 8, .q (xi (p0.Letters.1.length : Int))), (37, 18, 10, .c (db v2103)), (37, 18, 11, .q (xb false))] [] (ob (o_ia (e := (aI 2)) 2 h2102 rfl) (ob (zq zb p0.Letters.1) (ob (zG k (v2101 0) 0 (w64 ((p0.Letters.1.length : Int) - 1)) _ h2104) (ob (o_b h2105) ob0)))) (by kernel_rfl))
noncomputable def zJj (p0 : za) (v3 v5 : zt2) (s16_5 : Bool) (s16_10 : Int) : St := ⟨(zat p0 s16_5 v3 v5 s16_10), ⟨[(zc 1 (zd p0))], []⟩, []⟩
noncomputable def zcx (p0 : za) (r v3 v5 : zt2) : TM := [(0, (.d (.agg (zd p0)))), (zsp 1), (2, (xb false)), (3, (xb r.1)), (4, (xi v3.2)), (42, (xb false)), (6, (xi v5.2)), (84, (xb false)), (8, (xi r.2)), (116, (xb false))]
noncomputable def z9d (p0 : za) (v3 v5 r : zt2) : St := ⟨(zcx p0 r v3 v5), ⟨[(zc 1 (zd p0))], []⟩, []⟩
noncomputable def zTj (p0 : za) (v3 v5 : zt2) : (Bool × Int) → Ex × St := fun r => ((.exit 6), z9d p0 v3 v5 r)
theorem zwj (k : Nat) (p0 : za) (v3 v5 : zt2) (s16_5 : Bool) (s16_10 : Int) (x : (Bool × Int) ⊕ (Bool × Int)) (h : z1b k p0 v3 v5 s16_5 s16_10 = some x) : zN TE 37 (blk TE 37 6) (fun s : (Bool × Int) => zJj p0 v3 v5 s.1 s.2) (zTj p0 v3 v5) (s16_5, s16_10) x := by
 unfold z1b at h
 refine zl h (fun v1901 h1902 g1 => ?_)
 refine zo g1 (fun h1903 g2 => ?_) (fun h1903 g2 => ?_)
 ·subst h1903
  refine zl g2 (fun v1904 h1905 g3 => ?_)
  exact zqn (v1904, (w64 (s16_10 + 1))) [] [] [(37, 1000016, (.nor, zlc p0 v3 v5 s16_5 s16_10 true)), (37, 1000018, (.nor, z7c p0 v3 v5 s16_5 s16_10 v1904))] g3 (ob (zlg k p0 v3 v5 s16_5 s16_10 _ h1902) (ob (zoj k p0 v3 v5 s16_5 s16_10 _ h1905) ob0)) (by kernel_rfl)
 ·subst h1903
  exact zqo [] [(37, 1000016, (.nor, zlc p0 v3 v5 s16_5 s16_10 false))] g2 (ob (zlg k p0 v3 v5 s16_5 s16_10 _ h1902) ob0) (by kernel_rfl)
theorem zE (k : Nat) (p0 : za) (r : Bool) (h : zwd k p0 = some r) : zC TE (ev TE) 37 [(.agg (zd p0))] = some (z6h r) := by
 unfold zwd at h
 refine zl h (fun v1 h2 g1 => ?_)
 refine zl g1 (fun v3 h4 g2 => ?_)
 refine zl g2 (fun v5 h6 g3 => ?_)
 refine zl g3 (fun v7 h8 g4 => ?_)
 exact zt (g := z6h) g4 (zqc [] [(37, 1000001, (.nor, zub p0 v1)), (37, 0, (.nor, zue p0 v3)), (37, 4, (.nor, zee p0 v3 v5)), (37, 6, (.nor, z9d p0 v3 v5 v7))] (ob (z0j k p0 _ h2) (ob (zz (id := 0) (r' := (.nor, zue p0 v3)) (zkc (zRj k p0) k _ _ h4) rfl) (ob (zz (id := 4) (r' := (.nor, zee p0 v3 v5)) (zkc (zpj k p0 v3) k _ _ h6) rfl) (ob (zz (id := 6) (r' := (.nor, z9d p0 v3 v5 v7)) (zkc (zwj k p0 v3 v5) k _ _ h8) rfl) ob0)))) (by kernel_rfl))
theorem zDd (k : Nat) (p0 p1 : Int) (r : zOb) (h : zOe k p0 p1 = some r) : zC TE (ev TE) 46 [(di p0), (di p1)] = some (znj r) := by
 unfold zOe at h
 exact zt (g := znj) h (zqc [] [] ob0 (by kernel_rfl))
theorem zJc (k : Nat) (p0 p1 p2 p3 p4 : Int) (r : zi) (h : z8b k p0 p1 p2 p3 p4 = some r) : zC TE (ev TE) 81 [(di p0), (di p1), (di p2), (di p3), (di p4)] = some (zrh r) := by
 unfold z8b at h
 refine zl h (fun v1 h2 g1 => ?_)
 exact zt (g := zrh) g1 (zqc [(81, 1, 4, .c (.agg [(di v1.Low), (di v1.High)]))] [] (ob (zDd k p2 p3 _ h2) ob0) (by kernel_rfl))
theorem zk (k : Nat) (p0 : Int) (r : za) (h : zdb k p0 = some r) : zC TE (ev TE) 50 [(di p0)] = some (zfi r) := by
 unfold zdb at h
 refine zl h (fun v1 h2 g1 => ?_)
 refine zl g1 (fun v3 h4 g2 => ?_)
 refine zl g2 (fun v5 h6 g3 => ?_)
 refine zl g3 (fun v7 h8 g4 => ?_)
 refine zl g4 (fun v9 h10 g5 => ?_)
 refine zl g5 (fun v11 h12 g6 => ?_)
 exact zt (g := zfi) g6 (zqr [(50, 1, 0, .c (.agg (zb v1))), (50, 1, 1, .c (.agg (zb v3))), (50, 1, 2, .c (.agg (zb v5))), (50, 1, 3, .c (.agg (zb v7))), (50, 1, 4, .c (.agg (zb v9))), (50, 2, 2, .q (.rp 0 9 ([v1, v3, v5, v7, v9] : List zi).length (4 : Int).toNat 0)), (50, 2, 3, .q (.rp 0 9 ([v1, v3, v5, v7, v9] : List zi).length (4 : Int).toNat 4)), (50, 2, 4, .rs (rowO false 6 zb (([v1, v3, v5, v7, v9] : List zi).set (4 : Int).toNat (⟨v11.Day, v11.Place, v11.Born, true, v11.Account⟩ : zi)) true)), (50, 2, 999, .nm [] [(3, 0, (([v1, v3, v5, v7, v9] : List zi).set (4 : Int).toNat (⟨v11.Day, v11.Place, v11.Born, true, v11.Account⟩ : zi)).length)])] [] [(.agg [(dl zb (([v1, v3, v5, v7, v9] : List zi).set (4 : Int).toNat (⟨v11.Day, v11.Place, v11.Born, true, v11.Account⟩ : zi)) (rcap false (([v1, v3, v5, v7, v9] : List zi).set (4 : Int).toNat (⟨v11.Day, v11.Place, v11.Born, true, v11.Account⟩ : zi)))), (.sl [[(.sl [[(di 0)], [(di 5)]] .ex)], [(.sl [[(di 5)], [(di 0)]] .ex)]] .ex), (.sl [] .nil), (di p0)])] (ob (zJc k 10 0 50 60 7 _ h2) (ob (zJc k 12 1 40 55 0 _ h4) (ob (zJc k 20 0 56 70 0 _ h6) (ob (zJc k 30 1 50 58 7 _ h8) (ob (zJc k 40 0 30 45 0 _ h10) (ob (zqa 22 48 0 9 4 false 6 zb ([v1, v3, v5, v7, v9] : List zi) true (by kernel_rfl) (by kernel_rfl) h12) (ob (zqf 60 (4, 1, false) 0 9 0 3 4 false 6 zb ([v1, v3, v5, v7, v9] : List zi) true (by kernel_rfl) (by decide) h12) (ob (o_rs (b := false) (z := 6) (e := zb) (l := ([v1, v3, v5, v7, v9] : List zi)) (o := 4) (n := 1) (ds := [(db true)]) (i := 4) (y' := (⟨v11.Day, v11.Place, v11.Born, true, v11.Account⟩ : zi)) h12 (Nat.le_of_ble_eq_true rfl) rfl) (ob (show ([v1, v3, v5, v7, v9] : List zi).length = (([v1, v3, v5, v7, v9] : List zi).set (4 : Int).toNat (⟨v11.Day, v11.Place, v11.Born, true, v11.Account⟩ : zi)).length by simp) (ob (show zGc ⟨[(9, (rowO false 6 zb (([v1, v3, v5, v7, v9] : List zi).set (4 : Int).toNat (⟨v11.Day, v11.Place, v11.Born, true, v11.Account⟩ : zi)) true))], []⟩ _ = _ from (o_s1 (x := (.agg [(.row 0 9 (([v1, v3, v5, v7, v9] : List zi).set (4 : Int).toNat (⟨v11.Day, v11.Place, v11.Born, true, v11.Account⟩ : zi)).length), (.d (.sl [[(.sl [[(di 0)], [(di 5)]] .ex)], [(.sl [[(di 5)], [(di 0)]] .ex)]] .ex)), (.d (.sl [] .nil)), (xi p0)])) (zTs (o_c1 (z1l false 6 zb (([v1, v3, v5, v7, v9] : List zi).set (4 : Int).toNat (⟨v11.Day, v11.Place, v11.Born, true, v11.Account⟩ : zi)) true rfl) (o_cd (o_cd (o_cd o_c0))))) o_s0)) ob0)))))))))) (by kernel_rfl))
noncomputable def zwx (p0 : za) (s1_6 : Int) : TM := [(0, (.d (.agg (zd p0)))), (zsp 1), (zsp 2), (zsp 3), (10, (.d (dl (aI 2) p0.Apart.1 p0.Apart.2))), (11, (xi (p0.Apart.1.length : Int))), (12, (xi s1_6))]
noncomputable def zVl (p0 : za) (s1_6 : Int) (s1_16 : (List (zm × Bool))) : St := ⟨(zwx p0 s1_6), ⟨[(zc 1 (zd p0)), (2, (.cells [(.d (.sl [] .nil)), (.d (.sl [] .nil)), (.d (.sl [] .nil)), (xi 0), (.d (.mp []))])), (7, (.map (em (fun k => D.agg (zh k)) (fun b => D.b b) s1_16))), (3, (.cells (((zd p0).map .d) ++ [(.map 0 7)])))], []⟩, []⟩
noncomputable def zxx (p0 : za) (r : (Int × (List (zm × Bool)))) : TM := [(0, (.d (.agg (zd p0)))), (zsp 1), (zsp 2), (zsp 3), (10, (.d (dl (aI 2) p0.Apart.1 p0.Apart.2))), (11, (xi (p0.Apart.1.length : Int))), (12, (xi r.1)), (13, (xb false))]
noncomputable def zEf (p0 : za) (r : (Int × (List (zm × Bool)))) : St := ⟨(zxx p0 r), ⟨[(zc 1 (zd p0)), (2, (.cells [(.d (.sl [] .nil)), (.d (.sl [] .nil)), (.d (.sl [] .nil)), (xi 0), (.d (.mp []))])), (7, (.map (em (fun k => D.agg (zh k)) (fun b => D.b b) r.2))), (3, (.cells (((zd p0).map .d) ++ [(.map 0 7)])))], []⟩, []⟩
noncomputable def z8l (p0 : za) : (Int × (List (zm × Bool))) → Ex × St := fun r => ((.exit 0), zEf p0 r)
theorem zul (k : Nat) (p0 : za) (s1_6 : Int) (s1_16 : (List (zm × Bool))) (x : (Int × (List (zm × Bool))) ⊕ (Int × (List (zm × Bool)))) (h : zWd k p0 s1_6 s1_16 = some x) : zN TE 52 (blk TE 52 0) (fun s : (Int × (List (zm × Bool))) => zVl p0 s.1 s.2) (z8l p0) (s1_6, s1_16) x := by
 unfold zWd at h
 refine zo h (fun h201 g1 => ?_) (fun h201 g1 => ?_)
 ·refine zl g1 (fun v202 h203 g2 => ?_)
  exact zqn ((w64 (s1_6 + 1)), (mset zx (⟨(v202 0), (v202 1)⟩ : zm) true s1_16)) [] [(52, 3, 0, .q (xb true)), (52, 4, 0, .q (.d (.pin (aI 2 v202)))), (52, 5, 7, .mp (em (fun k => D.agg (zh k)) (fun b => D.b b) (mset zx (⟨(v202 0), (v202 1)⟩ : zm) true s1_16)))] [] g2 (ob (o_b h201) (ob (o_ia (e := (aI 2)) 2 h203 rfl) (ob (z3p (ek := (fun k => D.agg (zh k))) (evl := (fun b => D.b b)) (q := zx) (fun _ _ => rfl) (⟨(v202 0), (v202 1)⟩ : zm) true s1_16) ob0))) (by kernel_rfl)
 ·exact zqo [(52, 3, 0, .q (xb false))] [] g1 (ob (o_b h201) ob0) (by kernel_rfl)
theorem zmb (k : Nat) (p0 : za) (r : zj) (h : zVb k p0 = some r) : zC TE (ev TE) 52 [(.agg (zd p0))] = some (zHj r) := by
 unfold zVb at h
 refine zl h (fun v1 h2 g1 => ?_)
 exact zt (g := zHj) g1 (zqc [(52, 2, 2, .q (xi (p0.Apart.1.length : Int)))] [(52, 0, (.nor, zEf p0 v1))] (ob (zq (aI 2) p0.Apart.1) (ob (zz (id := 0) (r' := (.nor, zEf p0 v1)) (zkc (zul k p0) k _ _ h2) rfl) ob0)) (by kernel_rfl))
theorem z1c (k : Nat) (r : zt3) (h : zDg k = some r) : zC TE (ev TE) 82 [] = some (zEj r) := by
 unfold zDg at h
 exact zt (g := zEj) h (zqc [] [] ob0 (by kernel_rfl))
noncomputable def zXw (p0 : zt3) (s1_5 : (List Int)) (s1_3 : Int) : TM := [(0, (.d (.agg (aB 8 p0)))), (zsp 1), (2, (.d (.sl [] .nil))), (3, (.row 0 3 s1_5.length)), (6, (.d (.agg (aB 8 p0)))), (7, (xi s1_3))]
noncomputable def zBj (p0 : zt3) (s1_3 : Int) (s1_5 : (List Int)) : St := ⟨(zXw p0 s1_5 s1_3), ⟨[(zc 1 (aB 8 p0)), (3, (rowO true 1 eI s1_5 true))], []⟩, []⟩
noncomputable def zax (p0 : zt3) (r : (Int × (List Int))) : TM := [(0, (.d (.agg (aB 8 p0)))), (zsp 1), (2, (.d (.sl [] .nil))), (3, (.row 0 3 r.2.length)), (6, (.d (.agg (aB 8 p0)))), (7, (xi r.1)), (8, (xb false))]
noncomputable def zZd (p0 : zt3) (r : (Int × (List Int))) : St := ⟨(zax p0 r), ⟨[(zc 1 (aB 8 p0)), (3, (rowO true 1 eI r.2 true))], []⟩, []⟩
noncomputable def zuj (p0 : zt3) : (Int × (List Int)) → Ex × St := fun r => ((.exit 0), zZd p0 r)
theorem zij (k : Nat) (p0 : zt3) (s1_3 : Int) (s1_5 : (List Int)) (x : (Int × (List Int)) ⊕ (Int × (List Int))) (h : zwc k p0 s1_3 s1_5 = some x) : zN TE 110 (blk TE 110 0) (fun s : (Int × (List Int)) => zBj p0 s.1 s.2) (zuj p0) (s1_3, s1_5) x := by
 unfold zwc at h
 refine zo h (fun h301 g1 => ?_) (fun h301 g1 => ?_)
 ·refine zAb g1 (fun h302 g2 => ?_)
  refine zo g2 (fun h303 g3 => ?_) (fun h303 g3 => ?_)
  ·refine zAb g3 (fun h304 g4 => ?_)
   exact zqn ((w64 (s1_3 + 1)), (s1_5 ++ [s1_3])) [3] [(110, 3, 0, .q (xb true)), (110, 4, 1, .q (xb (p0 s1_3.toNat))), (110, 5, 0, .q (xb true)), (110, 6, 3, .ap (s1_5 ++ [s1_3]).length (rowO true 1 eI (s1_5 ++ [s1_3]) true))] [] g4 (ob (o_b h301) (ob (z2t 8 p0 s1_3 h302) (ob (o_b h303) (ob (o_ap (b := true) (z := 1) (e := eI) (l := s1_5) (w := true) s1_3 (fun _ => rfl) h304) (ob (zif true 1 eI (s1_5 ++ [s1_3]) true) ob0))))) (by kernel_rfl)
  ·exact zqn ((w64 (s1_3 + 1)), s1_5) [3] [(110, 3, 0, .q (xb true)), (110, 4, 1, .q (xb (p0 s1_3.toNat))), (110, 5, 0, .q (xb false))] [] g3 (ob (o_b h301) (ob (z2t 8 p0 s1_3 h302) (ob (o_b h303) (ob (zif true 1 eI s1_5 true) ob0)))) (by kernel_rfl)
 ·exact zqo [(110, 3, 0, .q (xb false))] [] g1 (ob (o_b h301) ob0) (by kernel_rfl)
theorem zmd (k : Nat) (p0 : zt3) (r : (SL Int)) (h : zSb k p0 = some r) : zC TE (ev TE) 110 [(.agg (aB 8 p0))] = some (zkh r) := by
 unfold zSb at h
 refine zl h (fun v1 h2 g1 => ?_)
 exact zt (g := zkh) g1 (zqr [] [(110, 0, (.nor, zZd p0 v1))] [(dl eI v1.2 (rcap true v1.2))] (ob (zz (id := 0) (r' := (.nor, zZd p0 v1)) (zkc (zij k p0) k _ _ h2) rfl) (ob (show zGc ⟨[(3, (rowO true 1 eI v1.2 true))], []⟩ _ = _ from (o_s1 (x := (.row 0 3 v1.2.length)) (zlp true 1 eI v1.2 true rfl) o_s0)) ob0)) (by kernel_rfl))
noncomputable def zmx (s1_0 : Int) (p1 : (SL Int)) (s1_5 : Int) : TM := [(0, (xi s1_0)), (1, (.d (dl eI p1.1 p1.2))), (4, (xi 0)), (7, (.d (dl eI p1.1 p1.2))), (8, (xi (p1.1.length : Int))), (9, (xi s1_5))]
noncomputable def zzj (p1 : (SL Int)) (s1_0 s1_5 : Int) : St := ⟨(zmx s1_0 p1 s1_5), ⟨[], []⟩, []⟩
noncomputable def zow (r : zt1) (p1 : (SL Int)) : TM := [(0, (xi r.1)), (1, (.d (dl eI p1.1 p1.2))), (4, (xi 0)), (7, (.d (dl eI p1.1 p1.2))), (8, (xi (p1.1.length : Int))), (9, (xi r.2)), (10, (xb false))]
noncomputable def zSd (p1 : (SL Int)) (r : zt1) : St := ⟨(zow r p1), ⟨[], []⟩, []⟩
noncomputable def zyj (p1 : (SL Int)) : (Int × Int) → Ex × St := fun r => ((.exit 0), zSd p1 r)
theorem z9i (k : Nat) (p1 : (SL Int)) (s1_0 s1_5 : Int) (x : (Int × Int) ⊕ (Int × Int)) (h : zqb k p1 s1_0 s1_5 = some x) : zN TE 76 (blk TE 76 0) (fun s : (Int × Int) => zzj p1 s.1 s.2) (zyj p1) (s1_0, s1_5) x := by
 unfold zqb at h
 refine zo h (fun h201 g1 => ?_) (fun h201 g1 => ?_)
 ·refine zl g1 (fun v202 h203 g2 => ?_)
  exact zqn ((if v202 > s1_0 then v202 else s1_0), (w64 (s1_5 + 1))) [] [(76, 2, 0, .q (xb true)), (76, 3, 0, .q (.d (.pin [(di v202)])))] [] g2 (ob (o_b h201) (ob (o_ia (e := eI) 1 h203 rfl) ob0)) (by kernel_rfl)
 ·exact zqo [(76, 2, 0, .q (xb false))] [] g1 (ob (o_b h201) ob0) (by kernel_rfl)
theorem zdd (k : Nat) (p0 : Int) (p1 : (SL Int)) (r : Int) (h : zyb k p0 p1 = some r) : zC TE (ev TE) 76 [(di p0), (dl eI p1.1 p1.2)] = some (zjh r) := by
 unfold zyb at h
 refine zl h (fun v1 h2 g1 => ?_)
 exact zt (g := zjh) g1 (zqc [(76, 1, 1, .q (xi (p1.1.length : Int)))] [(76, 0, (.nor, zSd p1 v1))] (ob (zq eI p1.1) (ob (zz (id := 0) (r' := (.nor, zSd p1 v1)) (zkc (z9i k p1) k _ _ h2) rfl) ob0)) (by kernel_rfl))
noncomputable def zpx (p0 : zj) (p1 : zt3) (p2 : Int) (v3 : (SL Int)) (s1_10 : Int) : TM := [(0, (.d (.agg (zn p0)))), (1, (.d (.agg (aB 8 p1)))), (2, (xi p2)), (zsp 3), (zsp 4), (6, (xb false)), (zsp 7), (19, (.d (dl eI v3.1 v3.2))), (20, (xi (v3.1.length : Int))), (21, (xi s1_10))]
noncomputable def zQk (p0 : zj) (p1 : zt3) (p2 : Int) (v3 : (SL Int)) (s1_10 s1_17 s1_18 : Int) : St := ⟨(zpx p0 p1 p2 v3 s1_10), ⟨[(zc 3 (zn p0)), (zc 4 (aB 8 p1)), (7, (.cells [(xi s1_17), (xi s1_18)]))], []⟩, []⟩
noncomputable def zrw (p0 : zj) (p1 : zt3) (p2 : Int) (v3 : (SL Int)) (r : (Int × Int × Int)) : TM := [(0, (.d (.agg (zn p0)))), (1, (.d (.agg (aB 8 p1)))), (2, (xi p2)), (zsp 3), (zsp 4), (6, (xb false)), (zsp 7), (19, (.d (dl eI v3.1 v3.2))), (20, (xi (v3.1.length : Int))), (21, (xi r.1)), (22, (xb false))]
noncomputable def zNe (p0 : zj) (p1 : zt3) (p2 : Int) (v3 : (SL Int)) (r : (Int × Int × Int)) : St := ⟨(zrw p0 p1 p2 v3 r), ⟨[(zc 3 (zn p0)), (zc 4 (aB 8 p1)), (7, (.cells [(xi r.2.1), (xi r.2.2)]))], []⟩, []⟩
noncomputable def zJk (p0 : zj) (p1 : zt3) (p2 : Int) (v3 : (SL Int)) : (Int × Int × Int) → Ex × St := fun r => ((.exit 0), zNe p0 p1 p2 v3 r)
theorem zrk (k : Nat) (p0 : zj) (p1 : zt3) (p2 : Int) (v3 : (SL Int)) (s1_10 s1_17 s1_18 : Int) (x : (Int × Int × Int) ⊕ (Int × Int × Int)) (h : z6c k p0 p1 p2 v3 s1_10 s1_17 s1_18 = some x) : zN TE 112 (blk TE 112 0) (fun s : (Int × Int × Int) => zQk p0 p1 p2 v3 s.1 s.2.1 s.2.2) (zJk p0 p1 p2 v3) (s1_10, s1_17, s1_18) x := by
 unfold z6c at h
 refine zo h (fun h201 g1 => ?_) (fun h201 g1 => ?_)
 ·refine zl g1 (fun v202 h203 g2 => ?_)
  refine zl g2 (fun v204 h205 g3 => ?_)
  refine zl g3 (fun v206 h207 g4 => ?_)
  refine zl g4 (fun v208 h209 g5 => ?_)
  exact zqn ((w64 (s1_10 + 1)), v206, (w64 (0 - v208))) [] [(112, 3, 0, .q (xb true)), (112, 4, 0, .q (.d (.pin [(di v202)]))), (112, 5, 4, .q (.d (.pin (zb v204)))), (112, 6, 5, .c (di v206)), (112, 6, 13, .c (di v208))] [] g5 (ob (o_b h201) (ob (o_ia (e := eI) 1 h203 rfl) (ob (o_ia (e := zb) 6 h205 rfl) (ob (zdd k s1_17 ([v204.Born.Low], .ex) _ h207) (ob (zdd k (w64 (0 - s1_18)) ([(w64 (0 - v204.Born.High))], .ex) _ h209) ob0))))) (by kernel_rfl)
 ·exact zqo [(112, 3, 0, .q (xb false))] [] g1 (ob (o_b h201) ob0) (by kernel_rfl)
theorem z7h (k : Nat) (p0 : zj) (p1 : zt3) (p2 : Int) (r : Bool) (h : zRd k p0 p1 p2 = some r) : zC TE (ev TE) 112 [(.agg (zn p0)), (.agg (aB 8 p1)), (di p2)] = some (z9h r) := by
 unfold zRd at h
 refine zl h (fun v1 h2 g1 => ?_)
 refine zl g1 (fun v3 h4 g2 => ?_)
 refine zl g2 (fun v5 h6 g3 => ?_)
 exact zt (g := z9h) g3 (zqc [(112, 1, 4, .q (.d (.pin (zb v1)))), (112, 2, 1, .c (dl eI v3.1 v3.2)), (112, 2, 2, .q (xi (v3.1.length : Int)))] [(112, 0, (.nor, zNe p0 p1 p2 v3 v5))] (ob (o_ia (e := zb) 6 h2 rfl) (ob (zmd k p1 _ h4) (ob (zq eI v3.1) (ob (zz (id := 0) (r' := (.nor, zNe p0 p1 p2 v3 v5)) (zin (zrk k p0 p1 p2 v3) k _ _ h6) rfl) ob0)))) (by kernel_rfl))
theorem zXh (k : Nat) (p0 : zj) (p1 : zt3) (r : Int) (h : z5c k p0 p1 = some r) : zC TE (ev TE) 116 [(.agg (zn p0)), (.agg (aB 8 p1))] = some (zui r) := by
 unfold z5c at h
 refine zl h (fun v1 h2 g1 => ?_)
 refine zl g1 (fun v3 h4 g2 => ?_)
 exact zt (g := zui) g2 (zqc [(116, 1, 1, .c (dl eI v1.1 v1.2)), (116, 2, 2, .q (xi (v1.1.length : Int))), (116, 2, 4, .q (.d (.pin [(di v3)])))] [] (ob (zmd k p1 _ h2) (ob (zq eI v1.1) (ob (o_ia (e := eI) 1 h4 rfl) ob0))) (by kernel_rfl))
theorem zii (k : Nat) (p0 : zj) (p1 : zt3) (p2 : Int) (r : Bool) (h : zne k p0 p1 p2 = some r) : zC TE (ev TE) 113 [(.agg (zn p0)), (.agg (aB 8 p1)), (di p2)] = some (zKi r) := by
 unfold zne at h
 refine zl h (fun v1 h2 g1 => ?_)
 refine zl g1 (fun v3 h4 g2 => ?_)
 refine zl g2 (fun v5 h6 g3 => ?_)
 refine zl g3 (fun v7 h8 g4 => ?_)
 refine zl g4 (fun v9 h10 g5 => ?_)
 exact zt (g := zKi) g5 (zqc [(113, 1, 5, .c (di v1)), (113, 1, 6, .q (.d (.pin (zb v3)))), (113, 1, 12, .q (.d (.pin (zb v5)))), (113, 2, 10, .q (.d (.pin [(dl eI v7.1 v7.2)]))), (113, 2, 14, .q (.d (.pin [(di v9)])))] [] (ob (zXh k p0 p1 _ h2) (ob (o_ia (e := zb) 6 h4 rfl) (ob (o_ia (e := zb) 6 h6 rfl) (ob (o_ia (e := (eL eI)) 1 h8 rfl) (ob (o_ia (e := eI) 1 h10 rfl) ob0))))) (by kernel_rfl))
theorem zzh (k : Nat) (p0 : zj) (p1 : zt3) (p2 : Int) (r : Bool) (h : zFd k p0 p1 p2 = some r) : zC TE (ev TE) 114 [(.agg (zn p0)), (.agg (aB 8 p1)), (di p2)] = some (z1h r) := by
 unfold zFd at h
 refine zl h (fun v1 h2 g1 => ?_)
 refine zl g1 (fun v3 h4 g2 => ?_)
 exact zt (g := z1h) g2 (zqc [(114, 1, 5, .c (di v1)), (114, 1, 6, .q (.d (.pin (zb v3))))] [] (ob (zXh k p0 p1 _ h2) (ob (o_ia (e := zb) 6 h4 rfl) ob0)) (by kernel_rfl))
noncomputable def zFw (p0 : zj) (p1 : zt3) (p2 : Int) (v1 : (SL Int)) (s1_10 : Int) : TM := [(0, (.d (.agg (zn p0)))), (1, (.d (.agg (aB 8 p1)))), (2, (xi p2)), (zsp 3), (zsp 4), (6, (xb false)), (10, (.d (dl eI v1.1 v1.2))), (11, (xi (v1.1.length : Int))), (12, (xi s1_10))]
noncomputable def zsk (p0 : zj) (p1 : zt3) (p2 : Int) (v1 : (SL Int)) (s1_10 : Int) : St := ⟨(zFw p0 p1 p2 v1 s1_10), ⟨[(zc 3 (zn p0)), (zc 4 (aB 8 p1))], []⟩, []⟩
noncomputable def zfx (p0 : zj) (p1 : zt3) (p2 : Int) (v1 : (SL Int)) (r : zt1) : TM := [(0, (.d (.agg (zn p0)))), (1, (.d (.agg (aB 8 p1)))), (2, (xi p2)), (zsp 3), (zsp 4), (6, (xb false)), (10, (.d (dl eI v1.1 v1.2))), (11, (xi (v1.1.length : Int))), (12, (xi r.1)), (13, (xb true)), (8, (xi r.2)), (21, (xb true))]
noncomputable def zwe (p0 : zj) (p1 : zt3) (p2 : Int) (v1 : (SL Int)) (r : zt1) : St := ⟨(zfx p0 p1 p2 v1 r), ⟨[(zc 3 (zn p0)), (zc 4 (aB 8 p1))], []⟩, []⟩
noncomputable def zOw (p0 : zj) (p1 : zt3) (p2 : Int) (v1 : (SL Int)) (r : Int) : TM := [(0, (.d (.agg (zn p0)))), (1, (.d (.agg (aB 8 p1)))), (2, (xi p2)), (zsp 3), (zsp 4), (6, (xb false)), (10, (.d (dl eI v1.1 v1.2))), (11, (xi (v1.1.length : Int))), (12, (xi r)), (13, (xb false))]
noncomputable def zxe (p0 : zj) (p1 : zt3) (p2 : Int) (v1 : (SL Int)) (r : Int) : St := ⟨(zOw p0 p1 p2 v1 r), ⟨[(zc 3 (zn p0)), (zc 4 (aB 8 p1))], []⟩, []⟩
noncomputable def ztk (p0 : zj) (p1 : zt3) (p2 : Int) (v1 : (SL Int)) : ((Int × Int) ⊕ Int) → Ex × St := Sum.elim (fun r => (.ret, zwe p0 p1 p2 v1 r)) (fun r => ((.exit 0), zxe p0 p1 p2 v1 r))
theorem zAg (k : Nat) (p0 : zj) (p1 : zt3) (p2 : Int) (v1 : (SL Int)) (s1_10 : Int) (x : Int ⊕ ((Int × Int) ⊕ Int)) (h : zWc k p0 p1 p2 v1 s1_10 = some x) : zN TE 115 (blk TE 115 0) (fun s : Int => zsk p0 p1 p2 v1 s) (ztk p0 p1 p2 v1) s1_10 x := by
 unfold zWc at h
 refine zo h (fun h201 g1 => ?_) (fun h201 g1 => ?_)
 ·refine zl g1 (fun v202 h203 g2 => ?_)
  refine zo g2 (fun h204 g3 => ?_) (fun h204 g3 => ?_)
  ·exact zqo [(115, 2, 0, .q (xb true)), (115, 3, 0, .q (.d (.pin [(di v202)]))), (115, 4, 5, .q (xb true))] [] g3 (ob (o_b h201) (ob (o_ia (e := eI) 1 h203 rfl) (ob (o_tr (znk (ek := (fun k => D.agg (zh k))) (evl := (fun b => D.b b)) (q := zx) (fun _ _ => rfl) (⟨v202, p2⟩ : zm) p0.apart false) h204) ob0))) (by kernel_rfl)
  ·exact zqn (w64 (s1_10 + 1)) [] [(115, 2, 0, .q (xb true)), (115, 3, 0, .q (.d (.pin [(di v202)]))), (115, 4, 5, .q (xb false))] [] g3 (ob (o_b h201) (ob (o_ia (e := eI) 1 h203 rfl) (ob (o_tr (znk (ek := (fun k => D.agg (zh k))) (evl := (fun b => D.b b)) (q := zx) (fun _ _ => rfl) (⟨v202, p2⟩ : zm) p0.apart false) h204) ob0))) (by kernel_rfl)
 ·exact zqo [(115, 2, 0, .q (xb false))] [] g1 (ob (o_b h201) ob0) (by kernel_rfl)
theorem zuh (k : Nat) (p0 : zj) (p1 : zt3) (p2 : Int) (r : Bool) (h : zBd k p0 p1 p2 = some r) : zC TE (ev TE) 115 [(.agg (zn p0)), (.agg (aB 8 p1)), (di p2)] = some (zOf r) := by
 unfold zBd at h
 refine zl h (fun v1 h2 g1 => ?_)
 refine zl g1 (fun v3 h4 g2 => ?_)
 refine zxd g2 (fun v6 hh g3_0 => ?_) (fun v6 hh g3_0 => ?_)
 ·subst hh
  exact zt (g := zOf) g3_0 (zqc [(115, 1, 1, .c (dl eI v1.1 v1.2)), (115, 1, 2, .q (xi (v1.1.length : Int)))] [(115, 0, (.ret, zwe p0 p1 p2 v1 v6))] (ob (zmd k p1 _ h2) (ob (zq eI v1.1) (ob (zz (id := 0) (r' := (.ret, zwe p0 p1 p2 v1 v6)) (zge (zAg k p0 p1 p2 v1) k _ _ h4) rfl) ob0))) (by kernel_rfl))
 ·subst hh
  exact zt (g := zOf) g3_0 (zqc [(115, 1, 1, .c (dl eI v1.1 v1.2)), (115, 1, 2, .q (xi (v1.1.length : Int)))] [(115, 0, (.nor, zxe p0 p1 p2 v1 v6))] (ob (zmd k p1 _ h2) (ob (zq eI v1.1) (ob (zz (id := 0) (r' := (.nor, zxe p0 p1 p2 v1 v6)) (zge (zAg k p0 p1 p2 v1) k _ _ h4) rfl) ob0))) (by kernel_rfl))
noncomputable def z6w (p0 : zj) (p1 : zt3) (p2 s1_9 : Int) : TM := [(0, (.d (.agg (zn p0)))), (1, (.d (.agg (aB 8 p1)))), (2, (xi p2)), (zsp 3), (zsp 4), (6, (xb false)), (11, (xb false)), (12, (.d (.agg [(.fn 112 [] []), (.fn 113 [] []), (.fn 114 [] []), (.fn 115 [] [])]))), (13, (xi s1_9))]
noncomputable def zjl (p0 : zj) (p1 : zt3) (p2 s1_9 : Int) : St := ⟨(z6w p0 p1 p2 s1_9), ⟨[(zc 3 (zn p0)), (zc 4 (aB 8 p1))], []⟩, []⟩
noncomputable def zZw (p0 : zj) (p1 : zt3) (p2 r : Int) : TM := [(0, (.d (.agg (zn p0)))), (1, (.d (.agg (aB 8 p1)))), (2, (xi p2)), (zsp 3), (zsp 4), (6, (xb false)), (11, (xb false)), (12, (.d (.agg [(.fn 112 [] []), (.fn 113 [] []), (.fn 114 [] []), (.fn 115 [] [])]))), (13, (xi r)), (14, (xb true)), (8, (.d (.fn 112 [] []))), (21, (xb true))]
noncomputable def zZe (p0 : zj) (p1 : zt3) (p2 r : Int) : St := ⟨(zZw p0 p1 p2 r), ⟨[(zc 3 (zn p0)), (zc 4 (aB 8 p1))], []⟩, []⟩
noncomputable def zVw (p0 : zj) (p1 : zt3) (p2 r : Int) : TM := [(0, (.d (.agg (zn p0)))), (1, (.d (.agg (aB 8 p1)))), (2, (xi p2)), (zsp 3), (zsp 4), (6, (xb false)), (11, (xb false)), (12, (.d (.agg [(.fn 112 [] []), (.fn 113 [] []), (.fn 114 [] []), (.fn 115 [] [])]))), (13, (xi r)), (14, (xb true)), (8, (.d (.fn 113 [] []))), (21, (xb true))]
noncomputable def z0e (p0 : zj) (p1 : zt3) (p2 r : Int) : St := ⟨(zVw p0 p1 p2 r), ⟨[(zc 3 (zn p0)), (zc 4 (aB 8 p1))], []⟩, []⟩
noncomputable def zYw (p0 : zj) (p1 : zt3) (p2 r : Int) : TM := [(0, (.d (.agg (zn p0)))), (1, (.d (.agg (aB 8 p1)))), (2, (xi p2)), (zsp 3), (zsp 4), (6, (xb false)), (11, (xb false)), (12, (.d (.agg [(.fn 112 [] []), (.fn 113 [] []), (.fn 114 [] []), (.fn 115 [] [])]))), (13, (xi r)), (14, (xb true)), (8, (.d (.fn 114 [] []))), (21, (xb true))]
noncomputable def z2e (p0 : zj) (p1 : zt3) (p2 r : Int) : St := ⟨(zYw p0 p1 p2 r), ⟨[(zc 3 (zn p0)), (zc 4 (aB 8 p1))], []⟩, []⟩
noncomputable def zIw (p0 : zj) (p1 : zt3) (p2 r : Int) : TM := [(0, (.d (.agg (zn p0)))), (1, (.d (.agg (aB 8 p1)))), (2, (xi p2)), (zsp 3), (zsp 4), (6, (xb false)), (11, (xb false)), (12, (.d (.agg [(.fn 112 [] []), (.fn 113 [] []), (.fn 114 [] []), (.fn 115 [] [])]))), (13, (xi r)), (14, (xb true)), (8, (.d (.fn 115 [] []))), (21, (xb true))]
noncomputable def zYe (p0 : zj) (p1 : zt3) (p2 r : Int) : St := ⟨(zIw p0 p1 p2 r), ⟨[(zc 3 (zn p0)), (zc 4 (aB 8 p1))], []⟩, []⟩
noncomputable def zqx (p0 : zj) (p1 : zt3) (p2 r : Int) : TM := [(0, (.d (.agg (zn p0)))), (1, (.d (.agg (aB 8 p1)))), (2, (xi p2)), (zsp 3), (zsp 4), (6, (xb false)), (11, (xb false)), (12, (.d (.agg [(.fn 112 [] []), (.fn 113 [] []), (.fn 114 [] []), (.fn 115 [] [])]))), (13, (xi r)), (14, (xb false))]
noncomputable def zWe (p0 : zj) (p1 : zt3) (p2 r : Int) : St := ⟨(zqx p0 p1 p2 r), ⟨[(zc 3 (zn p0)), (zc 4 (aB 8 p1))], []⟩, []⟩
noncomputable def znl (p0 : zj) (p1 : zt3) (p2 : Int) : (Int ⊕ (Int ⊕ (Int ⊕ (Int ⊕ Int)))) → Ex × St := Sum.elim (fun r => (.ret, zZe p0 p1 p2 r)) (Sum.elim (fun r => (.ret, z0e p0 p1 p2 r)) (Sum.elim (fun r => (.ret, z2e p0 p1 p2 r)) (Sum.elim (fun r => (.ret, zYe p0 p1 p2 r)) (fun r => ((.exit 0), zWe p0 p1 p2 r)))))
theorem zKc (k : Nat) (p0 : zj) (p1 : zt3) (p2 s1_9 : Int) (x : Int ⊕ (Int ⊕ (Int ⊕ (Int ⊕ (Int ⊕ Int))))) (h : zze k p0 p1 p2 s1_9 = some x) : zN TE 53 (blk TE 53 0) (fun s : Int => zjl p0 p1 p2 s) (znl p0 p1 p2) s1_9 x := by
 unfold zze at h
 refine zo h (fun h201 g1 => ?_) (fun h201 g1 => ?_)
 ·refine zo g1 (fun h202 g2 => ?_) (fun h202 g2 => ?_)
  ·refine zl g2 (fun v203 h204 g3 => ?_)
   refine zo g3 (fun h205 g4 => ?_) (fun h205 g4 => ?_)
   ·exact zqo [(53, 4, 0, .q (xb true)), (53, 5, 0, .q (.d (.fn 112 [] []))), (53, 6, 4, .c (db v203)), (53, 6, 5, .q (xb true))] [] g4 (ob (o_b h201) (ob (zTk [(.fn 112 [] []), (.fn 113 [] []), (.fn 114 [] []), (.fn 115 [] [])] 4 1 false (j := 0) (eq_of_beq h202) (by decide)) (ob (z7h k p0 p1 p2 _ h204) (ob (o_b h205) ob0)))) (by kernel_rfl)
   ·exact zqn (w64 (s1_9 + 1)) [] [(53, 4, 0, .q (xb true)), (53, 5, 0, .q (.d (.fn 112 [] []))), (53, 6, 4, .c (db v203)), (53, 6, 5, .q (xb false))] [] g4 (ob (o_b h201) (ob (zTk [(.fn 112 [] []), (.fn 113 [] []), (.fn 114 [] []), (.fn 115 [] [])] 4 1 false (j := 0) (eq_of_beq h202) (by decide)) (ob (z7h k p0 p1 p2 _ h204) (ob (o_b h205) ob0)))) (by kernel_rfl)
  ·refine zo g2 (fun h203 g3 => ?_) (fun h203 g3 => ?_)
   ·refine zl g3 (fun v204 h205 g4 => ?_)
    refine zo g4 (fun h206 g5 => ?_) (fun h206 g5 => ?_)
    ·exact zqo [(53, 4, 0, .q (xb true)), (53, 5, 0, .q (.d (.fn 113 [] []))), (53, 6, 4, .c (db v204)), (53, 6, 5, .q (xb true))] [] g5 (ob (o_b h201) (ob (zTk [(.fn 112 [] []), (.fn 113 [] []), (.fn 114 [] []), (.fn 115 [] [])] 4 1 false (j := 1) (eq_of_beq h203) (by decide)) (ob (zii k p0 p1 p2 _ h205) (ob (o_b h206) ob0)))) (by kernel_rfl)
    ·exact zqn (w64 (s1_9 + 1)) [] [(53, 4, 0, .q (xb true)), (53, 5, 0, .q (.d (.fn 113 [] []))), (53, 6, 4, .c (db v204)), (53, 6, 5, .q (xb false))] [] g5 (ob (o_b h201) (ob (zTk [(.fn 112 [] []), (.fn 113 [] []), (.fn 114 [] []), (.fn 115 [] [])] 4 1 false (j := 1) (eq_of_beq h203) (by decide)) (ob (zii k p0 p1 p2 _ h205) (ob (o_b h206) ob0)))) (by kernel_rfl)
   ·refine zo g3 (fun h204 g4 => ?_) (fun h204 g4 => ?_)
    ·refine zl g4 (fun v205 h206 g5 => ?_)
     refine zo g5 (fun h207 g6 => ?_) (fun h207 g6 => ?_)
     ·exact zqo [(53, 4, 0, .q (xb true)), (53, 5, 0, .q (.d (.fn 114 [] []))), (53, 6, 4, .c (db v205)), (53, 6, 5, .q (xb true))] [] g6 (ob (o_b h201) (ob (zTk [(.fn 112 [] []), (.fn 113 [] []), (.fn 114 [] []), (.fn 115 [] [])] 4 1 false (j := 2) (eq_of_beq h204) (by decide)) (ob (zzh k p0 p1 p2 _ h206) (ob (o_b h207) ob0)))) (by kernel_rfl)
     ·exact zqn (w64 (s1_9 + 1)) [] [(53, 4, 0, .q (xb true)), (53, 5, 0, .q (.d (.fn 114 [] []))), (53, 6, 4, .c (db v205)), (53, 6, 5, .q (xb false))] [] g6 (ob (o_b h201) (ob (zTk [(.fn 112 [] []), (.fn 113 [] []), (.fn 114 [] []), (.fn 115 [] [])] 4 1 false (j := 2) (eq_of_beq h204) (by decide)) (ob (zzh k p0 p1 p2 _ h206) (ob (o_b h207) ob0)))) (by kernel_rfl)
    ·refine zo g4 (fun h205 g5 => ?_) (fun h205 g5 => ?_)
     ·refine zl g5 (fun v206 h207 g6 => ?_)
      refine zo g6 (fun h208 g7 => ?_) (fun h208 g7 => ?_)
      ·exact zqo [(53, 4, 0, .q (xb true)), (53, 5, 0, .q (.d (.fn 115 [] []))), (53, 6, 4, .c (db v206)), (53, 6, 5, .q (xb true))] [] g7 (ob (o_b h201) (ob (zTk [(.fn 112 [] []), (.fn 113 [] []), (.fn 114 [] []), (.fn 115 [] [])] 4 1 false (j := 3) (eq_of_beq h205) (by decide)) (ob (zuh k p0 p1 p2 _ h207) (ob (o_b h208) ob0)))) (by kernel_rfl)
      ·exact zqn (w64 (s1_9 + 1)) [] [(53, 4, 0, .q (xb true)), (53, 5, 0, .q (.d (.fn 115 [] []))), (53, 6, 4, .c (db v206)), (53, 6, 5, .q (xb false))] [] g7 (ob (o_b h201) (ob (zTk [(.fn 112 [] []), (.fn 113 [] []), (.fn 114 [] []), (.fn 115 [] [])] 4 1 false (j := 3) (eq_of_beq h205) (by decide)) (ob (zuh k p0 p1 p2 _ h207) (ob (o_b h208) ob0)))) (by kernel_rfl)
     ·cases g5
 ·exact zqo [(53, 4, 0, .q (xb false))] [] g1 (ob (o_b h201) ob0) (by kernel_rfl)
theorem z6b (k : Nat) (p0 : zj) (p1 : zt3) (p2 : Int) (r : Bool) (h : zkb k p0 p1 p2 = some r) : zC TE (ev TE) 53 [(.agg (zn p0)), (.agg (aB 8 p1)), (di p2)] = some (zhc r) := by
 unfold zkb at h
 refine zl h (fun v1 h2 g1 => ?_)
 refine zo g1 (fun h3 g2 => ?_) (fun h3 g2 => ?_)
 ·exact zt (g := zhc) g2 (zqc [(53, 1, 1, .c (.agg (aB 8 v1))), (53, 1, 2, .q (xb true))] [] (ob (z1c k _ h2) (ob (o_b h3) ob0)) (by kernel_rfl))
 ·refine zl g2 (fun v4 h5 g3 => ?_)
  refine zxd g3 (fun v7 hh g4_0 => ?_) (fun w3_0 hh g4_0 => ?_)
  ·subst hh
   exact zt (g := zhc) g4_0 (zqc [(53, 1, 1, .c (.agg (aB 8 v1))), (53, 1, 2, .q (xb false))] [(53, 0, (.ret, zZe p0 p1 p2 v7))] (ob (z1c k _ h2) (ob (o_b h3) (ob (zz (id := 0) (r' := (.ret, zZe p0 p1 p2 v7)) (zge (zKc k p0 p1 p2) k _ _ h5) rfl) ob0))) (by kernel_rfl))
  ·subst hh
   refine zxd g4_0 (fun v7 hh g4_1 => ?_) (fun w3_1 hh g4_1 => ?_)
   ·subst hh
    exact zt (g := zhc) g4_1 (zqc [(53, 1, 1, .c (.agg (aB 8 v1))), (53, 1, 2, .q (xb false))] [(53, 0, (.ret, z0e p0 p1 p2 v7))] (ob (z1c k _ h2) (ob (o_b h3) (ob (zz (id := 0) (r' := (.ret, z0e p0 p1 p2 v7)) (zge (zKc k p0 p1 p2) k _ _ h5) rfl) ob0))) (by kernel_rfl))
   ·subst hh
    refine zxd g4_1 (fun v7 hh g4_2 => ?_) (fun w3_2 hh g4_2 => ?_)
    ·subst hh
     exact zt (g := zhc) g4_2 (zqc [(53, 1, 1, .c (.agg (aB 8 v1))), (53, 1, 2, .q (xb false))] [(53, 0, (.ret, z2e p0 p1 p2 v7))] (ob (z1c k _ h2) (ob (o_b h3) (ob (zz (id := 0) (r' := (.ret, z2e p0 p1 p2 v7)) (zge (zKc k p0 p1 p2) k _ _ h5) rfl) ob0))) (by kernel_rfl))
    ·subst hh
     refine zxd g4_2 (fun v7 hh g4_3 => ?_) (fun v7 hh g4_3 => ?_)
     ·subst hh
      exact zt (g := zhc) g4_3 (zqc [(53, 1, 1, .c (.agg (aB 8 v1))), (53, 1, 2, .q (xb false))] [(53, 0, (.ret, zYe p0 p1 p2 v7))] (ob (z1c k _ h2) (ob (o_b h3) (ob (zz (id := 0) (r' := (.ret, zYe p0 p1 p2 v7)) (zge (zKc k p0 p1 p2) k _ _ h5) rfl) ob0))) (by kernel_rfl))
     ·subst hh
      exact zt (g := zhc) g4_3 (zqc [(53, 1, 1, .c (.agg (aB 8 v1))), (53, 1, 2, .q (xb false))] [(53, 0, (.nor, zWe p0 p1 p2 v7))] (ob (z1c k _ h2) (ob (o_b h3) (ob (zz (id := 0) (r' := (.nor, zWe p0 p1 p2 v7)) (zge (zKc k p0 p1 p2) k _ _ h5) rfl) ob0))) (by kernel_rfl))
noncomputable def zGw (p0 : za) (p1 : (SL Int)) (v1 s1_9 s1_12 : Int) : TM := [(0, (.d (.agg (zd p0)))), (1, (.d (dl eI p1.1 p1.2))), (zsp 2), (4, (xb false)), (5, (xi 0)), (6, (xi v1)), (17, (xb false)), (7, (xi s1_9)), (19, (.d (dl eI p1.1 p1.2))), (20, (xi (p1.1.length : Int))), (21, (xi s1_12))]
noncomputable def zEm (p0 : za) (p1 : (SL Int)) (v1 s1_9 s1_12 : Int) : St := ⟨(zGw p0 p1 v1 s1_9 s1_12), ⟨[(zc 2 (zd p0))], []⟩, []⟩
noncomputable def zjx (p0 : za) (p1 : (SL Int)) (v1 : Int) (r : (Int × Int × Int)) : TM := [(0, (.d (.agg (zd p0)))), (1, (.d (dl eI p1.1 p1.2))), (zsp 2), (4, (xb false)), (5, (xi 81)), (6, (xi v1)), (17, (xb false)), (7, (xi r.1)), (19, (.d (dl eI p1.1 p1.2))), (20, (xi (p1.1.length : Int))), (21, (xi r.2.1)), (22, (xb true)), (9, (xi r.2.2)), (33, (xb true))]
noncomputable def zig (p0 : za) (p1 : (SL Int)) (v1 : Int) (r : (Int × Int × Int)) : St := ⟨(zjx p0 p1 v1 r), ⟨[(zc 2 (zd p0))], []⟩, []⟩
noncomputable def zPw (p0 : za) (p1 : (SL Int)) (v1 : Int) (r : zt1) : TM := [(0, (.d (.agg (zd p0)))), (1, (.d (dl eI p1.1 p1.2))), (zsp 2), (4, (xb false)), (5, (xi 0)), (6, (xi v1)), (17, (xb false)), (7, (xi r.1)), (19, (.d (dl eI p1.1 p1.2))), (20, (xi (p1.1.length : Int))), (21, (xi r.2)), (22, (xb false))]
noncomputable def z9b (p0 : za) (p1 : (SL Int)) (v1 : Int) (r : zt1) : St := ⟨(zPw p0 p1 v1 r), ⟨[(zc 2 (zd p0))], []⟩, []⟩
noncomputable def zFm (p0 : za) (p1 : (SL Int)) (v1 : Int) : ((Int × Int × Int) ⊕ (Int × Int)) → Ex × St := Sum.elim (fun r => (.ret, zig p0 p1 v1 r)) (fun r => ((.exit 0), z9b p0 p1 v1 r))
theorem zAe (k : Nat) (p0 : za) (p1 : (SL Int)) (v1 s1_9 s1_12 : Int) (x : (Int × Int) ⊕ ((Int × Int × Int) ⊕ (Int × Int))) (h : zqh k p0 p1 v1 s1_9 s1_12 = some x) : zN TE 14 (blk TE 14 0) (fun s : (Int × Int) => zEm p0 p1 v1 s.1 s.2) (zFm p0 p1 v1) (s1_9, s1_12) x := by
 unfold zqh at h
 refine zo h (fun h201 g1 => ?_) (fun h201 g1 => ?_)
 ·refine zl g1 (fun v202 h203 g2 => ?_)
  refine zl g2 (fun v204 h205 g3 => ?_)
  refine zo g3 (fun h206 g4 => ?_) (fun h206 g4 => ?_)
  ·exact zqo [(14, 6, 0, .q (xb true)), (14, 7, 0, .q (.d (.pin [(di v202)]))), (14, 8, 5, .q (xi (p0.Letters.1.length : Int))), (14, 8, 7, .c (db v204)), (14, 8, 8, .q (xb true))] [] g4 (ob (o_b h201) (ob (o_ia (e := eI) 1 h203 rfl) (ob (zq zb p0.Letters.1) (ob (zy k v202 (w64 (s1_9 + 1)) (w64 ((p0.Letters.1.length : Int) - 1)) _ h205) (ob (o_b h206) ob0))))) (by kernel_rfl)
  ·exact zqn (v202, (w64 (s1_12 + 1))) [] [(14, 6, 0, .q (xb true)), (14, 7, 0, .q (.d (.pin [(di v202)]))), (14, 8, 5, .q (xi (p0.Letters.1.length : Int))), (14, 8, 7, .c (db v204)), (14, 8, 8, .q (xb false))] [] g4 (ob (o_b h201) (ob (o_ia (e := eI) 1 h203 rfl) (ob (zq zb p0.Letters.1) (ob (zy k v202 (w64 (s1_9 + 1)) (w64 ((p0.Letters.1.length : Int) - 1)) _ h205) (ob (o_b h206) ob0))))) (by kernel_rfl)
 ·exact zqo [(14, 6, 0, .q (xb false))] [] g1 (ob (o_b h201) ob0) (by kernel_rfl)
noncomputable def z9w (p0 : za) (p1 : (SL Int)) (v1 : Int) (v7 : zt1) (s2_17 : Int) : TM := [(0, (.d (.agg (zd p0)))), (1, (.d (dl eI p1.1 p1.2))), (zsp 2), (4, (xb false)), (5, (xi 0)), (6, (xi v1)), (17, (xb false)), (7, (xi v7.1)), (19, (.d (dl eI p1.1 p1.2))), (20, (xi (p1.1.length : Int))), (21, (xi v7.2)), (22, (xb false)), (38, (xb false)), (zsp 10), (zsp 11), (41, (.d (dl eI p1.1 p1.2))), (42, (xi (p1.1.length : Int))), (43, (xi s2_17))]
noncomputable def zIm (p0 : za) (p1 : (SL Int)) (v1 : Int) (v7 : zt1) (v9 : zj) (s2_17 : Int) (s2_27 : zt3) : St := ⟨(z9w p0 p1 v1 v7 s2_17), ⟨[(zc 2 (zd p0)), (zc 10 (zn v9)), (zc 11 (aB 8 s2_27))], []⟩, []⟩
noncomputable def zuw (p0 : za) (p1 : (SL Int)) (v1 : Int) (v7 : zt1) (r : (Int × Int × (Nat → Bool))) : TM := [(0, (.d (.agg (zd p0)))), (1, (.d (dl eI p1.1 p1.2))), (zsp 2), (4, (xb false)), (5, (xi 0)), (6, (xi v1)), (17, (xb false)), (7, (xi v7.1)), (19, (.d (dl eI p1.1 p1.2))), (20, (xi (p1.1.length : Int))), (21, (xi v7.2)), (22, (xb false)), (38, (xb false)), (zsp 10), (zsp 11), (41, (.d (dl eI p1.1 p1.2))), (42, (xi (p1.1.length : Int))), (43, (xi r.1)), (44, (xb true)), (13, (xi r.2.1)), (51, (xb true))]
noncomputable def z8f (p0 : za) (p1 : (SL Int)) (v1 : Int) (v7 : zt1) (v9 : zj) (r : (Int × Int × (Nat → Bool))) : St := ⟨(zuw p0 p1 v1 v7 r), ⟨[(zc 2 (zd p0)), (zc 10 (zn v9)), (zc 11 (aB 8 r.2.2))], []⟩, []⟩
noncomputable def z7w (p0 : za) (p1 : (SL Int)) (v1 : Int) (v7 : zt1) (r : (Int × (Nat → Bool))) : TM := [(0, (.d (.agg (zd p0)))), (1, (.d (dl eI p1.1 p1.2))), (zsp 2), (4, (xb false)), (5, (xi 0)), (6, (xi v1)), (17, (xb false)), (7, (xi v7.1)), (19, (.d (dl eI p1.1 p1.2))), (20, (xi (p1.1.length : Int))), (21, (xi v7.2)), (22, (xb false)), (38, (xb false)), (zsp 10), (zsp 11), (41, (.d (dl eI p1.1 p1.2))), (42, (xi (p1.1.length : Int))), (43, (xi r.1)), (44, (xb false))]
noncomputable def zeg (p0 : za) (p1 : (SL Int)) (v1 : Int) (v7 : zt1) (v9 : zj) (r : (Int × (Nat → Bool))) : St := ⟨(z7w p0 p1 v1 v7 r), ⟨[(zc 2 (zd p0)), (zc 10 (zn v9)), (zc 11 (aB 8 r.2))], []⟩, []⟩
noncomputable def zWm (p0 : za) (p1 : (SL Int)) (v1 : Int) (v7 : zt1) (v9 : zj) : ((Int × Int × (Nat → Bool)) ⊕ (Int × (Nat → Bool))) → Ex × St := Sum.elim (fun r => (.ret, z8f p0 p1 v1 v7 v9 r)) (fun r => ((.exit 2), zeg p0 p1 v1 v7 v9 r))
theorem zmi (k : Nat) (p0 : za) (p1 : (SL Int)) (v1 : Int) (v7 : zt1) (v9 : zj) (s2_17 : Int) (s2_27 : zt3) (x : (Int × (Nat → Bool)) ⊕ ((Int × Int × (Nat → Bool)) ⊕ (Int × (Nat → Bool)))) (h : zlh k p0 p1 v1 v7 v9 s2_17 s2_27 = some x) : zN TE 14 (blk TE 14 2) (fun s : (Int × (Nat → Bool)) => zIm p0 p1 v1 v7 v9 s.1 s.2) (zWm p0 p1 v1 v7 v9) (s2_17, s2_27) x := by
 unfold zlh at h
 refine zo h (fun h301 g1 => ?_) (fun h301 g1 => ?_)
 ·refine zl g1 (fun v302 h303 g2 => ?_)
  refine zl g2 (fun v304 h305 g3 => ?_)
  refine zo g3 (fun h306 g4 => ?_) (fun h306 g4 => ?_)
  ·exact zqo [(14, 17, 0, .q (xb true)), (14, 18, 0, .q (.d (.pin [(di v302)]))), (14, 19, 3, .c (db v304)), (14, 19, 4, .q (xb true))] [] g4 (ob (o_b h301) (ob (o_ia (e := eI) 1 h303 rfl) (ob (z6b k v9 s2_27 v302 _ h305) (ob (o_b h306) ob0)))) (by kernel_rfl)
  ·refine zAb g4 (fun h307 g5 => ?_)
   exact zqn ((w64 (s2_17 + 1)), (upd s2_27 v302.toNat true)) [] [(14, 17, 0, .q (xb true)), (14, 18, 0, .q (.d (.pin [(di v302)]))), (14, 19, 3, .c (db v304)), (14, 19, 4, .q (xb false)), (14, 21, 1, .q (.ptr 0 11 (v302.toNat))), (14, 21, 2, .st ((aB 8 (upd s2_27 v302.toNat true)).map .d))] [] g5 (ob (o_b h301) (ob (o_ia (e := eI) 1 h303 rfl) (ob (z6b k v9 s2_27 v302 _ h305) (ob (o_b h306) (ob (zjn (m := 8) 0 11 0 1 v302.toNat h307 (by omega)) (ob (zUr 8 s2_27 v302.toNat true (by have := h307; simp only [Bool.and_eq_true, decide_eq_true_eq] at this; omega)) ob0)))))) (by kernel_rfl)
 ·exact zqo [(14, 17, 0, .q (xb false))] [] g1 (ob (o_b h301) ob0) (by kernel_rfl)
theorem zab (k : Nat) (p0 : za) (p1 : (SL Int)) (r : zt2) (h : zUi k p0 p1 = some r) : zC TE (ev TE) 14 [(.agg (zd p0)), (dl eI p1.1 p1.2)] = some (zId r) := by
 unfold zUi at h
 refine zl h (fun v1 h2 g1 => ?_)
 refine zo g1 (fun h3 g2 => ?_) (fun h3 g2 => ?_)
 ·exact zt (g := zId) g2 (zqc [(14, 1, 1, .c (di v1)), (14, 2, 1, .q (xb true))] [] (ob (zD k p0 _ h2) (ob (o_b h3) ob0)) (by kernel_rfl))
 ·refine zl g2 (fun v4 h5 g3 => ?_)
  refine zxd g3 (fun v7 hh g4_0 => ?_) (fun v7 hh g4_0 => ?_)
  ·subst hh
   exact zt (g := zId) g4_0 (zqc [(14, 1, 1, .c (di v1)), (14, 2, 1, .q (xb false)), (14, 5, 1, .q (xi (p1.1.length : Int)))] [(14, 0, (.ret, zig p0 p1 v1 v7))] (ob (zD k p0 _ h2) (ob (o_b h3) (ob (zq eI p1.1) (ob (zz (id := 0) (r' := (.ret, zig p0 p1 v1 v7)) (zkc (zAe k p0 p1 v1) k _ _ h5) rfl) ob0)))) (by kernel_rfl))
  ·subst hh
   refine zo g4_0 (fun h8 g5 => ?_) (fun h8 g5 => ?_)
   ·exact zt (g := zId) g5 (zqc [(14, 1, 1, .c (di v1)), (14, 2, 1, .q (xb false)), (14, 5, 1, .q (xi (p1.1.length : Int))), (14, 12, 1, .q (xi (p1.1.length : Int))), (14, 12, 2, .q (xb true))] [(14, 0, (.nor, z9b p0 p1 v1 v7))] (ob (zD k p0 _ h2) (ob (o_b h3) (ob (zq eI p1.1) (ob (zz (id := 0) (r' := (.nor, z9b p0 p1 v1 v7)) (zkc (zAe k p0 p1 v1) k _ _ h5) rfl) (ob (zq eI p1.1) (ob (o_b h8) ob0)))))) (by kernel_rfl))
   ·refine zl g5 (fun v9 h10 g6 => ?_)
    refine zl g6 (fun v11 h12 g7 => ?_)
    refine zxd g7 (fun v14 hh g8_0 => ?_) (fun v14 hh g8_0 => ?_)
    ·subst hh
     exact zt (g := zId) g8_0 (zqc [(14, 1, 1, .c (di v1)), (14, 2, 1, .q (xb false)), (14, 5, 1, .q (xi (p1.1.length : Int))), (14, 12, 1, .q (xi (p1.1.length : Int))), (14, 12, 2, .q (xb false)), (14, 14, 1, .c (.agg (zn v9))), (14, 16, 1, .q (xi (p1.1.length : Int)))] [(14, 0, (.nor, z9b p0 p1 v1 v7)), (14, 2, (.ret, z8f p0 p1 v1 v7 v9 v14))] (ob (zD k p0 _ h2) (ob (o_b h3) (ob (zq eI p1.1) (ob (zz (id := 0) (r' := (.nor, z9b p0 p1 v1 v7)) (zkc (zAe k p0 p1 v1) k _ _ h5) rfl) (ob (zq eI p1.1) (ob (o_b h8) (ob (zmb k p0 _ h10) (ob (zq eI p1.1) (ob (zz (id := 2) (r' := (.ret, z8f p0 p1 v1 v7 v9 v14)) (zkc (zmi k p0 p1 v1 v7 v9) k _ _ h12) rfl) ob0))))))))) (by kernel_rfl))
    ·subst hh
     exact zt (g := zId) g8_0 (zqc [(14, 1, 1, .c (di v1)), (14, 2, 1, .q (xb false)), (14, 5, 1, .q (xi (p1.1.length : Int))), (14, 12, 1, .q (xi (p1.1.length : Int))), (14, 12, 2, .q (xb false)), (14, 14, 1, .c (.agg (zn v9))), (14, 16, 1, .q (xi (p1.1.length : Int)))] [(14, 0, (.nor, z9b p0 p1 v1 v7)), (14, 2, (.nor, zeg p0 p1 v1 v7 v9 v14))] (ob (zD k p0 _ h2) (ob (o_b h3) (ob (zq eI p1.1) (ob (zz (id := 0) (r' := (.nor, z9b p0 p1 v1 v7)) (zkc (zAe k p0 p1 v1) k _ _ h5) rfl) (ob (zq eI p1.1) (ob (o_b h8) (ob (zmb k p0 _ h10) (ob (zq eI p1.1) (ob (zz (id := 2) (r' := (.nor, zeg p0 p1 v1 v7 v9 v14)) (zkc (zmi k p0 p1 v1 v7 v9) k _ _ h12) rfl) ob0))))))))) (by kernel_rfl))
noncomputable def znx (p0 : (SL Int)) (s1_2 s1_5 : Int) : TM := [(0, (.d (dl eI p0.1 p0.2))), (2, (xi 0)), (3, (xi s1_2)), (6, (.d (dl eI p0.1 p0.2))), (7, (xi (p0.1.length : Int))), (8, (xi s1_5))]
noncomputable def z8m (p0 : (SL Int)) (s1_2 s1_5 : Int) : St := ⟨(znx p0 s1_2 s1_5), ⟨[], []⟩, []⟩
noncomputable def zhx (p0 : (SL Int)) (r : zt1) : TM := [(0, (.d (dl eI p0.1 p0.2))), (2, (xi 0)), (3, (xi r.1)), (6, (.d (dl eI p0.1 p0.2))), (7, (xi (p0.1.length : Int))), (8, (xi r.2)), (9, (xb false))]
noncomputable def zsg (p0 : (SL Int)) (r : zt1) : St := ⟨(zhx p0 r), ⟨[], []⟩, []⟩
noncomputable def z2m (p0 : (SL Int)) : (Int × Int) → Ex × St := fun r => ((.exit 0), zsg p0 r)
theorem zNm (k : Nat) (p0 : (SL Int)) (s1_2 s1_5 : Int) (x : (Int × Int) ⊕ (Int × Int)) (h : zHe k p0 s1_2 s1_5 = some x) : zN TE 61 (blk TE 61 0) (fun s : (Int × Int) => z8m p0 s.1 s.2) (z2m p0) (s1_2, s1_5) x := by
 unfold zHe at h
 refine zo h (fun h201 g1 => ?_) (fun h201 g1 => ?_)
 ·refine zl g1 (fun v202 h203 g2 => ?_)
  refine zl g2 (fun v204 h205 g3 => ?_)
  exact zqn (v204, (w64 (s1_5 + 1))) [] [(61, 3, 0, .q (xb true)), (61, 4, 0, .q (.d (.pin [(di v202)]))), (61, 5, 4, .c (di v204))] [] g3 (ob (o_b h201) (ob (o_ia (e := eI) 1 h203 rfl) (ob (zdd k s1_2 ([(w64 (v202 + 1))], .ex) _ h205) ob0))) (by kernel_rfl)
 ·exact zqo [(61, 3, 0, .q (xb false))] [] g1 (ob (o_b h201) ob0) (by kernel_rfl)
theorem zS (k : Nat) (p0 : (SL Int)) (r : Int) (h : zBb k p0 = some r) : zC TE (ev TE) 61 [(dl eI p0.1 p0.2)] = some (zUk r) := by
 unfold zBb at h
 refine zl h (fun v1 h2 g1 => ?_)
 exact zt (g := zUk) g1 (zqc [(61, 2, 1, .q (xi (p0.1.length : Int)))] [(61, 0, (.nor, zsg p0 v1))] (ob (zq eI p0.1) (ob (zz (id := 0) (r' := (.nor, zsg p0 v1)) (zkc (zNm k p0) k _ _ h2) rfl) ob0)) (by kernel_rfl))
noncomputable def zlx (p0 : zj) (p1 : (SL Int)) (p2 p3 s1_11 v402 : Int) (r : Bool) : TM := [(0, (.d (.agg (zn p0)))), (1, (.d (dl eI p1.1 p1.2))), (2, (xi p2)), (3, (xi p3)), (zsp 4), (8, (xb false)), (12, (.d (dl eI p1.1 p1.2))), (13, (xi (p1.1.length : Int))), (14, (xi s1_11)), (15, (xb true)), (9, (xi s1_11)), (10, (xi v402)), (11, (xb r))]
noncomputable def zuc (p0 : zj) (p1 : (SL Int)) (p2 p3 s1_11 v402 : Int) (r : Bool) : St := ⟨(zlx p0 p1 p2 p3 s1_11 v402 r), ⟨[(zc 4 (zn p0))], []⟩, []⟩
noncomputable def zyt (p0 : zj) (p1 : (SL Int)) (p2 p3 s1_11 v402 : Int) : TM := [(0, (.d (.agg (zn p0)))), (1, (.d (dl eI p1.1 p1.2))), (2, (xi p2)), (3, (xi p3)), (zsp 4), (8, (xb false)), (12, (.d (dl eI p1.1 p1.2))), (13, (xi (p1.1.length : Int))), (14, (xi s1_11)), (15, (xb true)), (9, (xi s1_11)), (10, (xi v402))]
theorem zGg (k : Nat) (p0 : zj) (p1 : (SL Int)) (p2 p3 s1_11 v402 : Int) (r : Bool) (h : zPd k p0 p1 p2 p3 s1_11 v402 = some r) : ev TE 85 (rgn TE 85 4) ⟨(zyt p0 p1 p2 p3 s1_11 v402), ⟨[(zc 4 (zn p0))], []⟩, []⟩ = some (.nor, zuc p0 p1 p2 p3 s1_11 v402 r) := by
 unfold zPd at h
 refine zl h (fun v501 h502 g1 => ?_)
 refine zo g1 (fun h503 g2 => ?_) (fun h503 g2 => ?_)
 ·refine zl g2 (fun v504 h505 g3 => ?_)
  refine zl g3 (fun v506 h507 g4 => ?_)
  exact zu (g := fun r => (Ex.nor, zuc p0 p1 p2 p3 s1_11 v402 r)) g4 (zqe [(85, 4, 4, .q (.d (.pin (zb v501)))), (85, 4, 8, .q (xb true)), (85, 4, 13, .q (.d (.pin (zb v504)))), (85, 4, 20, .q (.d (.pin (zb v506))))] [] (ob (o_ia (e := zb) 6 h502 rfl) (ob (o_b h503) (ob (o_ia (e := zb) 6 h505 rfl) (ob (o_ia (e := zb) 6 h507 rfl) ob0)))) (by kernel_rfl))
 ·exact zu (g := fun r => (Ex.nor, zuc p0 p1 p2 p3 s1_11 v402 r)) g2 (zqe [(85, 4, 4, .q (.d (.pin (zb v501)))), (85, 4, 8, .q (xb false))] [] (ob (o_ia (e := zb) 6 h502 rfl) (ob (o_b h503) ob0)) (by kernel_rfl))
noncomputable def zBc (p0 : zj) (p1 : (SL Int)) (p2 p3 s1_11 v402 : Int) (v404 r : Bool) : St := ⟨(zyt p0 p1 p2 p3 s1_11 v402 ++ [(11, (xb v404)), (49, (xb r))]), ⟨[(zc 4 (zn p0))], []⟩, []⟩
theorem zBg (k : Nat) (p0 : zj) (p1 : (SL Int)) (p2 p3 s1_11 v402 : Int) (v404 r : Bool) (h : zQd k p0 p1 p2 p3 s1_11 v402 v404 = some r) : ev TE 85 (rgn TE 85 5) ⟨(zyt p0 p1 p2 p3 s1_11 v402 ++ [(11, (xb v404))]), ⟨[(zc 4 (zn p0))], []⟩, []⟩ = some (.nor, zBc p0 p1 p2 p3 s1_11 v402 v404 r) := by
 unfold zQd at h
 refine zo h (fun h601 g1 => ?_) (fun h601 g1 => ?_)
 ·exact zu (g := fun r => (Ex.nor, zBc p0 p1 p2 p3 s1_11 v402 v404 r)) g1 (zqe [(85, 5, 1, .q (xb true))] [] (ob (o_b h601) ob0) (by kernel_rfl))
 ·exact zu (g := fun r => (Ex.nor, zBc p0 p1 p2 p3 s1_11 v402 v404 r)) g1 (zqe [(85, 5, 1, .q (xb false))] [] (ob (o_b h601) ob0) (by kernel_rfl))
noncomputable def zCw (p0 : zj) (p1 : (SL Int)) (p2 p3 s1_11 : Int) : TM := [(0, (.d (.agg (zn p0)))), (1, (.d (dl eI p1.1 p1.2))), (2, (xi p2)), (3, (xi p3)), (zsp 4), (8, (xb false)), (12, (.d (dl eI p1.1 p1.2))), (13, (xi (p1.1.length : Int))), (14, (xi s1_11))]
noncomputable def zbk (p0 : zj) (p1 : (SL Int)) (p2 p3 s1_11 : Int) : St := ⟨(zCw p0 p1 p2 p3 s1_11), ⟨[(zc 4 (zn p0))], []⟩, []⟩
noncomputable def zsw (p0 : zj) (p1 : (SL Int)) (p2 p3 : Int) (r : (Int × Int × Bool)) : TM := [(0, (.d (.agg (zn p0)))), (1, (.d (dl eI p1.1 p1.2))), (2, (xi p2)), (3, (xi p3)), (zsp 4), (8, (xb false)), (12, (.d (dl eI p1.1 p1.2))), (13, (xi (p1.1.length : Int))), (14, (xi r.1)), (15, (xb true)), (9, (xi r.1)), (10, (xi r.2.1)), (11, (xb r.2.2)), (49, (xb true))]
noncomputable def zCe (p0 : zj) (p1 : (SL Int)) (p2 p3 : Int) (r : (Int × Int × Bool)) : St := ⟨(zsw p0 p1 p2 p3 r), ⟨[(zc 4 (zn p0))], []⟩, []⟩
noncomputable def z2w (p0 : zj) (p1 : (SL Int)) (p2 p3 r : Int) : TM := [(0, (.d (.agg (zn p0)))), (1, (.d (dl eI p1.1 p1.2))), (2, (xi p2)), (3, (xi p3)), (zsp 4), (8, (xb false)), (12, (.d (dl eI p1.1 p1.2))), (13, (xi (p1.1.length : Int))), (14, (xi r)), (15, (xb false))]
noncomputable def zre (p0 : zj) (p1 : (SL Int)) (p2 p3 r : Int) : St := ⟨(z2w p0 p1 p2 p3 r), ⟨[(zc 4 (zn p0))], []⟩, []⟩
noncomputable def zDk (p0 : zj) (p1 : (SL Int)) (p2 p3 : Int) : ((Int × Int × Bool) ⊕ Int) → Ex × St := Sum.elim (fun r => (.ret, zCe p0 p1 p2 p3 r)) (fun r => ((.exit 0), zre p0 p1 p2 p3 r))
theorem zEg (k : Nat) (p0 : zj) (p1 : (SL Int)) (p2 p3 s1_11 : Int) (x : Int ⊕ ((Int × Int × Bool) ⊕ Int)) (h : zUc k p0 p1 p2 p3 s1_11 = some x) : zN TE 85 (blk TE 85 0) (fun s : Int => zbk p0 p1 p2 p3 s) (zDk p0 p1 p2 p3) s1_11 x := by
 unfold zUc at h
 refine zo h (fun h401 g1 => ?_) (fun h401 g1 => ?_)
 ·refine zl g1 (fun v402 h403 g2 => ?_)
  refine zl g2 (fun v404 h405 g3 => ?_)
  refine zl g3 (fun v406 h407 g4 => ?_)
  refine zo g4 (fun h408 g5 => ?_) (fun h408 g5 => ?_)
  ·subst h408
   exact zqo [(85, 2, 0, .q (xb true)), (85, 3, 1, .q (.d (.pin [(di v402)])))] [(85, 1000004, (.nor, zuc p0 p1 p2 p3 s1_11 v402 v404)), (85, 1000005, (.nor, zBc p0 p1 p2 p3 s1_11 v402 v404 true))] g5 (ob (o_b h401) (ob (o_ia (e := eI) 1 h403 rfl) (ob (zGg k p0 p1 p2 p3 s1_11 v402 _ h405) (ob (zBg k p0 p1 p2 p3 s1_11 v402 v404 _ h407) ob0)))) (by kernel_rfl)
  ·subst h408
   exact zqn (w64 (s1_11 + 1)) [] [(85, 2, 0, .q (xb true)), (85, 3, 1, .q (.d (.pin [(di v402)])))] [(85, 1000004, (.nor, zuc p0 p1 p2 p3 s1_11 v402 v404)), (85, 1000005, (.nor, zBc p0 p1 p2 p3 s1_11 v402 v404 false))] g5 (ob (o_b h401) (ob (o_ia (e := eI) 1 h403 rfl) (ob (zGg k p0 p1 p2 p3 s1_11 v402 _ h405) (ob (zBg k p0 p1 p2 p3 s1_11 v402 v404 _ h407) ob0)))) (by kernel_rfl)
 ·exact zqo [(85, 2, 0, .q (xb false))] [] g1 (ob (o_b h401) ob0) (by kernel_rfl)
theorem zZ (k : Nat) (p0 : zj) (p1 : (SL Int)) (p2 p3 : Int) (r : Bool) (h : zfb k p0 p1 p2 p3 = some r) : zC TE (ev TE) 85 [(.agg (zn p0)), (dl eI p1.1 p1.2), (di p2), (di p3)] = some (zIf r) := by
 unfold zfb at h
 refine zl h (fun v1 h2 g1 => ?_)
 refine zxd g1 (fun v4 hh g2_0 => ?_) (fun v4 hh g2_0 => ?_)
 ·subst hh
  exact zt (g := zIf) g2_0 (zqc [(85, 1, 1, .q (xi (p1.1.length : Int)))] [(85, 0, (.ret, zCe p0 p1 p2 p3 v4))] (ob (zq eI p1.1) (ob (zz (id := 0) (r' := (.ret, zCe p0 p1 p2 p3 v4)) (zge (zEg k p0 p1 p2 p3) k _ _ h2) rfl) ob0)) (by kernel_rfl))
 ·subst hh
  exact zt (g := zIf) g2_0 (zqc [(85, 1, 1, .q (xi (p1.1.length : Int)))] [(85, 0, (.nor, zre p0 p1 p2 p3 v4))] (ob (zq eI p1.1) (ob (zz (id := 0) (r' := (.nor, zre p0 p1 p2 p3 v4)) (zge (zEg k p0 p1 p2 p3) k _ _ h2) rfl) ob0)) (by kernel_rfl))
noncomputable def ztx (p0 : (SL Int)) (p1 s1_4 : Int) : TM := [(0, (.d (dl eI p0.1 p0.2))), (1, (xi p1)), (zsp 4), (zsp 5), (8, (.d (dl eI p0.1 p0.2))), (9, (xi (p0.1.length : Int))), (10, (xi s1_4))]
noncomputable def zQm (p0 : (SL Int)) (p1 s1_4 : Int) (s1_6 : zt3) : St := ⟨(ztx p0 p1 s1_4), ⟨[(zc 4 (aB 8 (fun _ => false))), (zc 5 (aB 8 s1_6))], []⟩, []⟩
noncomputable def zpw (p0 : (SL Int)) (p1 : Int) (r : (Int × (Nat → Bool))) : TM := [(0, (.d (dl eI p0.1 p0.2))), (1, (xi p1)), (zsp 4), (zsp 5), (8, (.d (dl eI p0.1 p0.2))), (9, (xi (p0.1.length : Int))), (10, (xi r.1)), (11, (xb false))]
noncomputable def zfg (p0 : (SL Int)) (p1 : Int) (r : (Int × (Nat → Bool))) : St := ⟨(zpw p0 p1 r), ⟨[(zc 4 (aB 8 (fun _ => false))), (zc 5 (aB 8 r.2))], []⟩, []⟩
noncomputable def zDm (p0 : (SL Int)) (p1 : Int) : (Int × (Nat → Bool)) → Ex × St := fun r => ((.exit 0), zfg p0 p1 r)
theorem zsm (k : Nat) (p0 : (SL Int)) (p1 s1_4 : Int) (s1_6 : zt3) (x : (Int × (Nat → Bool)) ⊕ (Int × (Nat → Bool))) (h : zhe k p0 p1 s1_4 s1_6 = some x) : zN TE 86 (blk TE 86 0) (fun s : (Int × (Nat → Bool)) => zQm p0 p1 s.1 s.2) (zDm p0 p1) (s1_4, s1_6) x := by
 unfold zhe at h
 refine zo h (fun h201 g1 => ?_) (fun h201 g1 => ?_)
 ·refine zl g1 (fun v202 h203 g2 => ?_)
  refine zAb g2 (fun h204 g3 => ?_)
  exact zqn ((w64 (s1_4 + 1)), (upd s1_6 s1_4.toNat (v202 == p1))) [] [(86, 3, 0, .q (xb true)), (86, 4, 1, .q (.d (.pin [(di v202)]))), (86, 5, 4, .q (.ptr 0 5 (s1_4.toNat))), (86, 5, 5, .st ((aB 8 (upd s1_6 s1_4.toNat (v202 == p1))).map .d))] [] g3 (ob (o_b h201) (ob (o_ia (e := eI) 1 h203 rfl) (ob (zjn (m := 8) 0 5 0 1 s1_4.toNat h204 (by omega)) (ob (zUr 8 s1_6 s1_4.toNat (v202 == p1) (by have := h204; simp only [Bool.and_eq_true, decide_eq_true_eq] at this; omega)) ob0)))) (by kernel_rfl)
 ·exact zqo [(86, 3, 0, .q (xb false))] [] g1 (ob (o_b h201) ob0) (by kernel_rfl)
theorem zie (k : Nat) (p0 : (SL Int)) (p1 : Int) (r : zt3) (h : zec k p0 p1 = some r) : zC TE (ev TE) 86 [(dl eI p0.1 p0.2), (di p1)] = some (zlk r) := by
 unfold zec at h
 refine zl h (fun v1 h2 g1 => ?_)
 exact zt (g := zlk) g1 (zqc [(86, 2, 1, .q (xi (p0.1.length : Int)))] [(86, 0, (.nor, zfg p0 p1 v1))] (ob (zq eI p0.1) (ob (zz (id := 0) (r' := (.nor, zfg p0 p1 v1)) (zkc (zsm k p0 p1) k _ _ h2) rfl) ob0)) (by kernel_rfl))
noncomputable def zlw (p0 : zj) (p1 : (SL Int)) (s1_10 v302 : Int) (r : Bool) : TM := [(0, (.d (.agg (zn p0)))), (1, (.d (dl eI p1.1 p1.2))), (zsp 2), (4, (xb false)), (14, (xb false)), (15, (.d (dl eI p1.1 p1.2))), (16, (xi (p1.1.length : Int))), (17, (xi s1_10)), (18, (xb true)), (5, (xi s1_10)), (6, (xi v302)), (7, (.d (dl eI (p1.1.take s1_10.toNat) (pcap p1.2 (s1_10 == (p1.1.length : Int)))))), (51, (xb r))]
noncomputable def zCb (p0 : zj) (p1 : (SL Int)) (s1_10 v302 : Int) (r : Bool) : St := ⟨(zlw p0 p1 s1_10 v302 r), ⟨[(zc 2 (zn p0))], []⟩, []⟩
noncomputable def zKw (p0 : zj) (p1 : (SL Int)) (s1_10 v302 : Int) : TM := [(0, (.d (.agg (zn p0)))), (1, (.d (dl eI p1.1 p1.2))), (zsp 2), (4, (xb false)), (14, (xb false)), (15, (.d (dl eI p1.1 p1.2))), (16, (xi (p1.1.length : Int))), (17, (xi s1_10)), (18, (xb true)), (5, (xi s1_10)), (6, (xi v302)), (7, (.d (dl eI (p1.1.take s1_10.toNat) (pcap p1.2 (s1_10 == (p1.1.length : Int))))))]
theorem zZf (k : Nat) (p0 : zj) (p1 : (SL Int)) (s1_10 v302 : Int) (r : Bool) (h : zKe k p0 p1 s1_10 v302 = some r) : ev TE 57 (rgn TE 57 7) ⟨(zKw p0 p1 s1_10 v302), ⟨[(zc 2 (zn p0))], []⟩, []⟩ = some (.nor, zCb p0 p1 s1_10 v302 r) := by
 unfold zKe at h
 refine zl h (fun v401 h402 g1 => ?_)
 refine zl g1 (fun v403 h404 g2 => ?_)
 refine zo g2 (fun h405 g3 => ?_) (fun h405 g3 => ?_)
 ·exact zu (g := fun r => (Ex.nor, zCb p0 p1 s1_10 v302 r)) g3 (zqe [(57, 7, 6, .c (di v401)), (57, 7, 8, .c (db v403)), (57, 7, 10, .q (xb true))] [] (ob (zS k ((p1.1.take s1_10.toNat), (pcap p1.2 (s1_10 == (p1.1.length : Int)))) _ h402) (ob (zy k v302 0 (if v401 < (w64 (p0.NamesakeBook.Most - 1)) then v401 else (w64 (p0.NamesakeBook.Most - 1))) _ h404) (ob (o_b h405) ob0))) (by kernel_rfl))
 ·refine zl g3 (fun v406 h407 g4 => ?_)
  refine zo g4 (fun h408 g5 => ?_) (fun h408 g5 => ?_)
  ·exact zu (g := fun r => (Ex.nor, zCb p0 p1 s1_10 v302 r)) g5 (zqe [(57, 7, 6, .c (di v401)), (57, 7, 8, .c (db v403)), (57, 7, 10, .q (xb false)), (57, 7, 15, .c (db v406)), (57, 7, 18, .q (xb true))] [] (ob (zS k ((p1.1.take s1_10.toNat), (pcap p1.2 (s1_10 == (p1.1.length : Int)))) _ h402) (ob (zy k v302 0 (if v401 < (w64 (p0.NamesakeBook.Most - 1)) then v401 else (w64 (p0.NamesakeBook.Most - 1))) _ h404) (ob (o_b h405) (ob (zZ k p0 ((p1.1.take s1_10.toNat), (pcap p1.2 (s1_10 == (p1.1.length : Int)))) s1_10 v302 _ h407) (ob (o_b h408) ob0))))) (by kernel_rfl))
  ·refine zl g5 (fun v409 h410 g6 => ?_)
   refine zl g6 (fun v411 h412 g7 => ?_)
   exact zu (g := fun r => (Ex.nor, zCb p0 p1 s1_10 v302 r)) g7 (zqe [(57, 7, 6, .c (di v401)), (57, 7, 8, .c (db v403)), (57, 7, 10, .q (xb false)), (57, 7, 15, .c (db v406)), (57, 7, 18, .q (xb false)), (57, 7, 22, .c (.agg (aB 8 v409))), (57, 7, 24, .c (db v411))] [] (ob (zS k ((p1.1.take s1_10.toNat), (pcap p1.2 (s1_10 == (p1.1.length : Int)))) _ h402) (ob (zy k v302 0 (if v401 < (w64 (p0.NamesakeBook.Most - 1)) then v401 else (w64 (p0.NamesakeBook.Most - 1))) _ h404) (ob (o_b h405) (ob (zZ k p0 ((p1.1.take s1_10.toNat), (pcap p1.2 (s1_10 == (p1.1.length : Int)))) s1_10 v302 _ h407) (ob (o_b h408) (ob (zie k ((p1.1.take s1_10.toNat), (pcap p1.2 (s1_10 == (p1.1.length : Int)))) v302 _ h410) (ob (z6b k p0 v409 s1_10 _ h412) ob0))))))) (by kernel_rfl))
noncomputable def zsx (p0 : zj) (p1 : (SL Int)) (s1_10 : Int) : TM := [(0, (.d (.agg (zn p0)))), (1, (.d (dl eI p1.1 p1.2))), (zsp 2), (4, (xb false)), (14, (xb false)), (15, (.d (dl eI p1.1 p1.2))), (16, (xi (p1.1.length : Int))), (17, (xi s1_10))]
noncomputable def zCj (p0 : zj) (p1 : (SL Int)) (s1_10 : Int) : St := ⟨(zsx p0 p1 s1_10), ⟨[(zc 2 (zn p0))], []⟩, []⟩
noncomputable def z1w (p0 : zj) (p1 : (SL Int)) (r : (Int × Int × (SL Int))) : TM := [(0, (.d (.agg (zn p0)))), (1, (.d (dl eI p1.1 p1.2))), (zsp 2), (4, (xb false)), (14, (xb false)), (15, (.d (dl eI p1.1 p1.2))), (16, (xi (p1.1.length : Int))), (17, (xi r.1)), (18, (xb true)), (5, (xi r.1)), (6, (xi r.2.1)), (7, (.d (dl eI r.2.2.1 r.2.2.2))), (51, (xb true))]
noncomputable def zUd (p0 : zj) (p1 : (SL Int)) (r : (Int × Int × (SL Int))) : St := ⟨(z1w p0 p1 r), ⟨[(zc 2 (zn p0))], []⟩, []⟩
noncomputable def zgx (p0 : zj) (p1 : (SL Int)) (r : Int) : TM := [(0, (.d (.agg (zn p0)))), (1, (.d (dl eI p1.1 p1.2))), (zsp 2), (4, (xb false)), (14, (xb false)), (15, (.d (dl eI p1.1 p1.2))), (16, (xi (p1.1.length : Int))), (17, (xi r)), (18, (xb false))]
noncomputable def zYd (p0 : zj) (p1 : (SL Int)) (r : Int) : St := ⟨(zgx p0 p1 r), ⟨[(zc 2 (zn p0))], []⟩, []⟩
noncomputable def zAj (p0 : zj) (p1 : (SL Int)) : ((Int × Int × (SL Int)) ⊕ Int) → Ex × St := Sum.elim (fun r => (.ret, zUd p0 p1 r)) (fun r => ((.exit 0), zYd p0 p1 r))
theorem z4f (k : Nat) (p0 : zj) (p1 : (SL Int)) (s1_10 : Int) (x : Int ⊕ ((Int × Int × (SL Int)) ⊕ Int)) (h : zQe k p0 p1 s1_10 = some x) : zN TE 57 (blk TE 57 0) (fun s : Int => zCj p0 p1 s) (zAj p0 p1) s1_10 x := by
 unfold zQe at h
 refine zo h (fun h301 g1 => ?_) (fun h301 g1 => ?_)
 ·refine zl g1 (fun v302 h303 g2 => ?_)
  refine zAb g2 (fun h304 g3 => ?_)
  refine zl g3 (fun v305 h306 g4 => ?_)
  refine zo g4 (fun h307 g5 => ?_) (fun h307 g5 => ?_)
  ·subst h307
   exact zqo [(57, 4, 0, .q (xb true)), (57, 5, 1, .q (.d (.pin [(di v302)]))), (57, 6, 2, .q (.d (dl eI (p1.1.take s1_10.toNat) (pcap p1.2 (s1_10 == (p1.1.length : Int))))))] [(57, 1000007, (.nor, zCb p0 p1 s1_10 v302 true))] g5 (ob (o_b h301) (ob (o_ia (e := eI) 1 h303 rfl) (ob (zjq (e := eI) (z := 1) (n := s1_10) p1.1 p1.2 h304) (ob (zZf k p0 p1 s1_10 v302 _ h306) ob0)))) (by kernel_rfl)
  ·subst h307
   exact zqn (w64 (s1_10 + 1)) [] [(57, 4, 0, .q (xb true)), (57, 5, 1, .q (.d (.pin [(di v302)]))), (57, 6, 2, .q (.d (dl eI (p1.1.take s1_10.toNat) (pcap p1.2 (s1_10 == (p1.1.length : Int))))))] [(57, 1000007, (.nor, zCb p0 p1 s1_10 v302 false))] g5 (ob (o_b h301) (ob (o_ia (e := eI) 1 h303 rfl) (ob (zjq (e := eI) (z := 1) (n := s1_10) p1.1 p1.2 h304) (ob (zZf k p0 p1 s1_10 v302 _ h306) ob0)))) (by kernel_rfl)
 ·exact zqo [(57, 4, 0, .q (xb false))] [] g1 (ob (o_b h301) ob0) (by kernel_rfl)
theorem zHk (k : Nat) (p0 : zj) (p1 : (SL Int)) (r : Bool) (h : zSf k p0 p1 = some r) : zC TE (ev TE) 57 [(.agg (zn p0)), (dl eI p1.1 p1.2)] = some (zsd r) := by
 unfold zSf at h
 refine zo h (fun h1 g1 => ?_) (fun h1 g1 => ?_)
 ·exact zt (g := zsd) g1 (zqc [(57, 1, 1, .q (xi (p1.1.length : Int))), (57, 1, 5, .q (xi (p0.NamesakeBook.Letters.1.length : Int))), (57, 1, 6, .q (xb true))] [] (ob (zq eI p1.1) (ob (zq zb p0.NamesakeBook.Letters.1) (ob (o_b h1) ob0))) (by kernel_rfl))
 ·refine zl g1 (fun v2 h3 g2 => ?_)
  refine zxd g2 (fun v5 hh g3_0 => ?_) (fun v5 hh g3_0 => ?_)
  ·subst hh
   exact zt (g := zsd) g3_0 (zqc [(57, 1, 1, .q (xi (p1.1.length : Int))), (57, 1, 5, .q (xi (p0.NamesakeBook.Letters.1.length : Int))), (57, 1, 6, .q (xb false)), (57, 3, 1, .q (xi (p1.1.length : Int)))] [(57, 0, (.ret, zUd p0 p1 v5))] (ob (zq eI p1.1) (ob (zq zb p0.NamesakeBook.Letters.1) (ob (o_b h1) (ob (zq eI p1.1) (ob (zz (id := 0) (r' := (.ret, zUd p0 p1 v5)) (zge (z4f k p0 p1) k _ _ h3) rfl) ob0))))) (by kernel_rfl))
  ·subst hh
   exact zt (g := zsd) g3_0 (zqc [(57, 1, 1, .q (xi (p1.1.length : Int))), (57, 1, 5, .q (xi (p0.NamesakeBook.Letters.1.length : Int))), (57, 1, 6, .q (xb false)), (57, 3, 1, .q (xi (p1.1.length : Int)))] [(57, 0, (.nor, zYd p0 p1 v5))] (ob (zq eI p1.1) (ob (zq zb p0.NamesakeBook.Letters.1) (ob (o_b h1) (ob (zq eI p1.1) (ob (zz (id := 0) (r' := (.nor, zYd p0 p1 v5)) (zge (z4f k p0 p1) k _ _ h3) rfl) ob0))))) (by kernel_rfl))
theorem zX (k : Nat) (p0 : za) (p1 : (SL Int)) (r : zt2) (h : zSh k p0 p1 = some r) : zC TE (ev TE) 18 [(.agg (zd p0)), (dl eI p1.1 p1.2)] = some (zYg r) := by
 unfold zSh at h
 refine zl h (fun v1 h2 g1 => ?_)
 refine zo g1 (fun h3 g2 => ?_) (fun h3 g2 => ?_)
 ·exact zt (g := zYg) g2 (zqc [(18, 1, 1, .c (di v1)), (18, 2, 1, .q (xb true))] [] (ob (zD k p0 _ h2) (ob (o_b h3) ob0)) (by kernel_rfl))
 ·refine zl g2 (fun v4 h5 g3 => ?_)
  refine zl g3 (fun v6 h7 g4 => ?_)
  exact zt (g := zYg) g4 (zqc [(18, 1, 1, .c (di v1)), (18, 2, 1, .q (xb false)), (18, 4, 1, .c (.agg (zn v4))), (18, 5, 2, .c (db v6))] [] (ob (zD k p0 _ h2) (ob (o_b h3) (ob (zmb k p0 _ h5) (ob (zHk k v4 p1 _ h7) ob0)))) (by kernel_rfl))
theorem z3b (k : Nat) (p0 : zj) (r : zt0) (h : zDb k p0 = some r) : zC TE (ev TE) 59 [(.agg (zn p0))] = some (zBh r) := by
 unfold zDb at h
 exact zt (g := zBh) h (zqc [] [] ob0 (by kernel_rfl))
noncomputable def zSo (p0 : za) (v1 : Int) (v6 : zt0) : TM := [(0, (.d (.agg (zd p0)))), (zsp 1), (2, (xi 0)), (3, (xi 0)), (4, (xi v1)), (9, (xb false)), (zsp 5), (13, (.d (.fn 88 [] [(.pin [(dl zb v6.1.1 v6.1.2), (dl (eL eI) v6.2.1.1 v6.2.1.2), (dl (aI 2) v6.2.2.1.1 v6.2.2.1.2), (di v6.2.2.2.1), (.mp (em (fun k => D.agg (zh k)) (fun b => D.b b) v6.2.2.2.2))])])))]
noncomputable def zTe (p0 : za) (v1 : Int) (v6 : zt0) : Int → D × FS × List LRec := fun r => ((db true), ⟨[(2, (.cells [(.yld 0)])), (3, (.cells [(.fn 89 [] [(.d (.pin [(dl zb v6.1.1 v6.1.2), (dl (eL eI) v6.2.1.1 v6.2.1.2), (dl (aI 2) v6.2.2.1.1 v6.2.2.1.2), (di v6.2.2.2.1), (.mp (em (fun k => D.agg (zh k)) (fun b => D.b b) v6.2.2.2.2))])), (.ptr 1 2 0), (.ptr 1 3 0)])]))], [[(zc 1 (zd p0)), (5, (.cells [(xi r)]))]]⟩, [⟨(zSo p0 v1 v6), 0, rfP (blk TE 20 0), rfA (blk TE 20 0), rfB (blk TE 20 0), 20, .rdy⟩])
noncomputable def zUe (p0 : za) (v1 : Int) (v6 : zt0) (f : Fr) (fs : List Fr) : Int → D × FS × List LRec := fun r => ((db true), ⟨f, [[(zc 1 (zd p0)), (5, (.cells [(xi r)]))], [(2, (.cells [(.yld 0)])), (3, (.cells [(.fn 89 [] [(.d (.pin [(dl zb v6.1.1 v6.1.2), (dl (eL eI) v6.2.1.1 v6.2.1.2), (dl (aI 2) v6.2.2.1.1 v6.2.2.1.2), (di v6.2.2.2.1), (.mp (em (fun k => D.agg (zh k)) (fun b => D.b b) v6.2.2.2.2))])), (.ptr 1 2 0), (.ptr 1 3 0)])]))]] ++ fs⟩, [⟨(zSo p0 v1 v6), 0, rfP (blk TE 20 0), rfA (blk TE 20 0), rfB (blk TE 20 0), 20, .rdy⟩])
noncomputable def zTd (p0 : za) (v1 : Int) (v6 : zt0) (rc : zt11) (fs : List Fr) : Prop := ∀ (f : Fr) (u1_9 : Int) (r0 : (SL Int)) (x : Int), rc u1_9 r0 = some x → zHb TE (ev TE) 89 [(.d (dl eI r0.1 r0.2)), (.d (.pin [(dl zb v6.1.1 v6.1.2), (dl (eL eI) v6.2.1.1 v6.2.1.2), (dl (aI 2) v6.2.2.1.1 v6.2.2.1.2), (di v6.2.2.2.1), (.mp (em (fun k => D.agg (zh k)) (fun b => D.b b) v6.2.2.2.2))])), (.ptr 1 2 0), (.ptr 1 3 0)] ⟨f, ([[(zc 1 (zd p0)), (5, (.cells [(xi u1_9)]))], [(2, (.cells [(.yld 0)])), (3, (.cells [(.fn 89 [] [(.d (.pin [(dl zb v6.1.1 v6.1.2), (dl (eL eI) v6.2.1.1 v6.2.1.2), (dl (aI 2) v6.2.2.1.1 v6.2.2.1.2), (di v6.2.2.2.1), (.mp (em (fun k => D.agg (zh k)) (fun b => D.b b) v6.2.2.2.2))])), (.ptr 1 2 0), (.ptr 1 3 0)])]))]] ++ fs)⟩ [⟨(zSo p0 v1 v6), 0, rfP (blk TE 20 0), rfA (blk TE 20 0), rfB (blk TE 20 0), 20, .rdy⟩] = some (zUe p0 v1 v6 f fs x)
noncomputable def zWw (r0 : (SL Int)) (v6 : zt0) (v202 s2_10 : Int) (r : Bool) : TM := [(0, (.d (dl eI r0.1 r0.2))), (1, (.d (.pin [(dl zb v6.1.1 v6.1.2), (dl (eL eI) v6.2.1.1 v6.2.1.2), (dl (aI 2) v6.2.2.1.1 v6.2.2.1.2), (di v6.2.2.2.1), (.mp (em (fun k => D.agg (zh k)) (fun b => D.b b) v6.2.2.2.2))]))), (2, (.ptr 1 2 0)), (3, (.ptr 1 3 0)), (5, (xb false)), (6, (xi (r0.1.length : Int))), (15, (xb false)), (25, (xi (if (w64 (v202 + 1)) < v6.2.2.2.1 then (w64 (v202 + 1)) else v6.2.2.2.1))), (26, (xi s2_10)), (27, (xb true)), (7, (xi s2_10)), (43, (xb r))]
noncomputable def z2d (p0 : za) (v1 : Int) (v6 : zt0) (r0 : (SL Int)) (v202 s2_10 s2_15 : Int) (rc : zt11) (fs : List Fr) (r : Bool) : St := ⟨(zWw r0 v6 v202 s2_10 r), ⟨[], ([[(zc 1 (zd p0)), (5, (.cells [(xi s2_15)]))], [(2, (.cells [(.yld 0)])), (3, (.cells [(.fn 89 [] [(.d (.pin [(dl zb v6.1.1 v6.1.2), (dl (eL eI) v6.2.1.1 v6.2.1.2), (dl (aI 2) v6.2.2.1.1 v6.2.2.1.2), (di v6.2.2.2.1), (.mp (em (fun k => D.agg (zh k)) (fun b => D.b b) v6.2.2.2.2))])), (.ptr 1 2 0), (.ptr 1 3 0)])]))]] ++ fs)⟩, [⟨(zSo p0 v1 v6), 0, rfP (blk TE 20 0), rfA (blk TE 20 0), rfB (blk TE 20 0), 20, .rdy⟩]⟩
noncomputable def zvw (r0 : (SL Int)) (v6 : zt0) (k : Nat) (v202 s2_10 : Int) : TM := [(0, (.d (dl eI r0.1 r0.2))), (1, (.d (.pin [(dl zb v6.1.1 v6.1.2), (dl (eL eI) v6.2.1.1 v6.2.1.2), (dl (aI 2) v6.2.2.1.1 v6.2.2.1.2), (di v6.2.2.2.1), (.mp (em (fun k => D.agg (zh k)) (fun b => D.b b) v6.2.2.2.2))]))), (2, (.ptr 1 2 0)), (3, (.ptr 1 3 0)), (5, (xb false)), (6, (xi (r0.1.length : Int))), (15, (xb false)), (25, (xi (if (w64 (v202 + 1)) < v6.2.2.2.1 then (w64 (v202 + 1)) else v6.2.2.2.1))), (26, (xi s2_10)), (27, (xb true)), (7, (xi s2_10))]
noncomputable def zVr (p0 : za) (v1 : Int) (v6 : zt0) (k : Nat) : TM := [(0, (.d (.agg (zd p0)))), (zsp 1), (2, (xi 0)), (3, (xi 0)), (4, (xi v1)), (9, (xb false)), (zsp 5), (13, (.d (.fn 88 [] [(.pin [(dl zb v6.1.1 v6.1.2), (dl (eL eI) v6.2.1.1 v6.2.1.2), (dl (aI 2) v6.2.2.1.1 v6.2.2.1.2), (di v6.2.2.2.1), (.mp (em (fun k => D.agg (zh k)) (fun b => D.b b) v6.2.2.2.2))])])))]
theorem zLi (k : Nat) (p0 : za) (v1 : Int) (v6 : zt0) (r0 : (SL Int)) (v202 s2_10 s2_15 : Int) (rc : zt11) (fs : List Fr) (hfs : fs.length ≤ 8) (hrc : zTd p0 v1 v6 rc fs) (r : Bool) (h : zSe k p0 v1 v6 r0 v202 s2_10 s2_15 rc = some r) : ev TE 89 (rgn TE 89 7) ⟨(zvw r0 v6 k v202 s2_10), ⟨[], ([[(zc 1 (zd p0)), (5, (.cells [(xi s2_15)]))], [(2, (.cells [(.yld 0)])), (3, (.cells [(.fn 89 [] [(.d (.pin [(dl zb v6.1.1 v6.1.2), (dl (eL eI) v6.2.1.1 v6.2.1.2), (dl (aI 2) v6.2.2.1.1 v6.2.2.1.2), (di v6.2.2.2.1), (.mp (em (fun k => D.agg (zh k)) (fun b => D.b b) v6.2.2.2.2))])), (.ptr 1 2 0), (.ptr 1 3 0)])]))]] ++ fs)⟩, [⟨(zVr p0 v1 v6 k), 0, rfP (blk TE 20 0), rfA (blk TE 20 0), rfB (blk TE 20 0), 20, .rdy⟩]⟩ = some (.nor, z2d p0 v1 v6 r0 v202 s2_10 s2_15 rc fs r) := by
 unfold zSe at h
 refine zl h (fun v501 h502 g1 => ?_)
 refine zo g1 (fun h503 g2 => ?_) (fun h503 g2 => ?_)
 ·exact zu (g := fun r => (Ex.nor, z2d p0 v1 v6 r0 v202 s2_10 s2_15 rc fs r)) g2 (zqe [(89, 7, 4, .c (db v501)), (89, 7, 6, .q (xb true))] [] (ob (zZ k (⟨(⟨v6.1, v6.2.1, v6.2.2.1, v6.2.2.2.1⟩ : za), v6.2.2.2.2⟩ : zj) r0 (r0.1.length : Int) s2_10 _ h502) (ob (o_b h503) ob0)) (by cases f8 hfs <;> kernel_rfl))
 ·refine zl g2 (fun v504 h505 g3 => ?_)
  refine zl g3 (fun v506 h507 g4 => ?_)
  exact zu (g := fun r => (Ex.nor, z2d p0 v1 v6 r0 v202 s2_10 s2_15 rc fs r)) g4 (zqe [(89, 7, 4, .c (db v501)), (89, 7, 6, .q (xb false)), (89, 7, 10, .c (.agg (aB 8 v504))), (89, 7, 12, .c (db v506))] [] (ob (zZ k (⟨(⟨v6.1, v6.2.1, v6.2.2.1, v6.2.2.2.1⟩ : za), v6.2.2.2.2⟩ : zj) r0 (r0.1.length : Int) s2_10 _ h502) (ob (o_b h503) (ob (zie k r0 s2_10 _ h505) (ob (z6b k (⟨(⟨v6.1, v6.2.1, v6.2.2.1, v6.2.2.2.1⟩ : za), v6.2.2.2.2⟩ : zj) v504 (r0.1.length : Int) _ h507) ob0)))) (by cases f8 hfs <;> kernel_rfl))
noncomputable def z3w (r0 : (SL Int)) (v6 : zt0) (v202 s2_10 : Int) : TM := [(0, (.d (dl eI r0.1 r0.2))), (1, (.d (.pin [(dl zb v6.1.1 v6.1.2), (dl (eL eI) v6.2.1.1 v6.2.1.2), (dl (aI 2) v6.2.2.1.1 v6.2.2.1.2), (di v6.2.2.2.1), (.mp (em (fun k => D.agg (zh k)) (fun b => D.b b) v6.2.2.2.2))]))), (2, (.ptr 1 2 0)), (3, (.ptr 1 3 0)), (5, (xb false)), (6, (xi (r0.1.length : Int))), (15, (xb false)), (25, (xi (if (w64 (v202 + 1)) < v6.2.2.2.1 then (w64 (v202 + 1)) else v6.2.2.2.1))), (26, (xi s2_10))]
noncomputable def zrn (p0 : za) (v1 : Int) (v6 : zt0) (r0 : (SL Int)) (v202 : Int) (rc : zt11) (fs : List Fr) (s2_10 s2_15 : Int) : St := ⟨(z3w r0 v6 v202 s2_10), ⟨[], ([[(zc 1 (zd p0)), (5, (.cells [(xi s2_15)]))], [(2, (.cells [(.yld 0)])), (3, (.cells [(.fn 89 [] [(.d (.pin [(dl zb v6.1.1 v6.1.2), (dl (eL eI) v6.2.1.1 v6.2.1.2), (dl (aI 2) v6.2.2.1.1 v6.2.2.1.2), (di v6.2.2.2.1), (.mp (em (fun k => D.agg (zh k)) (fun b => D.b b) v6.2.2.2.2))])), (.ptr 1 2 0), (.ptr 1 3 0)])]))]] ++ fs)⟩, [⟨(zSo p0 v1 v6), 0, rfP (blk TE 20 0), rfA (blk TE 20 0), rfB (blk TE 20 0), 20, .rdy⟩]⟩
noncomputable def zqw (r0 : (SL Int)) (v6 : zt0) (v202 : Int) (r : zt1) : TM := [(0, (.d (dl eI r0.1 r0.2))), (1, (.d (.pin [(dl zb v6.1.1 v6.1.2), (dl (eL eI) v6.2.1.1 v6.2.1.2), (dl (aI 2) v6.2.2.1.1 v6.2.2.1.2), (di v6.2.2.2.1), (.mp (em (fun k => D.agg (zh k)) (fun b => D.b b) v6.2.2.2.2))]))), (2, (.ptr 1 2 0)), (3, (.ptr 1 3 0)), (5, (xb false)), (6, (xi (r0.1.length : Int))), (15, (xb false)), (25, (xi (if (w64 (v202 + 1)) < v6.2.2.2.1 then (w64 (v202 + 1)) else v6.2.2.2.1))), (26, (xi r.1)), (27, (xb false))]
noncomputable def zzd (p0 : za) (v1 : Int) (v6 : zt0) (r0 : (SL Int)) (v202 : Int) (rc : zt11) (fs : List Fr) (r : zt1) : St := ⟨(zqw r0 v6 v202 r), ⟨[], ([[(zc 1 (zd p0)), (5, (.cells [(xi r.2)]))], [(2, (.cells [(.yld 0)])), (3, (.cells [(.fn 89 [] [(.d (.pin [(dl zb v6.1.1 v6.1.2), (dl (eL eI) v6.2.1.1 v6.2.1.2), (dl (aI 2) v6.2.2.1.1 v6.2.2.1.2), (di v6.2.2.2.1), (.mp (em (fun k => D.agg (zh k)) (fun b => D.b b) v6.2.2.2.2))])), (.ptr 1 2 0), (.ptr 1 3 0)])]))]] ++ fs)⟩, [⟨(zSo p0 v1 v6), 0, rfP (blk TE 20 0), rfA (blk TE 20 0), rfB (blk TE 20 0), 20, .rdy⟩]⟩
noncomputable def zgn (p0 : za) (v1 : Int) (v6 : zt0) (r0 : (SL Int)) (v202 : Int) (rc : zt11) (fs : List Fr) : (Int × Int) → Ex × St := fun r => ((.exit 0), zzd p0 v1 v6 r0 v202 rc fs r)
theorem zJi (k : Nat) (p0 : za) (v1 : Int) (v6 : zt0) (r0 : (SL Int)) (v202 : Int) (rc : zt11) (fs : List Fr) (hfs : fs.length ≤ 8) (hrc : zTd p0 v1 v6 rc fs) (s2_10 s2_15 : Int) (x : (Int × Int) ⊕ (Int × Int)) (h : zYc k p0 v1 v6 r0 v202 rc s2_10 s2_15 = some x) : zN TE 89 (blk TE 89 0) (fun s : (Int × Int) => zrn p0 v1 v6 r0 v202 rc fs s.1 s.2) (zgn p0 v1 v6 r0 v202 rc fs) (s2_10, s2_15) x := by
 unfold zYc at h
 refine zo h (fun h401 g1 => ?_) (fun h401 g1 => ?_)
 ·refine zl g1 (fun v402 h403 g2 => ?_)
  refine zo g2 (fun h404 g3 => ?_) (fun h404 g3 => ?_)
  ·subst h404
   exact zqn ((w64 (s2_10 + 1)), s2_15) [] [(89, 5, 0, .q (xb true))] [(89, 1000007, (.nor, z2d p0 v1 v6 r0 v202 s2_10 s2_15 rc fs true))] g3 (ob (o_b h401) (ob (zLi k p0 v1 v6 r0 v202 s2_10 s2_15 rc fs hfs hrc _ h403) ob0)) (by cases f8 hfs <;> kernel_rfl)
  ·subst h404
   refine zo g3 (fun h405 g4 => ?_) (fun h405 g4 => ?_)
   ·cases g4
   ·refine zAb g4 (fun h406 g5 => ?_)
    refine zl g5 (fun v407 h408 g6 => ?_)
    exact zqn ((w64 (s2_10 + 1)), v407) [] [(89, 5, 0, .q (xb true)), (89, 8, 4, .q (.d (dl eI r0.1 (ccap r0.2)))), (89, 8, 7, .q (.d (dl eI (r0.1 ++ [s2_10]) .ro))), (89, 8, 8, .i (db true) ⟨[], ([[(1, (.cells ((zd p0).map .d))), (5, (.cells [(xi v407)]))], [(2, (.cells [(.yld 0)])), (3, (.cells [(.fn 89 [] [(.d (.pin [(dl zb v6.1.1 v6.1.2), (dl (eL eI) v6.2.1.1 v6.2.1.2), (dl (aI 2) v6.2.2.1.1 v6.2.2.1.2), (di v6.2.2.2.1), (.mp (em (fun k => D.agg (zh k)) (fun b => D.b b) v6.2.2.2.2))])), (.ptr 1 2 0), (.ptr 1 3 0)])]))]] ++ fs)⟩ [⟨[(0, (.d (.agg (zd p0)))), (1, (.ptr 0 1 0)), (2, (xi 0)), (3, (xi 0)), (4, (xi v1)), (9, (xb false)), (5, (.ptr 0 5 0)), (13, (.d (.fn 88 [] [(.pin [(dl zb v6.1.1 v6.1.2), (dl (eL eI) v6.2.1.1 v6.2.1.2), (dl (aI 2) v6.2.2.1.1 v6.2.2.1.2), (di v6.2.2.2.1), (.mp (em (fun k => D.agg (zh k)) (fun b => D.b b) v6.2.2.2.2))])])))], 0, rfP (blk TE 20 0), rfA (blk TE 20 0), rfB (blk TE 20 0), 20, .rdy⟩])] [(89, 1000007, (.nor, z2d p0 v1 v6 r0 v202 s2_10 s2_15 rc fs false))] g6 (ob (o_b h401) (ob (zLi k p0 v1 v6 r0 v202 s2_10 s2_15 rc fs hfs hrc _ h403) (ob (zWl (e := eI) (z := 1) r0.1 r0.2) (ob (o_ad (P := TE.P) (φ := fun _ _ => none) (T := 27) (q := (1, [(di 0)])) (c := (ccap r0.2)) (e := eI) r0.1 s2_10 (by kernel_rfl) (fun _ => rfl) h405 h406) (ob (hrc ([] : Fr) s2_15 ((r0.1 ++ [s2_10]), .ro) _ h408) ob0))))) (by cases f8 hfs <;> kernel_rfl)
 ·exact zqo [(89, 5, 0, .q (xb false))] [] g1 (ob (o_b h401) ob0) (by cases f8 hfs <;> kernel_rfl)
theorem zPl (k : Nat) (p0 : za) (v1 : Int) (v6 : zt0) (rc : zt11) (hrc : zTd p0 v1 v6 rc []) (u1_9 : Int) (r0 : (SL Int)) (x : Int) (h : zEb k p0 v1 v6 rc u1_9 r0 = some x) : zHb TE (ev TE) 89 [(.d (dl eI r0.1 r0.2)), (.d (.pin [(dl zb v6.1.1 v6.1.2), (dl (eL eI) v6.2.1.1 v6.2.1.2), (dl (aI 2) v6.2.2.1.1 v6.2.2.1.2), (di v6.2.2.2.1), (.mp (em (fun k => D.agg (zh k)) (fun b => D.b b) v6.2.2.2.2))])), (.ptr 1 2 0), (.ptr 1 3 0)] ⟨[(2, (.cells [(.yld 0)])), (3, (.cells [(.fn 89 [] [(.d (.pin [(dl zb v6.1.1 v6.1.2), (dl (eL eI) v6.2.1.1 v6.2.1.2), (dl (aI 2) v6.2.2.1.1 v6.2.2.1.2), (di v6.2.2.2.1), (.mp (em (fun k => D.agg (zh k)) (fun b => D.b b) v6.2.2.2.2))])), (.ptr 1 2 0), (.ptr 1 3 0)])]))], [[(zc 1 (zd p0)), (5, (.cells [(xi u1_9)]))]]⟩ [⟨(zVr p0 v1 v6 k), 0, rfP (blk TE 20 0), rfA (blk TE 20 0), rfB (blk TE 20 0), 20, .rdy⟩] = some (zTe p0 v1 v6 x) := by
 unfold zEb at h
 refine zo h (fun h201 g1 => ?_) (fun h201 g1 => ?_)
 ·exact zRc (g := zTe p0 v1 v6) g1 (zMb (n := 80) (V := [(89, 1, 1, .q (xi (r0.1.length : Int))), (89, 2, 4, .q (xi (v6.1.1.length : Int))), (89, 2, 5, .q (xb true))]) (C := []) (ob (zq eI r0.1) (ob (zq zb v6.1.1) (ob (o_b h201) ob0))) (by kernel_rfl))
 ·refine zl g1 (fun v202 h203 g2 => ?_)
  refine zl g2 (fun v204 h205 g3 => ?_)
  exact zRc (g := zTe p0 v1 v6) g3 (zMb (n := 80) (V := [(89, 1, 1, .q (xi (r0.1.length : Int))), (89, 2, 4, .q (xi (v6.1.1.length : Int))), (89, 2, 5, .q (xb false)), (89, 4, 4, .c (di v202))]) (C := [(89, 0, (.nor, zzd p0 v1 v6 r0 v202 rc ([] : List Fr) v204))]) (ob (zq eI r0.1) (ob (zq zb v6.1.1) (ob (o_b h201) (ob (zS k r0 _ h203) (ob (zz (id := 0) (r' := (.nor, zzd p0 v1 v6 r0 v202 rc ([] : List Fr) v204)) (zkc (zJi k p0 v1 v6 r0 v202 rc ([] : List Fr) (Nat.zero_le _) hrc) k _ _ h205) rfl) ob0))))) (by kernel_rfl))
theorem zmm (k : Nat) (p0 : za) (v1 : Int) (v6 : zt0) (rc : zt11) (f : Fr) (fs : List Fr) (hfs : fs.length + 1 ≤ 8) (hrc : zTd p0 v1 v6 rc (fs ++ [f])) (u1_9 : Int) (r0 : (SL Int)) (x : Int) (h : zEb k p0 v1 v6 rc u1_9 r0 = some x) : zHb TE (ev TE) 89 [(.d (dl eI r0.1 r0.2)), (.d (.pin [(dl zb v6.1.1 v6.1.2), (dl (eL eI) v6.2.1.1 v6.2.1.2), (dl (aI 2) v6.2.2.1.1 v6.2.2.1.2), (di v6.2.2.2.1), (.mp (em (fun k => D.agg (zh k)) (fun b => D.b b) v6.2.2.2.2))])), (.ptr 1 2 0), (.ptr 1 3 0)] ⟨f, ([[(zc 1 (zd p0)), (5, (.cells [(xi u1_9)]))], [(2, (.cells [(.yld 0)])), (3, (.cells [(.fn 89 [] [(.d (.pin [(dl zb v6.1.1 v6.1.2), (dl (eL eI) v6.2.1.1 v6.2.1.2), (dl (aI 2) v6.2.2.1.1 v6.2.2.1.2), (di v6.2.2.2.1), (.mp (em (fun k => D.agg (zh k)) (fun b => D.b b) v6.2.2.2.2))])), (.ptr 1 2 0), (.ptr 1 3 0)])]))]] ++ fs)⟩ [⟨(zVr p0 v1 v6 k), 0, rfP (blk TE 20 0), rfA (blk TE 20 0), rfB (blk TE 20 0), 20, .rdy⟩] = some (zUe p0 v1 v6 f fs x) := by
 unfold zEb at h
 refine zo h (fun h201 g1 => ?_) (fun h201 g1 => ?_)
 ·exact zRc (g := zUe p0 v1 v6 f fs) g1 (zMb (n := 80) (V := [(89, 1, 1, .q (xi (r0.1.length : Int))), (89, 2, 4, .q (xi (v6.1.1.length : Int))), (89, 2, 5, .q (xb true))]) (C := []) (ob (zq eI r0.1) (ob (zq zb v6.1.1) (ob (o_b h201) ob0))) (by cases f8 (Nat.le_of_succ_le hfs) <;> kernel_rfl))
 ·refine zl g1 (fun v202 h203 g2 => ?_)
  refine zl g2 (fun v204 h205 g3 => ?_)
  exact zRc (g := zUe p0 v1 v6 f fs) g3 (zMb (n := 80) (V := [(89, 1, 1, .q (xi (r0.1.length : Int))), (89, 2, 4, .q (xi (v6.1.1.length : Int))), (89, 2, 5, .q (xb false)), (89, 4, 4, .c (di v202))]) (C := [(89, 0, (.nor, zzd p0 v1 v6 r0 v202 rc (fs ++ [f]) v204))]) (ob (zq eI r0.1) (ob (zq zb v6.1.1) (ob (o_b h201) (ob (zS k r0 _ h203) (ob (zz (id := 0) (r' := (.nor, zzd p0 v1 v6 r0 v202 rc (fs ++ [f]) v204)) (zkc (zJi k p0 v1 v6 r0 v202 rc (fs ++ [f]) (zlj f hfs) hrc) k _ _ h205) rfl) ob0))))) (by cases f8 (Nat.le_of_succ_le hfs) <;> kernel_rfl))
theorem zvi (k : Nat) (p0 : za) (v1 : Int) (v6 : zt0) : ∀ (n : Nat) (fs : List Fr), fs.length + n ≤ 8 → zTd p0 v1 v6 (zxb k p0 v1 v6 n) fs
 | 0, fs, hfs => fun f u1_9 r0 x h => by cases h
 | n + 1, fs, hfs => fun f u1_9 r0 x h => zmm k p0 v1 v6 _ f fs (by omega) (zvi k p0 v1 v6 n (fs ++ [f]) (by simp; omega)) u1_9 r0 x h
theorem zGm (k : Nat) (p0 : za) (v1 : Int) (v6 : zt0) (u1_9 : Int) (r0 : (SL Int)) (x : Int) (h : zxb k p0 v1 v6 9 u1_9 r0 = some x) : zHb TE (ev TE) 89 [(.d (dl eI r0.1 r0.2)), (.d (.pin [(dl zb v6.1.1 v6.1.2), (dl (eL eI) v6.2.1.1 v6.2.1.2), (dl (aI 2) v6.2.2.1.1 v6.2.2.1.2), (di v6.2.2.2.1), (.mp (em (fun k => D.agg (zh k)) (fun b => D.b b) v6.2.2.2.2))])), (.ptr 1 2 0), (.ptr 1 3 0)] ⟨[(2, (.cells [(.yld 0)])), (3, (.cells [(.fn 89 [] [(.d (.pin [(dl zb v6.1.1 v6.1.2), (dl (eL eI) v6.2.1.1 v6.2.1.2), (dl (aI 2) v6.2.2.1.1 v6.2.2.1.2), (di v6.2.2.2.1), (.mp (em (fun k => D.agg (zh k)) (fun b => D.b b) v6.2.2.2.2))])), (.ptr 1 2 0), (.ptr 1 3 0)])]))], [[(zc 1 (zd p0)), (5, (.cells [(xi u1_9)]))]]⟩ [⟨(zVr p0 v1 v6 k), 0, rfP (blk TE 20 0), rfA (blk TE 20 0), rfB (blk TE 20 0), 20, .rdy⟩] = some (zTe p0 v1 v6 x) := zPl k p0 v1 v6 _ (zvi k p0 v1 v6 8 [] (by decide)) u1_9 r0 x h
theorem zw (k : Nat) (p0 : za) (r : zt1) (h : zhb k p0 = some r) : zC TE (ev TE) 20 [(.agg (zd p0))] = some (zdi r) := by
 unfold zhb at h
 refine zl h (fun v1 h2 g1 => ?_)
 refine zo g1 (fun h3 g2 => ?_) (fun h3 g2 => ?_)
 ·exact zt (g := zdi) g2 (zqc [(20, 1, 1, .c (di v1)), (20, 2, 1, .q (xb true))] [] (ob (zD k p0 _ h2) (ob (o_b h3) ob0)) (by kernel_rfl))
 ·refine zl g2 (fun v4 h5 g3 => ?_)
  refine zl g3 (fun v6 h7 g4 => ?_)
  refine zl g4 (fun v8 h9 g5 => ?_)
  exact zt (g := zdi) g5 (zqc [(20, 1, 1, .c (di v1)), (20, 2, 1, .q (xb false)), (20, 5, 1, .c (.agg (zn v4))), (20, 5, 2, .c (.fn 88 [] [(.pin [(dl zb v6.1.1 v6.1.2), (dl (eL eI) v6.2.1.1 v6.2.1.2), (dl (aI 2) v6.2.2.1.1 v6.2.2.1.2), (di v6.2.2.2.1), (.mp (em (fun k => D.agg (zh k)) (fun b => D.b b) v6.2.2.2.2))])])), (88, 3, 1, .i (db true) ⟨[(2, (.cells [(.yld 0)])), (3, (.cells [(.fn 89 [] [(.d (.pin [(dl zb v6.1.1 v6.1.2), (dl (eL eI) v6.2.1.1 v6.2.1.2), (dl (aI 2) v6.2.2.1.1 v6.2.2.1.2), (di v6.2.2.2.1), (.mp (em (fun k => D.agg (zh k)) (fun b => D.b b) v6.2.2.2.2))])), (.ptr 1 2 0), (.ptr 1 3 0)])]))], [[(1, (.cells ((zd p0).map .d))), (5, (.cells [(xi v8)]))]]⟩ [⟨[(0, (.d (.agg (zd p0)))), (1, (.ptr 0 1 0)), (2, (xi 0)), (3, (xi 0)), (4, (xi v1)), (9, (xb false)), (5, (.ptr 0 5 0)), (13, (.d (.fn 88 [] [(.pin [(dl zb v6.1.1 v6.1.2), (dl (eL eI) v6.2.1.1 v6.2.1.2), (dl (aI 2) v6.2.2.1.1 v6.2.2.1.2), (di v6.2.2.2.1), (.mp (em (fun k => D.agg (zh k)) (fun b => D.b b) v6.2.2.2.2))])])))], 0, rfP (blk TE 20 0), rfA (blk TE 20 0), rfB (blk TE 20 0), 20, .rdy⟩])] [] (ob (zD k p0 _ h2) (ob (o_b h3) (ob (zmb k p0 _ h5) (ob (z3b k v4 _ h7) (ob (zGm k p0 v1 v6 0 ([], Cap.nil) _ h9) ob0))))) (by kernel_rfl))
theorem zGj (k : Nat) (r : Unit) (h : zah k = some r) : zC TE (ev TE) 63 [] = some (zGk r) := by
 unfold zah at h
 exact zt (g := zGk) h (zqc [] [] ob0 (by kernel_rfl))
theorem zPk (k : Nat) (p0 r : (SL Int)) (h : zed k p0 = some r) : zC TE (ev TE) 64 [(dl eI p0.1 p0.2)] = some (zof r) := by
 unfold zed at h
 refine zo h (fun h1 g1 => ?_) (fun h1 g1 => ?_)
 ·exact zt (g := zof) g1 (zqc [(64, 1, 1, .q (xb true))] [] (ob (o_b h1) ob0) (by kernel_rfl))
 ·refine zAb g1 (fun h2 g2 => ?_)
  exact zt (g := zof) g2 (zqr [(64, 1, 1, .q (xb false)), (64, 3, 2, .ns (p0.1.map eI) p0.1.length)] [] [(dl eI p0.1 (rcap false p0.1))] (ob (o_b h1) (ob (zeo p0.1 eI) (ob (o_ns (P := TE.P) (φ := fun _ _ => none) (T := 27) (q := (1, [(di 0)])) (c := p0.2) (e := eI) p0.1 (by kernel_rfl) (fun _ => rfl) h2) (ob (rfl : (([] : List (List D)).isEmpty || !(p0.1.map eI).isEmpty) = true) (ob (show zGc ⟨[(7, (rowO false 1 eI p0.1 true))], []⟩ _ = _ from (o_s1 (x := (.row 0 7 p0.1.length)) (zlp false 1 eI p0.1 true rfl) o_s0)) ob0))))) (by kernel_rfl))
theorem zXm (k : Nat) (p0 p1 : (SL Int)) (r : Bool) (h : z7f k p0 p1 = some r) : zC TE (ev TE) 90 [(dl eI p0.1 p0.2), (dl eI p1.1 p1.2)] = some (zcj r) := by
 unfold z7f at h
 refine zl h (fun v1 h2 g1 => ?_)
 refine zl g1 (fun v3 h4 g2 => ?_)
 exact zt (g := zcj) g2 (zqc [(90, 1, 1, .c (di v1)), (90, 1, 3, .c (di v3))] [] (ob (zS k p0 _ h2) (ob (zS k p1 _ h4) ob0)) (by kernel_rfl))
noncomputable def zbl (p0 : za) (v1 : Int) (v8 : zt0) : TM := [(0, (.d (.agg (zd p0)))), (zsp 1), (2, (.d (.sl [] .nil))), (3, (xi 0)), (4, (xi v1)), (11, (xb false)), (zsp 5), (zsp 6), (16, (.d (.fn 88 [] [(.pin [(dl zb v8.1.1 v8.1.2), (dl (eL eI) v8.2.1.1 v8.2.1.2), (dl (aI 2) v8.2.2.1.1 v8.2.2.1.2), (di v8.2.2.2.1), (.mp (em (fun k => D.agg (zh k)) (fun b => D.b b) v8.2.2.2.2))])])))]
noncomputable def zse (p0 : za) (v1 : Int) (v8 : zt0) : (SL Int) → D × FS × List LRec := fun r => ((db true), ⟨[(2, (.cells [(.yld 0)])), (3, (.cells [(.fn 89 [] [(.d (.pin [(dl zb v8.1.1 v8.1.2), (dl (eL eI) v8.2.1.1 v8.2.1.2), (dl (aI 2) v8.2.2.1.1 v8.2.2.1.2), (di v8.2.2.2.1), (.mp (em (fun k => D.agg (zh k)) (fun b => D.b b) v8.2.2.2.2))])), (.ptr 1 2 0), (.ptr 1 3 0)])]))], [[(zc 1 (zd p0)), (5, (.cells [(.d (.fn 90 [] []))])), (6, (.cells [(.d (dl eI r.1 r.2))]))]]⟩, [⟨(zbl p0 v1 v8), 0, rfP (blk TE 25 0), rfA (blk TE 25 0), rfB (blk TE 25 0), 25, .rdy⟩])
noncomputable def zye (p0 : za) (v1 : Int) (v8 : zt0) (f : Fr) (fs : List Fr) : (SL Int) → D × FS × List LRec := fun r => ((db true), ⟨f, [[(zc 1 (zd p0)), (5, (.cells [(.d (.fn 90 [] []))])), (6, (.cells [(.d (dl eI r.1 r.2))]))], [(2, (.cells [(.yld 0)])), (3, (.cells [(.fn 89 [] [(.d (.pin [(dl zb v8.1.1 v8.1.2), (dl (eL eI) v8.2.1.1 v8.2.1.2), (dl (aI 2) v8.2.2.1.1 v8.2.2.1.2), (di v8.2.2.2.1), (.mp (em (fun k => D.agg (zh k)) (fun b => D.b b) v8.2.2.2.2))])), (.ptr 1 2 0), (.ptr 1 3 0)])]))]] ++ fs⟩, [⟨(zbl p0 v1 v8), 0, rfP (blk TE 25 0), rfA (blk TE 25 0), rfB (blk TE 25 0), 25, .rdy⟩])
noncomputable def zjc (p0 : za) (v1 : Int) (v8 : zt0) (rc : zt8) (fs : List Fr) : Prop := ∀ (f : Fr) (u1_9 : (SL Int)) (r0 : (SL Int)) (x : (SL Int)), rc u1_9 r0 = some x → zHb TE (ev TE) 89 [(.d (dl eI r0.1 r0.2)), (.d (.pin [(dl zb v8.1.1 v8.1.2), (dl (eL eI) v8.2.1.1 v8.2.1.2), (dl (aI 2) v8.2.2.1.1 v8.2.2.1.2), (di v8.2.2.2.1), (.mp (em (fun k => D.agg (zh k)) (fun b => D.b b) v8.2.2.2.2))])), (.ptr 1 2 0), (.ptr 1 3 0)] ⟨f, ([[(zc 1 (zd p0)), (5, (.cells [(.d (.fn 90 [] []))])), (6, (.cells [(.d (dl eI u1_9.1 u1_9.2))]))], [(2, (.cells [(.yld 0)])), (3, (.cells [(.fn 89 [] [(.d (.pin [(dl zb v8.1.1 v8.1.2), (dl (eL eI) v8.2.1.1 v8.2.1.2), (dl (aI 2) v8.2.2.1.1 v8.2.2.1.2), (di v8.2.2.2.1), (.mp (em (fun k => D.agg (zh k)) (fun b => D.b b) v8.2.2.2.2))])), (.ptr 1 2 0), (.ptr 1 3 0)])]))]] ++ fs)⟩ [⟨(zbl p0 v1 v8), 0, rfP (blk TE 25 0), rfA (blk TE 25 0), rfB (blk TE 25 0), 25, .rdy⟩] = some (zye p0 v1 v8 f fs x)
noncomputable def zNw (p0 : za) (v1 : Int) (v8 : zt0) (r0 : (SL Int)) (r : Bool) : TM := zbl p0 v1 v8 ++ [(17, (.d (dl eI r0.1 r0.2))), (7, (.d (dl eI r0.1 r0.2))), (26, (xb r))]
noncomputable def zCd (p0 : za) (v1 : Int) (v8 : zt0) (u1_9 r0 : (SL Int)) (rc : zt8) (fs : List Fr) (r : Bool) : St := ⟨(zNw p0 v1 v8 r0 r), ⟨[], ([[(zc 1 (zd p0)), (5, (.cells [(.d (.fn 90 [] []))])), (6, (.cells [(.d (dl eI u1_9.1 u1_9.2))]))], [(2, (.cells [(.yld 0)])), (3, (.cells [(.fn 89 [] [(.d (.pin [(dl zb v8.1.1 v8.1.2), (dl (eL eI) v8.2.1.1 v8.2.1.2), (dl (aI 2) v8.2.2.1.1 v8.2.2.1.2), (di v8.2.2.2.1), (.mp (em (fun k => D.agg (zh k)) (fun b => D.b b) v8.2.2.2.2))])), (.ptr 1 2 0), (.ptr 1 3 0)])]))]] ++ (fs ++ [[]]))⟩, [⟨(zbl p0 v1 v8), 0, rfP (blk TE 25 0), rfA (blk TE 25 0), rfB (blk TE 25 0), 25, .busy⟩]⟩
noncomputable def zGu (p0 : za) (v1 : Int) (v8 : zt0) (k : Nat) (r0 : (SL Int)) : TM := [(0, (.d (.agg (zd p0)))), (zsp 1), (2, (.d (.sl [] .nil))), (3, (xi 0)), (4, (xi v1)), (11, (xb false)), (zsp 5), (zsp 6), (16, (.d (.fn 88 [] [(.pin [(dl zb v8.1.1 v8.1.2), (dl (eL eI) v8.2.1.1 v8.2.1.2), (dl (aI 2) v8.2.2.1.1 v8.2.2.1.2), (di v8.2.2.2.1), (.mp (em (fun k => D.agg (zh k)) (fun b => D.b b) v8.2.2.2.2))])]))), (17, (.d (dl eI r0.1 r0.2))), (7, (.d (dl eI r0.1 r0.2)))]
noncomputable def zXo (p0 : za) (v1 : Int) (v8 : zt0) (k : Nat) : TM := [(0, (.d (.agg (zd p0)))), (zsp 1), (2, (.d (.sl [] .nil))), (3, (xi 0)), (4, (xi v1)), (11, (xb false)), (zsp 5), (zsp 6), (16, (.d (.fn 88 [] [(.pin [(dl zb v8.1.1 v8.1.2), (dl (eL eI) v8.2.1.1 v8.2.1.2), (dl (aI 2) v8.2.2.1.1 v8.2.2.1.2), (di v8.2.2.2.1), (.mp (em (fun k => D.agg (zh k)) (fun b => D.b b) v8.2.2.2.2))])])))]
theorem zli (k : Nat) (p0 : za) (v1 : Int) (v8 : zt0) (u1_9 r0 : (SL Int)) (rc : zt8) (fs : List Fr) (hfs : fs.length ≤ 8) (hrc : zjc p0 v1 v8 rc fs) (r : Bool) (h : zDf k p0 v1 v8 u1_9 r0 rc = some r) : ev TE 25 (rgn TE 25 8) ⟨(zGu p0 v1 v8 k r0), ⟨[], ([[(zc 1 (zd p0)), (5, (.cells [(.d (.fn 90 [] []))])), (6, (.cells [(.d (dl eI u1_9.1 u1_9.2))]))], [(2, (.cells [(.yld 0)])), (3, (.cells [(.fn 89 [] [(.d (.pin [(dl zb v8.1.1 v8.1.2), (dl (eL eI) v8.2.1.1 v8.2.1.2), (dl (aI 2) v8.2.2.1.1 v8.2.2.1.2), (di v8.2.2.2.1), (.mp (em (fun k => D.agg (zh k)) (fun b => D.b b) v8.2.2.2.2))])), (.ptr 1 2 0), (.ptr 1 3 0)])]))]] ++ (fs ++ [[]]))⟩, [⟨(zXo p0 v1 v8 k), 0, rfP (blk TE 25 0), rfA (blk TE 25 0), rfB (blk TE 25 0), 25, .busy⟩]⟩ = some (.nor, zCd p0 v1 v8 u1_9 r0 rc fs r) := by
 unfold zDf at h
 refine zo h (fun h301 g1 => ?_) (fun h301 g1 => ?_)
 ·exact zu (g := fun r => (Ex.nor, zCd p0 v1 v8 u1_9 r0 rc fs r)) g1 (zqe [(25, 8, 2, .q (xb true))] [] (ob (o_b h301) ob0) (by cases f8 hfs <;> kernel_rfl))
 ·refine zl g1 (fun v302 h303 g2 => ?_)
  exact zu (g := fun r => (Ex.nor, zCd p0 v1 v8 u1_9 r0 rc fs r)) g2 (zqe [(25, 8, 2, .q (xb false)), (25, 8, 7, .c (db v302))] [] (ob (o_b h301) (ob (zXm k r0 u1_9 _ h303) ob0)) (by cases f8 hfs <;> kernel_rfl))
noncomputable def zvx (p0 : za) (v1 : Int) (v8 : zt0) (r0 : (SL Int)) (r : (Bool × (SL Int))) : TM := zbl p0 v1 v8 ++ [(17, (.d (dl eI r0.1 r0.2))), (7, (.d (dl eI r0.1 r0.2))), (26, (xb r.1))]
noncomputable def zAd (p0 : za) (v1 : Int) (v8 : zt0) (u1_9 r0 : (SL Int)) (v202 : Bool) (rc : zt8) (fs : List Fr) (r : (Bool × (SL Int))) : St := ⟨(zvx p0 v1 v8 r0 r), ⟨[], ([[(zc 1 (zd p0)), (5, (.cells [(.d (.fn 90 [] []))])), (6, (.cells [(.d (dl eI r.2.1 r.2.2))]))], [(2, (.cells [(.yld 0)])), (3, (.cells [(.fn 89 [] [(.d (.pin [(dl zb v8.1.1 v8.1.2), (dl (eL eI) v8.2.1.1 v8.2.1.2), (dl (aI 2) v8.2.2.1.1 v8.2.2.1.2), (di v8.2.2.2.1), (.mp (em (fun k => D.agg (zh k)) (fun b => D.b b) v8.2.2.2.2))])), (.ptr 1 2 0), (.ptr 1 3 0)])]))]] ++ (fs ++ [[]]))⟩, [⟨(zbl p0 v1 v8), 0, rfP (blk TE 25 0), rfA (blk TE 25 0), rfB (blk TE 25 0), 25, .busy⟩]⟩
theorem zFi (k : Nat) (p0 : za) (v1 : Int) (v8 : zt0) (u1_9 r0 : (SL Int)) (v202 : Bool) (rc : zt8) (fs : List Fr) (hfs : fs.length ≤ 8) (hrc : zjc p0 v1 v8 rc fs) (r : (Bool × (SL Int))) (h : zCf k p0 v1 v8 u1_9 r0 v202 rc = some r) : ev TE 25 (cnd TE 25 26) ⟨(zGu p0 v1 v8 k r0 ++ [(26, (xb v202))]), ⟨[], ([[(zc 1 (zd p0)), (5, (.cells [(.d (.fn 90 [] []))])), (6, (.cells [(.d (dl eI u1_9.1 u1_9.2))]))], [(2, (.cells [(.yld 0)])), (3, (.cells [(.fn 89 [] [(.d (.pin [(dl zb v8.1.1 v8.1.2), (dl (eL eI) v8.2.1.1 v8.2.1.2), (dl (aI 2) v8.2.2.1.1 v8.2.2.1.2), (di v8.2.2.2.1), (.mp (em (fun k => D.agg (zh k)) (fun b => D.b b) v8.2.2.2.2))])), (.ptr 1 2 0), (.ptr 1 3 0)])]))]] ++ (fs ++ [[]]))⟩, [⟨(zXo p0 v1 v8 k), 0, rfP (blk TE 25 0), rfA (blk TE 25 0), rfB (blk TE 25 0), 25, .busy⟩]⟩ = some (.nor, zAd p0 v1 v8 u1_9 r0 v202 rc fs r) := by
 unfold zCf at h
 refine zo h (fun h401 g1 => ?_) (fun h401 g1 => ?_)
 ·subst h401
  refine zl g1 (fun v402 h403 g2 => ?_)
  exact zu (g := fun r => (Ex.nor, zAd p0 v1 v8 u1_9 r0 true rc fs r)) g2 (zqe [(25, 9, 1, .c (dl eI v402.1 v402.2))] [] (ob (zPk k r0 _ h403) ob0) (by cases f8 hfs <;> kernel_rfl))
 ·subst h401
  exact zu (g := fun r => (Ex.nor, zAd p0 v1 v8 u1_9 r0 false rc fs r)) g1 (zqe [] [] ob0 (by cases f8 hfs <;> kernel_rfl))
noncomputable def zxw (r0 : (SL Int)) (v8 : zt0) (v202 s4_10 : Int) (r : Bool) : TM := [(0, (.d (dl eI r0.1 r0.2))), (1, (.d (.pin [(dl zb v8.1.1 v8.1.2), (dl (eL eI) v8.2.1.1 v8.2.1.2), (dl (aI 2) v8.2.2.1.1 v8.2.2.1.2), (di v8.2.2.2.1), (.mp (em (fun k => D.agg (zh k)) (fun b => D.b b) v8.2.2.2.2))]))), (2, (.ptr 1 2 0)), (3, (.ptr 1 3 0)), (5, (xb false)), (6, (xi (r0.1.length : Int))), (15, (xb false)), (25, (xi (if (w64 (v202 + 1)) < v8.2.2.2.1 then (w64 (v202 + 1)) else v8.2.2.2.1))), (26, (xi s4_10)), (27, (xb true)), (7, (xi s4_10)), (43, (xb r))]
noncomputable def zEd (p0 : za) (v1 : Int) (v8 : zt0) (r0 : (SL Int)) (v202 s4_10 : Int) (s4_15 : (SL Int)) (rc : zt8) (fs : List Fr) (r : Bool) : St := ⟨(zxw r0 v8 v202 s4_10 r), ⟨[], ([[(zc 1 (zd p0)), (5, (.cells [(.d (.fn 90 [] []))])), (6, (.cells [(.d (dl eI s4_15.1 s4_15.2))]))], [(2, (.cells [(.yld 0)])), (3, (.cells [(.fn 89 [] [(.d (.pin [(dl zb v8.1.1 v8.1.2), (dl (eL eI) v8.2.1.1 v8.2.1.2), (dl (aI 2) v8.2.2.1.1 v8.2.2.1.2), (di v8.2.2.2.1), (.mp (em (fun k => D.agg (zh k)) (fun b => D.b b) v8.2.2.2.2))])), (.ptr 1 2 0), (.ptr 1 3 0)])]))]] ++ fs)⟩, [⟨(zbl p0 v1 v8), 0, rfP (blk TE 25 0), rfA (blk TE 25 0), rfB (blk TE 25 0), 25, .rdy⟩]⟩
noncomputable def zMw (r0 : (SL Int)) (v8 : zt0) (k : Nat) (v202 s4_10 : Int) : TM := [(0, (.d (dl eI r0.1 r0.2))), (1, (.d (.pin [(dl zb v8.1.1 v8.1.2), (dl (eL eI) v8.2.1.1 v8.2.1.2), (dl (aI 2) v8.2.2.1.1 v8.2.2.1.2), (di v8.2.2.2.1), (.mp (em (fun k => D.agg (zh k)) (fun b => D.b b) v8.2.2.2.2))]))), (2, (.ptr 1 2 0)), (3, (.ptr 1 3 0)), (5, (xb false)), (6, (xi (r0.1.length : Int))), (15, (xb false)), (25, (xi (if (w64 (v202 + 1)) < v8.2.2.2.1 then (w64 (v202 + 1)) else v8.2.2.2.1))), (26, (xi s4_10)), (27, (xb true)), (7, (xi s4_10))]
theorem zCi (k : Nat) (p0 : za) (v1 : Int) (v8 : zt0) (r0 : (SL Int)) (v202 s4_10 : Int) (s4_15 : (SL Int)) (rc : zt8) (fs : List Fr) (hfs : fs.length ≤ 8) (hrc : zjc p0 v1 v8 rc fs) (r : Bool) (h : zme k p0 v1 v8 r0 v202 s4_10 s4_15 rc = some r) : ev TE 89 (rgn TE 89 7) ⟨(zMw r0 v8 k v202 s4_10), ⟨[], ([[(zc 1 (zd p0)), (5, (.cells [(.d (.fn 90 [] []))])), (6, (.cells [(.d (dl eI s4_15.1 s4_15.2))]))], [(2, (.cells [(.yld 0)])), (3, (.cells [(.fn 89 [] [(.d (.pin [(dl zb v8.1.1 v8.1.2), (dl (eL eI) v8.2.1.1 v8.2.1.2), (dl (aI 2) v8.2.2.1.1 v8.2.2.1.2), (di v8.2.2.2.1), (.mp (em (fun k => D.agg (zh k)) (fun b => D.b b) v8.2.2.2.2))])), (.ptr 1 2 0), (.ptr 1 3 0)])]))]] ++ fs)⟩, [⟨(zXo p0 v1 v8 k), 0, rfP (blk TE 25 0), rfA (blk TE 25 0), rfB (blk TE 25 0), 25, .rdy⟩]⟩ = some (.nor, zEd p0 v1 v8 r0 v202 s4_10 s4_15 rc fs r) := by
 unfold zme at h
 refine zl h (fun v701 h702 g1 => ?_)
 refine zo g1 (fun h703 g2 => ?_) (fun h703 g2 => ?_)
 ·exact zu (g := fun r => (Ex.nor, zEd p0 v1 v8 r0 v202 s4_10 s4_15 rc fs r)) g2 (zqe [(89, 7, 4, .c (db v701)), (89, 7, 6, .q (xb true))] [] (ob (zZ k (⟨(⟨v8.1, v8.2.1, v8.2.2.1, v8.2.2.2.1⟩ : za), v8.2.2.2.2⟩ : zj) r0 (r0.1.length : Int) s4_10 _ h702) (ob (o_b h703) ob0)) (by cases f8 hfs <;> kernel_rfl))
 ·refine zl g2 (fun v704 h705 g3 => ?_)
  refine zl g3 (fun v706 h707 g4 => ?_)
  exact zu (g := fun r => (Ex.nor, zEd p0 v1 v8 r0 v202 s4_10 s4_15 rc fs r)) g4 (zqe [(89, 7, 4, .c (db v701)), (89, 7, 6, .q (xb false)), (89, 7, 10, .c (.agg (aB 8 v704))), (89, 7, 12, .c (db v706))] [] (ob (zZ k (⟨(⟨v8.1, v8.2.1, v8.2.2.1, v8.2.2.2.1⟩ : za), v8.2.2.2.2⟩ : zj) r0 (r0.1.length : Int) s4_10 _ h702) (ob (o_b h703) (ob (zie k r0 s4_10 _ h705) (ob (z6b k (⟨(⟨v8.1, v8.2.1, v8.2.2.1, v8.2.2.2.1⟩ : za), v8.2.2.2.2⟩ : zj) v704 (r0.1.length : Int) _ h707) ob0)))) (by cases f8 hfs <;> kernel_rfl))
noncomputable def z8w (r0 : (SL Int)) (v8 : zt0) (v202 s4_10 : Int) : TM := [(0, (.d (dl eI r0.1 r0.2))), (1, (.d (.pin [(dl zb v8.1.1 v8.1.2), (dl (eL eI) v8.2.1.1 v8.2.1.2), (dl (aI 2) v8.2.2.1.1 v8.2.2.1.2), (di v8.2.2.2.1), (.mp (em (fun k => D.agg (zh k)) (fun b => D.b b) v8.2.2.2.2))]))), (2, (.ptr 1 2 0)), (3, (.ptr 1 3 0)), (5, (xb false)), (6, (xi (r0.1.length : Int))), (15, (xb false)), (25, (xi (if (w64 (v202 + 1)) < v8.2.2.2.1 then (w64 (v202 + 1)) else v8.2.2.2.1))), (26, (xi s4_10))]
noncomputable def zCm (p0 : za) (v1 : Int) (v8 : zt0) (r0 : (SL Int)) (v202 : Int) (rc : zt8) (fs : List Fr) (s4_10 : Int) (s4_15 : (SL Int)) : St := ⟨(z8w r0 v8 v202 s4_10), ⟨[], ([[(zc 1 (zd p0)), (5, (.cells [(.d (.fn 90 [] []))])), (6, (.cells [(.d (dl eI s4_15.1 s4_15.2))]))], [(2, (.cells [(.yld 0)])), (3, (.cells [(.fn 89 [] [(.d (.pin [(dl zb v8.1.1 v8.1.2), (dl (eL eI) v8.2.1.1 v8.2.1.2), (dl (aI 2) v8.2.2.1.1 v8.2.2.1.2), (di v8.2.2.2.1), (.mp (em (fun k => D.agg (zh k)) (fun b => D.b b) v8.2.2.2.2))])), (.ptr 1 2 0), (.ptr 1 3 0)])]))]] ++ fs)⟩, [⟨(zbl p0 v1 v8), 0, rfP (blk TE 25 0), rfA (blk TE 25 0), rfB (blk TE 25 0), 25, .rdy⟩]⟩
noncomputable def zix (r0 : (SL Int)) (v8 : zt0) (v202 : Int) (r : (Int × (SL Int))) : TM := [(0, (.d (dl eI r0.1 r0.2))), (1, (.d (.pin [(dl zb v8.1.1 v8.1.2), (dl (eL eI) v8.2.1.1 v8.2.1.2), (dl (aI 2) v8.2.2.1.1 v8.2.2.1.2), (di v8.2.2.2.1), (.mp (em (fun k => D.agg (zh k)) (fun b => D.b b) v8.2.2.2.2))]))), (2, (.ptr 1 2 0)), (3, (.ptr 1 3 0)), (5, (xb false)), (6, (xi (r0.1.length : Int))), (15, (xb false)), (25, (xi (if (w64 (v202 + 1)) < v8.2.2.2.1 then (w64 (v202 + 1)) else v8.2.2.2.1))), (26, (xi r.1)), (27, (xb false))]
noncomputable def z9c (p0 : za) (v1 : Int) (v8 : zt0) (r0 : (SL Int)) (v202 : Int) (rc : zt8) (fs : List Fr) (r : (Int × (SL Int))) : St := ⟨(zix r0 v8 v202 r), ⟨[], ([[(zc 1 (zd p0)), (5, (.cells [(.d (.fn 90 [] []))])), (6, (.cells [(.d (dl eI r.2.1 r.2.2))]))], [(2, (.cells [(.yld 0)])), (3, (.cells [(.fn 89 [] [(.d (.pin [(dl zb v8.1.1 v8.1.2), (dl (eL eI) v8.2.1.1 v8.2.1.2), (dl (aI 2) v8.2.2.1.1 v8.2.2.1.2), (di v8.2.2.2.1), (.mp (em (fun k => D.agg (zh k)) (fun b => D.b b) v8.2.2.2.2))])), (.ptr 1 2 0), (.ptr 1 3 0)])]))]] ++ fs)⟩, [⟨(zbl p0 v1 v8), 0, rfP (blk TE 25 0), rfA (blk TE 25 0), rfB (blk TE 25 0), 25, .rdy⟩]⟩
noncomputable def zPm (p0 : za) (v1 : Int) (v8 : zt0) (r0 : (SL Int)) (v202 : Int) (rc : zt8) (fs : List Fr) : (Int × (SL Int)) → Ex × St := fun r => ((.exit 0), z9c p0 v1 v8 r0 v202 rc fs r)
theorem zhi (k : Nat) (p0 : za) (v1 : Int) (v8 : zt0) (r0 : (SL Int)) (v202 : Int) (rc : zt8) (fs : List Fr) (hfs : fs.length ≤ 8) (hrc : zjc p0 v1 v8 rc fs) (s4_10 : Int) (s4_15 : (SL Int)) (x : (Int × (SL Int)) ⊕ (Int × (SL Int))) (h : zMc k p0 v1 v8 r0 v202 rc s4_10 s4_15 = some x) : zN TE 89 (blk TE 89 0) (fun s : (Int × (SL Int)) => zCm p0 v1 v8 r0 v202 rc fs s.1 s.2) (zPm p0 v1 v8 r0 v202 rc fs) (s4_10, s4_15) x := by
 unfold zMc at h
 refine zo h (fun h601 g1 => ?_) (fun h601 g1 => ?_)
 ·refine zl g1 (fun v602 h603 g2 => ?_)
  refine zo g2 (fun h604 g3 => ?_) (fun h604 g3 => ?_)
  ·subst h604
   exact zqn ((w64 (s4_10 + 1)), s4_15) [] [(89, 5, 0, .q (xb true))] [(89, 1000007, (.nor, zEd p0 v1 v8 r0 v202 s4_10 s4_15 rc fs true))] g3 (ob (o_b h601) (ob (zCi k p0 v1 v8 r0 v202 s4_10 s4_15 rc fs hfs hrc _ h603) ob0)) (by cases f8 hfs <;> kernel_rfl)
  ·subst h604
   refine zo g3 (fun h605 g4 => ?_) (fun h605 g4 => ?_)
   ·cases g4
   ·refine zAb g4 (fun h606 g5 => ?_)
    refine zl g5 (fun v607 h608 g6 => ?_)
    exact zqn ((w64 (s4_10 + 1)), v607) [] [(89, 5, 0, .q (xb true)), (89, 8, 4, .q (.d (dl eI r0.1 (ccap r0.2)))), (89, 8, 7, .q (.d (dl eI (r0.1 ++ [s4_10]) .ro))), (89, 8, 8, .i (db true) ⟨[], ([[(1, (.cells ((zd p0).map .d))), (5, (.cells [(.d (.fn 90 [] []))])), (6, (.cells [(.d (dl eI v607.1 v607.2))]))], [(2, (.cells [(.yld 0)])), (3, (.cells [(.fn 89 [] [(.d (.pin [(dl zb v8.1.1 v8.1.2), (dl (eL eI) v8.2.1.1 v8.2.1.2), (dl (aI 2) v8.2.2.1.1 v8.2.2.1.2), (di v8.2.2.2.1), (.mp (em (fun k => D.agg (zh k)) (fun b => D.b b) v8.2.2.2.2))])), (.ptr 1 2 0), (.ptr 1 3 0)])]))]] ++ fs)⟩ [⟨[(0, (.d (.agg (zd p0)))), (1, (.ptr 0 1 0)), (2, (.d (.sl [] .nil))), (3, (xi 0)), (4, (xi v1)), (11, (xb false)), (5, (.ptr 0 5 0)), (6, (.ptr 0 6 0)), (16, (.d (.fn 88 [] [(.pin [(dl zb v8.1.1 v8.1.2), (dl (eL eI) v8.2.1.1 v8.2.1.2), (dl (aI 2) v8.2.2.1.1 v8.2.2.1.2), (di v8.2.2.2.1), (.mp (em (fun k => D.agg (zh k)) (fun b => D.b b) v8.2.2.2.2))])])))], 0, rfP (blk TE 25 0), rfA (blk TE 25 0), rfB (blk TE 25 0), 25, .rdy⟩])] [(89, 1000007, (.nor, zEd p0 v1 v8 r0 v202 s4_10 s4_15 rc fs false))] g6 (ob (o_b h601) (ob (zCi k p0 v1 v8 r0 v202 s4_10 s4_15 rc fs hfs hrc _ h603) (ob (zWl (e := eI) (z := 1) r0.1 r0.2) (ob (o_ad (P := TE.P) (φ := fun _ _ => none) (T := 27) (q := (1, [(di 0)])) (c := (ccap r0.2)) (e := eI) r0.1 s4_10 (by kernel_rfl) (fun _ => rfl) h605 h606) (ob (hrc ([] : Fr) s4_15 ((r0.1 ++ [s4_10]), .ro) _ h608) ob0))))) (by cases f8 hfs <;> kernel_rfl)
 ·exact zqo [(89, 5, 0, .q (xb false))] [] g1 (ob (o_b h601) ob0) (by cases f8 hfs <;> kernel_rfl)
theorem zsl (k : Nat) (p0 : za) (v1 : Int) (v8 : zt0) (rc : zt8) (hrc : zjc p0 v1 v8 rc []) (u1_9 r0 x : (SL Int)) (h : zwb k p0 v1 v8 rc u1_9 r0 = some x) : zHb TE (ev TE) 89 [(.d (dl eI r0.1 r0.2)), (.d (.pin [(dl zb v8.1.1 v8.1.2), (dl (eL eI) v8.2.1.1 v8.2.1.2), (dl (aI 2) v8.2.2.1.1 v8.2.2.1.2), (di v8.2.2.2.1), (.mp (em (fun k => D.agg (zh k)) (fun b => D.b b) v8.2.2.2.2))])), (.ptr 1 2 0), (.ptr 1 3 0)] ⟨[(2, (.cells [(.yld 0)])), (3, (.cells [(.fn 89 [] [(.d (.pin [(dl zb v8.1.1 v8.1.2), (dl (eL eI) v8.2.1.1 v8.2.1.2), (dl (aI 2) v8.2.2.1.1 v8.2.2.1.2), (di v8.2.2.2.1), (.mp (em (fun k => D.agg (zh k)) (fun b => D.b b) v8.2.2.2.2))])), (.ptr 1 2 0), (.ptr 1 3 0)])]))], [[(zc 1 (zd p0)), (5, (.cells [(.d (.fn 90 [] []))])), (6, (.cells [(.d (dl eI u1_9.1 u1_9.2))]))]]⟩ [⟨(zXo p0 v1 v8 k), 0, rfP (blk TE 25 0), rfA (blk TE 25 0), rfB (blk TE 25 0), 25, .rdy⟩] = some (zse p0 v1 v8 x) := by
 unfold zwb at h
 refine zo h (fun h201 g1 => ?_) (fun h201 g1 => ?_)
 ·refine zl g1 (fun v202 h203 g2 => ?_)
  refine zl g2 (fun v204 h205 g3 => ?_)
  exact zRc (g := zse p0 v1 v8) g3 (zMb (n := 80) (V := [(89, 1, 1, .q (xi (r0.1.length : Int))), (89, 2, 4, .q (xi (v8.1.1.length : Int))), (89, 2, 5, .q (xb true))]) (C := [(25, 1000008, (.nor, zCd p0 v1 v8 u1_9 r0 rc ([] : List Fr) v202)), (25, 2000026, (.nor, zAd p0 v1 v8 u1_9 r0 v202 rc ([] : List Fr) v204))]) (ob (zq eI r0.1) (ob (zq zb v8.1.1) (ob (o_b h201) (ob (zli k p0 v1 v8 u1_9 r0 rc ([] : List Fr) (Nat.zero_le _) hrc _ h203) (ob (zFi k p0 v1 v8 u1_9 r0 v202 rc ([] : List Fr) (Nat.zero_le _) hrc _ h205) ob0))))) (by kernel_rfl))
 ·refine zl g1 (fun v202 h203 g2 => ?_)
  refine zl g2 (fun v204 h205 g3 => ?_)
  exact zRc (g := zse p0 v1 v8) g3 (zMb (n := 80) (V := [(89, 1, 1, .q (xi (r0.1.length : Int))), (89, 2, 4, .q (xi (v8.1.1.length : Int))), (89, 2, 5, .q (xb false)), (89, 4, 4, .c (di v202))]) (C := [(89, 0, (.nor, z9c p0 v1 v8 r0 v202 rc ([] : List Fr) v204))]) (ob (zq eI r0.1) (ob (zq zb v8.1.1) (ob (o_b h201) (ob (zS k r0 _ h203) (ob (zz (id := 0) (r' := (.nor, z9c p0 v1 v8 r0 v202 rc ([] : List Fr) v204)) (zkc (zhi k p0 v1 v8 r0 v202 rc ([] : List Fr) (Nat.zero_le _) hrc) k _ _ h205) rfl) ob0))))) (by kernel_rfl))
theorem ztl (k : Nat) (p0 : za) (v1 : Int) (v8 : zt0) (rc : zt8) (f : Fr) (fs : List Fr) (hfs : fs.length + 1 ≤ 8) (hrc : zjc p0 v1 v8 rc (fs ++ [f])) (u1_9 r0 x : (SL Int)) (h : zwb k p0 v1 v8 rc u1_9 r0 = some x) : zHb TE (ev TE) 89 [(.d (dl eI r0.1 r0.2)), (.d (.pin [(dl zb v8.1.1 v8.1.2), (dl (eL eI) v8.2.1.1 v8.2.1.2), (dl (aI 2) v8.2.2.1.1 v8.2.2.1.2), (di v8.2.2.2.1), (.mp (em (fun k => D.agg (zh k)) (fun b => D.b b) v8.2.2.2.2))])), (.ptr 1 2 0), (.ptr 1 3 0)] ⟨f, ([[(zc 1 (zd p0)), (5, (.cells [(.d (.fn 90 [] []))])), (6, (.cells [(.d (dl eI u1_9.1 u1_9.2))]))], [(2, (.cells [(.yld 0)])), (3, (.cells [(.fn 89 [] [(.d (.pin [(dl zb v8.1.1 v8.1.2), (dl (eL eI) v8.2.1.1 v8.2.1.2), (dl (aI 2) v8.2.2.1.1 v8.2.2.1.2), (di v8.2.2.2.1), (.mp (em (fun k => D.agg (zh k)) (fun b => D.b b) v8.2.2.2.2))])), (.ptr 1 2 0), (.ptr 1 3 0)])]))]] ++ fs)⟩ [⟨(zXo p0 v1 v8 k), 0, rfP (blk TE 25 0), rfA (blk TE 25 0), rfB (blk TE 25 0), 25, .rdy⟩] = some (zye p0 v1 v8 f fs x) := by
 unfold zwb at h
 refine zo h (fun h201 g1 => ?_) (fun h201 g1 => ?_)
 ·refine zl g1 (fun v202 h203 g2 => ?_)
  refine zl g2 (fun v204 h205 g3 => ?_)
  exact zRc (g := zye p0 v1 v8 f fs) g3 (zMb (n := 80) (V := [(89, 1, 1, .q (xi (r0.1.length : Int))), (89, 2, 4, .q (xi (v8.1.1.length : Int))), (89, 2, 5, .q (xb true))]) (C := [(25, 1000008, (.nor, zCd p0 v1 v8 u1_9 r0 rc (fs ++ [f]) v202)), (25, 2000026, (.nor, zAd p0 v1 v8 u1_9 r0 v202 rc (fs ++ [f]) v204))]) (ob (zq eI r0.1) (ob (zq zb v8.1.1) (ob (o_b h201) (ob (zli k p0 v1 v8 u1_9 r0 rc (fs ++ [f]) (zlj f hfs) hrc _ h203) (ob (zFi k p0 v1 v8 u1_9 r0 v202 rc (fs ++ [f]) (zlj f hfs) hrc _ h205) ob0))))) (by cases f8 (Nat.le_of_succ_le hfs) <;> kernel_rfl))
 ·refine zl g1 (fun v202 h203 g2 => ?_)
  refine zl g2 (fun v204 h205 g3 => ?_)
  exact zRc (g := zye p0 v1 v8 f fs) g3 (zMb (n := 80) (V := [(89, 1, 1, .q (xi (r0.1.length : Int))), (89, 2, 4, .q (xi (v8.1.1.length : Int))), (89, 2, 5, .q (xb false)), (89, 4, 4, .c (di v202))]) (C := [(89, 0, (.nor, z9c p0 v1 v8 r0 v202 rc (fs ++ [f]) v204))]) (ob (zq eI r0.1) (ob (zq zb v8.1.1) (ob (o_b h201) (ob (zS k r0 _ h203) (ob (zz (id := 0) (r' := (.nor, z9c p0 v1 v8 r0 v202 rc (fs ++ [f]) v204)) (zkc (zhi k p0 v1 v8 r0 v202 rc (fs ++ [f]) (zlj f hfs) hrc) k _ _ h205) rfl) ob0))))) (by cases f8 (Nat.le_of_succ_le hfs) <;> kernel_rfl))
theorem z5h (k : Nat) (p0 : za) (v1 : Int) (v8 : zt0) : ∀ (n : Nat) (fs : List Fr), fs.length + n ≤ 8 → zjc p0 v1 v8 (zlb k p0 v1 v8 n) fs
 | 0, fs, hfs => fun f u1_9 r0 x h => by cases h
 | n + 1, fs, hfs => fun f u1_9 r0 x h => ztl k p0 v1 v8 _ f fs (by omega) (z5h k p0 v1 v8 n (fs ++ [f]) (by simp; omega)) u1_9 r0 x h
theorem zai (k : Nat) (p0 : za) (v1 : Int) (v8 : zt0) (u1_9 r0 x : (SL Int)) (h : zlb k p0 v1 v8 9 u1_9 r0 = some x) : zHb TE (ev TE) 89 [(.d (dl eI r0.1 r0.2)), (.d (.pin [(dl zb v8.1.1 v8.1.2), (dl (eL eI) v8.2.1.1 v8.2.1.2), (dl (aI 2) v8.2.2.1.1 v8.2.2.1.2), (di v8.2.2.2.1), (.mp (em (fun k => D.agg (zh k)) (fun b => D.b b) v8.2.2.2.2))])), (.ptr 1 2 0), (.ptr 1 3 0)] ⟨[(2, (.cells [(.yld 0)])), (3, (.cells [(.fn 89 [] [(.d (.pin [(dl zb v8.1.1 v8.1.2), (dl (eL eI) v8.2.1.1 v8.2.1.2), (dl (aI 2) v8.2.2.1.1 v8.2.2.1.2), (di v8.2.2.2.1), (.mp (em (fun k => D.agg (zh k)) (fun b => D.b b) v8.2.2.2.2))])), (.ptr 1 2 0), (.ptr 1 3 0)])]))], [[(zc 1 (zd p0)), (5, (.cells [(.d (.fn 90 [] []))])), (6, (.cells [(.d (dl eI u1_9.1 u1_9.2))]))]]⟩ [⟨(zXo p0 v1 v8 k), 0, rfP (blk TE 25 0), rfA (blk TE 25 0), rfB (blk TE 25 0), 25, .rdy⟩] = some (zse p0 v1 v8 x) := zsl k p0 v1 v8 _ (z5h k p0 v1 v8 8 [] (by decide)) u1_9 r0 x h
theorem z8 (k : Nat) (p0 : za) (r : ((SL Int) × Int)) (h : zEe k p0 = some r) : zC TE (ev TE) 25 [(.agg (zd p0))] = some (z9f r) := by
 unfold zEe at h
 refine zl h (fun v1 h2 g1 => ?_)
 refine zo g1 (fun h3 g2 => ?_) (fun h3 g2 => ?_)
 ·exact zt (g := z9f) g2 (zqc [(25, 1, 1, .c (di v1)), (25, 2, 1, .q (xb true))] [] (ob (zD k p0 _ h2) (ob (o_b h3) ob0)) (by kernel_rfl))
 ·refine zl g2 (fun v4 h5 g3 => ?_)
  refine zl g3 (fun v6 h7 g4 => ?_)
  refine zl g4 (fun v8 h9 g5 => ?_)
  refine zl g5 (fun v10 h11 g6 => ?_)
  refine zo g6 (fun h12 g7 => ?_) (fun h12 g7 => ?_)
  ·exact zt (g := z9f) g7 (zqc [(25, 1, 1, .c (di v1)), (25, 2, 1, .q (xb false)), (25, 4, 0, .c (.agg [(.fn 90 [] [])])), (25, 6, 1, .c (.agg (zn v6))), (25, 6, 2, .c (.fn 88 [] [(.pin [(dl zb v8.1.1 v8.1.2), (dl (eL eI) v8.2.1.1 v8.2.1.2), (dl (aI 2) v8.2.2.1.1 v8.2.2.1.2), (di v8.2.2.2.1), (.mp (em (fun k => D.agg (zh k)) (fun b => D.b b) v8.2.2.2.2))])])), (88, 3, 1, .i (db true) ⟨[(2, (.cells [(.yld 0)])), (3, (.cells [(.fn 89 [] [(.d (.pin [(dl zb v8.1.1 v8.1.2), (dl (eL eI) v8.2.1.1 v8.2.1.2), (dl (aI 2) v8.2.2.1.1 v8.2.2.1.2), (di v8.2.2.2.1), (.mp (em (fun k => D.agg (zh k)) (fun b => D.b b) v8.2.2.2.2))])), (.ptr 1 2 0), (.ptr 1 3 0)])]))], [[(1, (.cells ((zd p0).map .d))), (5, (.cells [(.d (.fn 90 [] []))])), (6, (.cells [(.d (dl eI v10.1 v10.2))]))]]⟩ [⟨[(0, (.d (.agg (zd p0)))), (1, (.ptr 0 1 0)), (2, (.d (.sl [] .nil))), (3, (xi 0)), (4, (xi v1)), (11, (xb false)), (5, (.ptr 0 5 0)), (6, (.ptr 0 6 0)), (16, (.d (.fn 88 [] [(.pin [(dl zb v8.1.1 v8.1.2), (dl (eL eI) v8.2.1.1 v8.2.1.2), (dl (aI 2) v8.2.2.1.1 v8.2.2.1.2), (di v8.2.2.2.1), (.mp (em (fun k => D.agg (zh k)) (fun b => D.b b) v8.2.2.2.2))])])))], 0, rfP (blk TE 25 0), rfA (blk TE 25 0), rfB (blk TE 25 0), 25, .rdy⟩]), (25, 10, 1, .q (xb true))] [] (ob (zD k p0 _ h2) (ob (o_b h3) (ob (zGj k _ h5) (ob (zmb k p0 _ h7) (ob (z3b k v6 _ h9) (ob (zai k p0 v1 v8 ([], Cap.nil) ([], Cap.nil) _ h11) (ob (o_b h12) ob0))))))) (by kernel_rfl))
  ·exact zt (g := z9f) g7 (zqc [(25, 1, 1, .c (di v1)), (25, 2, 1, .q (xb false)), (25, 4, 0, .c (.agg [(.fn 90 [] [])])), (25, 6, 1, .c (.agg (zn v6))), (25, 6, 2, .c (.fn 88 [] [(.pin [(dl zb v8.1.1 v8.1.2), (dl (eL eI) v8.2.1.1 v8.2.1.2), (dl (aI 2) v8.2.2.1.1 v8.2.2.1.2), (di v8.2.2.2.1), (.mp (em (fun k => D.agg (zh k)) (fun b => D.b b) v8.2.2.2.2))])])), (88, 3, 1, .i (db true) ⟨[(2, (.cells [(.yld 0)])), (3, (.cells [(.fn 89 [] [(.d (.pin [(dl zb v8.1.1 v8.1.2), (dl (eL eI) v8.2.1.1 v8.2.1.2), (dl (aI 2) v8.2.2.1.1 v8.2.2.1.2), (di v8.2.2.2.1), (.mp (em (fun k => D.agg (zh k)) (fun b => D.b b) v8.2.2.2.2))])), (.ptr 1 2 0), (.ptr 1 3 0)])]))], [[(1, (.cells ((zd p0).map .d))), (5, (.cells [(.d (.fn 90 [] []))])), (6, (.cells [(.d (dl eI v10.1 v10.2))]))]]⟩ [⟨[(0, (.d (.agg (zd p0)))), (1, (.ptr 0 1 0)), (2, (.d (.sl [] .nil))), (3, (xi 0)), (4, (xi v1)), (11, (xb false)), (5, (.ptr 0 5 0)), (6, (.ptr 0 6 0)), (16, (.d (.fn 88 [] [(.pin [(dl zb v8.1.1 v8.1.2), (dl (eL eI) v8.2.1.1 v8.2.1.2), (dl (aI 2) v8.2.2.1.1 v8.2.2.1.2), (di v8.2.2.2.1), (.mp (em (fun k => D.agg (zh k)) (fun b => D.b b) v8.2.2.2.2))])])))], 0, rfP (blk TE 25 0), rfA (blk TE 25 0), rfB (blk TE 25 0), 25, .rdy⟩]), (25, 10, 1, .q (xb false)), (25, 12, 2, .q (xi (v10.1.length : Int))), (25, 12, 4, .q (xi (v10.1.length : Int))), (25, 12, 5, .q (.d (dl eI v10.1 (ccap v10.2))))] [] (ob (zD k p0 _ h2) (ob (o_b h3) (ob (zGj k _ h5) (ob (zmb k p0 _ h7) (ob (z3b k v6 _ h9) (ob (zai k p0 v1 v8 ([], Cap.nil) ([], Cap.nil) _ h11) (ob (o_b h12) (ob (zq eI v10.1) (ob (zq eI v10.1) (ob (zWl (e := eI) (z := 1) v10.1 v10.2) ob0)))))))))) (by kernel_rfl))
noncomputable def zJw (p0 p1 : (SL Int)) (s1_3 : Bool) (s1_4 : Int) (r : Bool) : TM := [(0, (.d (dl eI p0.1 p0.2))), (1, (.d (dl eI p1.1 p1.2))), (4, (xb false)), (5, (xb s1_3)), (6, (xi s1_4)), (18, (xb r))]
noncomputable def zzc (p0 p1 : (SL Int)) (s1_3 : Bool) (s1_4 : Int) (r : Bool) : St := ⟨(zJw p0 p1 s1_3 s1_4 r), ⟨[], []⟩, []⟩
noncomputable def zLu (p0 p1 : (SL Int)) (s1_3 : Bool) (s1_4 : Int) : TM := [(0, (.d (dl eI p0.1 p0.2))), (1, (.d (dl eI p1.1 p1.2))), (4, (xb false)), (5, (xb s1_3)), (6, (xi s1_4))]
theorem zzg (k : Nat) (p0 p1 : (SL Int)) (s1_3 : Bool) (s1_4 : Int) (r : Bool) (h : zlf k p0 p1 s1_3 s1_4 = some r) : ev TE 27 (rgn TE 27 3) ⟨(zLu p0 p1 s1_3 s1_4), ⟨[], []⟩, []⟩ = some (.nor, zzc p0 p1 s1_3 s1_4 r) := by
 unfold zlf at h
 refine zo h (fun h401 g1 => ?_) (fun h401 g1 => ?_)
 ·exact zu (g := fun r => (Ex.nor, zzc p0 p1 s1_3 s1_4 r)) g1 (zqe [(27, 3, 1, .q (xb true)), (27, 3, 4, .q (xi (p0.1.length : Int)))] [] (ob (o_b h401) (ob (zq eI p0.1) ob0)) (by kernel_rfl))
 ·exact zu (g := fun r => (Ex.nor, zzc p0 p1 s1_3 s1_4 r)) g1 (zqe [(27, 3, 1, .q (xb false))] [] (ob (o_b h401) ob0) (by kernel_rfl))
noncomputable def zfk (p0 p1 : (SL Int)) (s1_3 : Bool) (s1_4 : Int) : St := ⟨(zLu p0 p1 s1_3 s1_4), ⟨[], []⟩, []⟩
noncomputable def zux (p0 p1 : (SL Int)) (r : zt2) : TM := [(0, (.d (dl eI p0.1 p0.2))), (1, (.d (dl eI p1.1 p1.2))), (4, (xb false)), (5, (xb r.1)), (6, (xi r.2)), (18, (xb false))]
noncomputable def zBe (p0 p1 : (SL Int)) (r : zt2) : St := ⟨(zux p0 p1 r), ⟨[], []⟩, []⟩
noncomputable def zAk (p0 p1 : (SL Int)) : (Bool × Int) → Ex × St := fun r => ((.exit 0), zBe p0 p1 r)
theorem zPj (k : Nat) (p0 p1 : (SL Int)) (s1_3 : Bool) (s1_4 : Int) (x : (Bool × Int) ⊕ (Bool × Int)) (h : zkf k p0 p1 s1_3 s1_4 = some x) : zN TE 27 (blk TE 27 0) (fun s : (Bool × Int) => zfk p0 p1 s.1 s.2) (zAk p0 p1) (s1_3, s1_4) x := by
 unfold zkf at h
 refine zl h (fun v301 h302 g1 => ?_)
 refine zo g1 (fun h303 g2 => ?_) (fun h303 g2 => ?_)
 ·subst h303
  refine zl g2 (fun v304 h305 g3 => ?_)
  refine zl g3 (fun v306 h307 g4 => ?_)
  exact zqn ((v304 == v306), (w64 (s1_4 + 1))) [] [(27, 5, 2, .q (.d (.pin [(di v304)]))), (27, 5, 6, .q (.d (.pin [(di v306)])))] [(27, 1000003, (.nor, zzc p0 p1 s1_3 s1_4 true))] g4 (ob (zzg k p0 p1 s1_3 s1_4 _ h302) (ob (o_ia (e := eI) 1 h305 rfl) (ob (o_ia (e := eI) 1 h307 rfl) ob0))) (by kernel_rfl)
 ·subst h303
  exact zqo [] [(27, 1000003, (.nor, zzc p0 p1 s1_3 s1_4 false))] g2 (ob (zzg k p0 p1 s1_3 s1_4 _ h302) ob0) (by kernel_rfl)
theorem zrf (k : Nat) (p0 p1 : (SL Int)) (r : Bool) (h : zyd k p0 p1 = some r) : zC TE (ev TE) 27 [(dl eI p0.1 p0.2), (dl eI p1.1 p1.2)] = some (z2h r) := by
 unfold zyd at h
 refine zl h (fun v1 h2 g1 => ?_)
 exact zt (g := z2h) g1 (zqc [(27, 1, 1, .q (xi (p0.1.length : Int))), (27, 1, 3, .q (xi (p1.1.length : Int)))] [(27, 0, (.nor, zBe p0 p1 v1))] (ob (zq eI p0.1) (ob (zq eI p1.1) (ob (zz (id := 0) (r' := (.nor, zBe p0 p1 v1)) (zkc (zPj k p0 p1) k _ _ h2) rfl) ob0))) (by kernel_rfl))
theorem zp (k : Nat) (p0 : za) (r : zt1) (h : z6 k p0 = some r) : zC TE (ev TE) 23 [(.agg (zd p0))] = some (zFj r) := by
 unfold z6 at h
 refine zl h (fun v1 h2 g1 => ?_)
 refine zl g1 (fun v3 h4 g2 => ?_)
 exact zt (g := zFj) g2 (zqc [(23, 1, 1, .c (.tup [(dl eI v1.1.1 v1.1.2), (di v1.2)])), (23, 2, 1, .c (di v3))] [] (ob (z8 k p0 _ h2) (ob (zS k v1.1 _ h4) ob0)) (by kernel_rfl))
noncomputable def zph (p0 : zj) (v1 : zt0) : TM := [(0, (.d (.agg (zn p0)))), (zsp 1), (zsp 2), (zsp 3), (10, (.d (.fn 88 [] [(.pin [(dl zb v1.1.1 v1.1.2), (dl (eL eI) v1.2.1.1 v1.2.1.2), (dl (aI 2) v1.2.2.1.1 v1.2.2.1.2), (di v1.2.2.2.1), (.mp (em (fun k => D.agg (zh k)) (fun b => D.b b) v1.2.2.2.2))])])))]
noncomputable def zad (p0 : zj) (v1 : zt0) : ((List (zm × Int)) × Int) → D × FS × List LRec := fun r => ((db true), ⟨[(2, (.cells [(.yld 0)])), (3, (.cells [(.fn 89 [] [(.d (.pin [(dl zb v1.1.1 v1.1.2), (dl (eL eI) v1.2.1.1 v1.2.1.2), (dl (aI 2) v1.2.2.1.1 v1.2.2.1.2), (di v1.2.2.2.1), (.mp (em (fun k => D.agg (zh k)) (fun b => D.b b) v1.2.2.2.2))])), (.ptr 1 2 0), (.ptr 1 3 0)])]))], [[(zc 1 (zn p0)), (2, (.cells [(xi 0), (.d (.mp []))])), (7, (.map (em (fun k => D.agg (zh k)) (fun n => D.i .i64 n) r.1))), (3, (.cells [(xi r.2), (.map 0 7)]))]]⟩, [⟨(zph p0 v1), 0, rfP (blk TE 93 0), rfA (blk TE 93 0), rfB (blk TE 93 0), 93, .rdy⟩])
noncomputable def zhd (p0 : zj) (v1 : zt0) (f : Fr) (fs : List Fr) : ((List (zm × Int)) × Int) → D × FS × List LRec := fun r => ((db true), ⟨f, [[(zc 1 (zn p0)), (2, (.cells [(xi 0), (.d (.mp []))])), (7, (.map (em (fun k => D.agg (zh k)) (fun n => D.i .i64 n) r.1))), (3, (.cells [(xi r.2), (.map 0 7)]))], [(2, (.cells [(.yld 0)])), (3, (.cells [(.fn 89 [] [(.d (.pin [(dl zb v1.1.1 v1.1.2), (dl (eL eI) v1.2.1.1 v1.2.1.2), (dl (aI 2) v1.2.2.1.1 v1.2.2.1.2), (di v1.2.2.2.1), (.mp (em (fun k => D.agg (zh k)) (fun b => D.b b) v1.2.2.2.2))])), (.ptr 1 2 0), (.ptr 1 3 0)])]))]] ++ fs⟩, [⟨(zph p0 v1), 0, rfP (blk TE 93 0), rfA (blk TE 93 0), rfB (blk TE 93 0), 93, .rdy⟩])
noncomputable def zib (p0 : zj) (v1 : zt0) (rc : zt7) (fs : List Fr) : Prop := ∀ (f : Fr) (u1_12 : (List (zm × Int))) (u1_13 : Int) (r0 : (SL Int)) (x : ((List (zm × Int)) × Int)), rc u1_12 u1_13 r0 = some x → zHb TE (ev TE) 89 [(.d (dl eI r0.1 r0.2)), (.d (.pin [(dl zb v1.1.1 v1.1.2), (dl (eL eI) v1.2.1.1 v1.2.1.2), (dl (aI 2) v1.2.2.1.1 v1.2.2.1.2), (di v1.2.2.2.1), (.mp (em (fun k => D.agg (zh k)) (fun b => D.b b) v1.2.2.2.2))])), (.ptr 1 2 0), (.ptr 1 3 0)] ⟨f, ([[(zc 1 (zn p0)), (2, (.cells [(xi 0), (.d (.mp []))])), (7, (.map (em (fun k => D.agg (zh k)) (fun n => D.i .i64 n) u1_12))), (3, (.cells [(xi u1_13), (.map 0 7)]))], [(2, (.cells [(.yld 0)])), (3, (.cells [(.fn 89 [] [(.d (.pin [(dl zb v1.1.1 v1.1.2), (dl (eL eI) v1.2.1.1 v1.2.1.2), (dl (aI 2) v1.2.2.1.1 v1.2.2.1.2), (di v1.2.2.2.1), (.mp (em (fun k => D.agg (zh k)) (fun b => D.b b) v1.2.2.2.2))])), (.ptr 1 2 0), (.ptr 1 3 0)])]))]] ++ fs)⟩ [⟨(zph p0 v1), 0, rfP (blk TE 93 0), rfA (blk TE 93 0), rfB (blk TE 93 0), 93, .rdy⟩] = some (zhd p0 v1 f fs x)
noncomputable def zAw (p0 : zj) (v1 : zt0) (r0 : (SL Int)) (s2_13 s6_17 : Int) (r : (Bool × (List (zm × Int)))) : TM := zph p0 v1 ++ [(11, (.d (dl eI r0.1 r0.2))), (4, (.d (dl eI r0.1 r0.2))), (17, (xi (r0.1.length : Int))), (18, (xi s2_13)), (19, (xb true)), (5, (xi s2_13)), (22, (xi (r0.1.length : Int))), (23, (xi s6_17)), (24, (xb true)), (6, (xi s6_17)), (34, (xb r.1))]
noncomputable def zvd (p0 : zj) (v1 : zt0) (u1_13 : Int) (r0 : (SL Int)) (s2_13 s6_17 : Int) (s6_25 : zt9) (cb : Bool) (rc : zt7) (fs : List Fr) (r : (Bool × (List (zm × Int)))) : St := ⟨(zAw p0 v1 r0 s2_13 s6_17 r), ⟨[], ([[(zc 1 (zn p0)), (2, (.cells [(xi 0), (.d (.mp []))])), (7, (.map (em (fun k => D.agg (zh k)) (fun n => D.i .i64 n) r.2))), (3, (.cells [(xi (w64 (u1_13 + 1))), (.map 0 7)]))], [(2, (.cells [(.yld 0)])), (3, (.cells [(.fn 89 [] [(.d (.pin [(dl zb v1.1.1 v1.1.2), (dl (eL eI) v1.2.1.1 v1.2.1.2), (dl (aI 2) v1.2.2.1.1 v1.2.2.1.2), (di v1.2.2.2.1), (.mp (em (fun k => D.agg (zh k)) (fun b => D.b b) v1.2.2.2.2))])), (.ptr 1 2 0), (.ptr 1 3 0)])]))]] ++ (fs ++ [[]]))⟩, [⟨(zph p0 v1), 0, rfP (blk TE 93 0), rfA (blk TE 93 0), rfB (blk TE 93 0), 93, .busy⟩]⟩
noncomputable def znw (p0 : zj) (v1 : zt0) (k : Nat) (r0 : (SL Int)) (s2_13 s6_17 : Int) (cb : Bool) : TM := [(0, (.d (.agg (zn p0)))), (zsp 1), (zsp 2), (zsp 3), (10, (.d (.fn 88 [] [(.pin [(dl zb v1.1.1 v1.1.2), (dl (eL eI) v1.2.1.1 v1.2.1.2), (dl (aI 2) v1.2.2.1.1 v1.2.2.1.2), (di v1.2.2.2.1), (.mp (em (fun k => D.agg (zh k)) (fun b => D.b b) v1.2.2.2.2))])]))), (11, (.d (dl eI r0.1 r0.2))), (4, (.d (dl eI r0.1 r0.2))), (17, (xi (r0.1.length : Int))), (18, (xi s2_13)), (19, (xb true)), (5, (xi s2_13)), (22, (xi (r0.1.length : Int))), (23, (xi s6_17)), (24, (xb true)), (6, (xi s6_17)), (34, (xb cb))]
noncomputable def zuq (p0 : zj) (v1 : zt0) (k : Nat) : TM := [(0, (.d (.agg (zn p0)))), (zsp 1), (zsp 2), (zsp 3), (10, (.d (.fn 88 [] [(.pin [(dl zb v1.1.1 v1.1.2), (dl (eL eI) v1.2.1.1 v1.2.1.2), (dl (aI 2) v1.2.2.1.1 v1.2.2.1.2), (di v1.2.2.2.1), (.mp (em (fun k => D.agg (zh k)) (fun b => D.b b) v1.2.2.2.2))])])))]
theorem zzk (k : Nat) (p0 : zj) (v1 : zt0) (u1_13 : Int) (r0 : (SL Int)) (s2_13 s6_17 : Int) (s6_25 : zt9) (cb : Bool) (rc : zt7) (fs : List Fr) (hfs : fs.length ≤ 8) (hrc : zib p0 v1 rc fs) (r : (Bool × (List (zm × Int)))) (h : zLf k p0 v1 u1_13 r0 s2_13 s6_17 s6_25 cb rc = some r) : ev TE 93 (cnd TE 93 34) ⟨(znw p0 v1 k r0 s2_13 s6_17 cb), ⟨[], ([[(zc 1 (zn p0)), (2, (.cells [(xi 0), (.d (.mp []))])), (7, (.map (em (fun k => D.agg (zh k)) (fun n => D.i .i64 n) s6_25))), (3, (.cells [(xi (w64 (u1_13 + 1))), (.map 0 7)]))], [(2, (.cells [(.yld 0)])), (3, (.cells [(.fn 89 [] [(.d (.pin [(dl zb v1.1.1 v1.1.2), (dl (eL eI) v1.2.1.1 v1.2.1.2), (dl (aI 2) v1.2.2.1.1 v1.2.2.1.2), (di v1.2.2.2.1), (.mp (em (fun k => D.agg (zh k)) (fun b => D.b b) v1.2.2.2.2))])), (.ptr 1 2 0), (.ptr 1 3 0)])]))]] ++ (fs ++ [[]]))⟩, [⟨(zuq p0 v1 k), 0, rfP (blk TE 93 0), rfA (blk TE 93 0), rfB (blk TE 93 0), 93, .busy⟩]⟩ = some (.nor, zvd p0 v1 u1_13 r0 s2_13 s6_17 s6_25 cb rc fs r) := by
 unfold zLf at h
 refine zo h (fun h901 g1 => ?_) (fun h901 g1 => ?_)
 ·subst h901
  exact zu (g := fun r => (Ex.nor, zvd p0 v1 u1_13 r0 s2_13 s6_17 s6_25 true rc fs r)) g1 (zqe [(93, 12, 5, .q (xi ((zP zx (⟨s2_13, s6_17⟩ : zm) s6_25).getD 0))), (93, 12, 7, .me (di ((zP zx (⟨s2_13, s6_17⟩ : zm) s6_25).getD 0)) (midx zx (⟨s2_13, s6_17⟩ : zm) s6_25) (em (fun k => D.agg (zh k)) (fun n => D.i .i64 n) (ment zx (⟨s2_13, s6_17⟩ : zm) 0 s6_25))), (93, 12, 9, .mp (em (fun k => D.agg (zh k)) (fun n => D.i .i64 n) (mset zx (⟨s2_13, s6_17⟩ : zm) (w64 (((zP zx (⟨s2_13, s6_17⟩ : zm) s6_25).getD 0) + 1)) s6_25)))] [] (ob (znk (ek := (fun k => D.agg (zh k))) (evl := (fun n => D.i .i64 n)) (q := zx) (fun _ _ => rfl) (⟨s2_13, s6_17⟩ : zm) s6_25 0) (ob (o_me (ek := (fun k => D.agg (zh k))) (evl := (fun n => D.i .i64 n)) (q := zx) (fun _ _ => rfl) (⟨s2_13, s6_17⟩ : zm) 0 s6_25) (ob (o_es (ek := (fun k => D.agg (zh k))) (evl := (fun n => D.i .i64 n)) (q := zx) (⟨s2_13, s6_17⟩ : zm) 0 (w64 (((zP zx (⟨s2_13, s6_17⟩ : zm) s6_25).getD 0) + 1)) s6_25) ob0))) (by cases f8 hfs <;> kernel_rfl))
 ·subst h901
  exact zu (g := fun r => (Ex.nor, zvd p0 v1 u1_13 r0 s2_13 s6_17 s6_25 false rc fs r)) g1 (zqe [] [] ob0 (by cases f8 hfs <;> kernel_rfl))
noncomputable def z0w (p0 : zj) (v1 : zt0) (r0 : (SL Int)) (s2_13 s6_17 : Int) : TM := zph p0 v1 ++ [(11, (.d (dl eI r0.1 r0.2))), (4, (.d (dl eI r0.1 r0.2))), (17, (xi (r0.1.length : Int))), (18, (xi s2_13)), (19, (xb true)), (5, (xi s2_13)), (22, (xi (r0.1.length : Int))), (23, (xi s6_17))]
noncomputable def zSk (p0 : zj) (v1 : zt0) (u1_13 : Int) (r0 : (SL Int)) (s2_13 : Int) (rc : zt7) (fs : List Fr) (s6_17 : Int) (s6_25 : zt9) : St := ⟨(z0w p0 v1 r0 s2_13 s6_17), ⟨[], ([[(zc 1 (zn p0)), (2, (.cells [(xi 0), (.d (.mp []))])), (7, (.map (em (fun k => D.agg (zh k)) (fun n => D.i .i64 n) s6_25))), (3, (.cells [(xi (w64 (u1_13 + 1))), (.map 0 7)]))], [(2, (.cells [(.yld 0)])), (3, (.cells [(.fn 89 [] [(.d (.pin [(dl zb v1.1.1 v1.1.2), (dl (eL eI) v1.2.1.1 v1.2.1.2), (dl (aI 2) v1.2.2.1.1 v1.2.2.1.2), (di v1.2.2.2.1), (.mp (em (fun k => D.agg (zh k)) (fun b => D.b b) v1.2.2.2.2))])), (.ptr 1 2 0), (.ptr 1 3 0)])]))]] ++ (fs ++ [[]]))⟩, [⟨(zph p0 v1), 0, rfP (blk TE 93 0), rfA (blk TE 93 0), rfB (blk TE 93 0), 93, .busy⟩]⟩
noncomputable def zTw (p0 : zj) (v1 : zt0) (r0 : (SL Int)) (s2_13 : Int) (r : (Int × (List (zm × Int)))) : TM := zph p0 v1 ++ [(11, (.d (dl eI r0.1 r0.2))), (4, (.d (dl eI r0.1 r0.2))), (17, (xi (r0.1.length : Int))), (18, (xi s2_13)), (19, (xb true)), (5, (xi s2_13)), (22, (xi (r0.1.length : Int))), (23, (xi r.1)), (24, (xb false))]
noncomputable def zLe (p0 : zj) (v1 : zt0) (u1_13 : Int) (r0 : (SL Int)) (s2_13 : Int) (rc : zt7) (fs : List Fr) (r : (Int × (List (zm × Int)))) : St := ⟨(zTw p0 v1 r0 s2_13 r), ⟨[], ([[(zc 1 (zn p0)), (2, (.cells [(xi 0), (.d (.mp []))])), (7, (.map (em (fun k => D.agg (zh k)) (fun n => D.i .i64 n) r.2))), (3, (.cells [(xi (w64 (u1_13 + 1))), (.map 0 7)]))], [(2, (.cells [(.yld 0)])), (3, (.cells [(.fn 89 [] [(.d (.pin [(dl zb v1.1.1 v1.1.2), (dl (eL eI) v1.2.1.1 v1.2.1.2), (dl (aI 2) v1.2.2.1.1 v1.2.2.1.2), (di v1.2.2.2.1), (.mp (em (fun k => D.agg (zh k)) (fun b => D.b b) v1.2.2.2.2))])), (.ptr 1 2 0), (.ptr 1 3 0)])]))]] ++ (fs ++ [[]]))⟩, [⟨(zph p0 v1), 0, rfP (blk TE 93 0), rfA (blk TE 93 0), rfB (blk TE 93 0), 93, .busy⟩]⟩
noncomputable def zRk (p0 : zj) (v1 : zt0) (u1_13 : Int) (r0 : (SL Int)) (s2_13 : Int) (rc : zt7) (fs : List Fr) : (Int × (List (zm × Int))) → Ex × St := fun r => ((.exit 4), zLe p0 v1 u1_13 r0 s2_13 rc fs r)
theorem zqk (k : Nat) (p0 : zj) (v1 : zt0) (u1_13 : Int) (r0 : (SL Int)) (s2_13 : Int) (rc : zt7) (fs : List Fr) (hfs : fs.length ≤ 8) (hrc : zib p0 v1 rc fs) (s6_17 : Int) (s6_25 : zt9) (x : (Int × (List (zm × Int))) ⊕ (Int × (List (zm × Int)))) (h : zJf k p0 v1 u1_13 r0 s2_13 rc s6_17 s6_25 = some x) : zN TE 93 (blk TE 93 4) (fun s : (Int × (List (zm × Int))) => zSk p0 v1 u1_13 r0 s2_13 rc fs s.1 s.2) (zRk p0 v1 u1_13 r0 s2_13 rc fs) (s6_17, s6_25) x := by
 unfold zJf at h
 refine zo h (fun h801 g1 => ?_) (fun h801 g1 => ?_)
 ·refine zl g1 (fun v802 h803 g2 => ?_)
  refine zl g2 (fun v804 h805 g3 => ?_)
  refine zl g3 (fun v806 h807 g4 => ?_)
  exact zqn ((w64 (s6_17 + 1)), v806.2) [] [(93, 9, 0, .q (xb true)), (93, 11, 2, .q (.d (.pin [(di v802)]))), (93, 11, 6, .q (.d (.pin [(di v804)])))] [(93, 2000034, (.nor, zvd p0 v1 u1_13 r0 s2_13 s6_17 s6_25 (v802 == v804) rc fs v806))] g4 (ob (o_b h801) (ob (o_ia (e := eI) 1 h803 rfl) (ob (o_ia (e := eI) 1 h805 rfl) (ob (zzk k p0 v1 u1_13 r0 s2_13 s6_17 s6_25 (v802 == v804) rc fs hfs hrc _ h807) ob0)))) (by cases f8 hfs <;> kernel_rfl)
 ·exact zqo [(93, 9, 0, .q (xb false))] [] g1 (ob (o_b h801) ob0) (by cases f8 hfs <;> kernel_rfl)
noncomputable def zQw (p0 : zj) (v1 : zt0) (r0 : (SL Int)) (s2_13 : Int) : TM := zph p0 v1 ++ [(11, (.d (dl eI r0.1 r0.2))), (4, (.d (dl eI r0.1 r0.2))), (17, (xi (r0.1.length : Int))), (18, (xi s2_13))]
noncomputable def zKk (p0 : zj) (v1 : zt0) (u1_13 : Int) (r0 : (SL Int)) (rc : zt7) (fs : List Fr) (s2_13 : Int) (s2_21 : zt9) : St := ⟨(zQw p0 v1 r0 s2_13), ⟨[], ([[(zc 1 (zn p0)), (2, (.cells [(xi 0), (.d (.mp []))])), (7, (.map (em (fun k => D.agg (zh k)) (fun n => D.i .i64 n) s2_21))), (3, (.cells [(xi (w64 (u1_13 + 1))), (.map 0 7)]))], [(2, (.cells [(.yld 0)])), (3, (.cells [(.fn 89 [] [(.d (.pin [(dl zb v1.1.1 v1.1.2), (dl (eL eI) v1.2.1.1 v1.2.1.2), (dl (aI 2) v1.2.2.1.1 v1.2.2.1.2), (di v1.2.2.2.1), (.mp (em (fun k => D.agg (zh k)) (fun b => D.b b) v1.2.2.2.2))])), (.ptr 1 2 0), (.ptr 1 3 0)])]))]] ++ (fs ++ [[]]))⟩, [⟨(zph p0 v1), 0, rfP (blk TE 93 0), rfA (blk TE 93 0), rfB (blk TE 93 0), 93, .busy⟩]⟩
noncomputable def ztw (p0 : zj) (v1 : zt0) (r0 : (SL Int)) (r : (Int × (List (zm × Int)))) : TM := zph p0 v1 ++ [(11, (.d (dl eI r0.1 r0.2))), (4, (.d (dl eI r0.1 r0.2))), (17, (xi (r0.1.length : Int))), (18, (xi r.1)), (19, (xb false))]
noncomputable def zAc (p0 : zj) (v1 : zt0) (u1_13 : Int) (r0 : (SL Int)) (rc : zt7) (fs : List Fr) (r : (Int × (List (zm × Int)))) : St := ⟨(ztw p0 v1 r0 r), ⟨[], ([[(zc 1 (zn p0)), (2, (.cells [(xi 0), (.d (.mp []))])), (7, (.map (em (fun k => D.agg (zh k)) (fun n => D.i .i64 n) r.2))), (3, (.cells [(xi (w64 (u1_13 + 1))), (.map 0 7)]))], [(2, (.cells [(.yld 0)])), (3, (.cells [(.fn 89 [] [(.d (.pin [(dl zb v1.1.1 v1.1.2), (dl (eL eI) v1.2.1.1 v1.2.1.2), (dl (aI 2) v1.2.2.1.1 v1.2.2.1.2), (di v1.2.2.2.1), (.mp (em (fun k => D.agg (zh k)) (fun b => D.b b) v1.2.2.2.2))])), (.ptr 1 2 0), (.ptr 1 3 0)])]))]] ++ (fs ++ [[]]))⟩, [⟨(zph p0 v1), 0, rfP (blk TE 93 0), rfA (blk TE 93 0), rfB (blk TE 93 0), 93, .busy⟩]⟩
noncomputable def zLk (p0 : zj) (v1 : zt0) (u1_13 : Int) (r0 : (SL Int)) (rc : zt7) (fs : List Fr) : (Int × (List (zm × Int))) → Ex × St := fun r => ((.exit 2), zAc p0 v1 u1_13 r0 rc fs r)
theorem zTg (k : Nat) (p0 : zj) (v1 : zt0) (u1_13 : Int) (r0 : (SL Int)) (rc : zt7) (fs : List Fr) (hfs : fs.length ≤ 8) (hrc : zib p0 v1 rc fs) (s2_13 : Int) (s2_21 : zt9) (x : (Int × (List (zm × Int))) ⊕ (Int × (List (zm × Int)))) (h : zRf k p0 v1 u1_13 r0 rc s2_13 s2_21 = some x) : zN TE 93 (blk TE 93 2) (fun s : (Int × (List (zm × Int))) => zKk p0 v1 u1_13 r0 rc fs s.1 s.2) (zLk p0 v1 u1_13 r0 rc fs) (s2_13, s2_21) x := by
 unfold zRf at h
 refine zo h (fun h601 g1 => ?_) (fun h601 g1 => ?_)
 ·refine zl g1 (fun v602 h603 g2 => ?_)
  exact zqn ((w64 (s2_13 + 1)), v602.2) [] [(93, 6, 0, .q (xb true)), (93, 8, 1, .q (xi (r0.1.length : Int)))] [(93, 4, (.nor, zLe p0 v1 u1_13 r0 s2_13 rc fs v602))] g2 (ob (o_b h601) (ob (zq eI r0.1) (ob (zz (id := 4) (r' := (.nor, zLe p0 v1 u1_13 r0 s2_13 rc fs v602)) (zkc (zqk k p0 v1 u1_13 r0 s2_13 rc fs hfs hrc) k _ _ h603) rfl) ob0))) (by cases f8 hfs <;> kernel_rfl)
 ·exact zqo [(93, 6, 0, .q (xb false))] [] g1 (ob (o_b h601) ob0) (by cases f8 hfs <;> kernel_rfl)
noncomputable def z8u (r0 : (SL Int)) (v1 : zt0) (v202 s9_10 : Int) (r : Bool) : TM := [(0, (.d (dl eI r0.1 r0.2))), (1, (.d (.pin [(dl zb v1.1.1 v1.1.2), (dl (eL eI) v1.2.1.1 v1.2.1.2), (dl (aI 2) v1.2.2.1.1 v1.2.2.1.2), (di v1.2.2.2.1), (.mp (em (fun k => D.agg (zh k)) (fun b => D.b b) v1.2.2.2.2))]))), (2, (.ptr 1 2 0)), (3, (.ptr 1 3 0)), (5, (xb false)), (6, (xi (r0.1.length : Int))), (15, (xb false)), (25, (xi (if (w64 (v202 + 1)) < v1.2.2.2.1 then (w64 (v202 + 1)) else v1.2.2.2.1))), (26, (xi s9_10)), (27, (xb true)), (7, (xi s9_10)), (43, (xb r))]
noncomputable def zvc (p0 : zj) (v1 : zt0) (r0 : (SL Int)) (v202 s9_10 : Int) (s9_18 : zt9) (s9_19 : Int) (rc : zt7) (fs : List Fr) (r : Bool) : St := ⟨(z8u r0 v1 v202 s9_10 r), ⟨[], ([[(zc 1 (zn p0)), (2, (.cells [(xi 0), (.d (.mp []))])), (7, (.map (em (fun k => D.agg (zh k)) (fun n => D.i .i64 n) s9_18))), (3, (.cells [(xi s9_19), (.map 0 7)]))], [(2, (.cells [(.yld 0)])), (3, (.cells [(.fn 89 [] [(.d (.pin [(dl zb v1.1.1 v1.1.2), (dl (eL eI) v1.2.1.1 v1.2.1.2), (dl (aI 2) v1.2.2.1.1 v1.2.2.1.2), (di v1.2.2.2.1), (.mp (em (fun k => D.agg (zh k)) (fun b => D.b b) v1.2.2.2.2))])), (.ptr 1 2 0), (.ptr 1 3 0)])]))]] ++ fs)⟩, [⟨(zph p0 v1), 0, rfP (blk TE 93 0), rfA (blk TE 93 0), rfB (blk TE 93 0), 93, .rdy⟩]⟩
noncomputable def zov (r0 : (SL Int)) (v1 : zt0) (k : Nat) (v202 s9_10 : Int) : TM := [(0, (.d (dl eI r0.1 r0.2))), (1, (.d (.pin [(dl zb v1.1.1 v1.1.2), (dl (eL eI) v1.2.1.1 v1.2.1.2), (dl (aI 2) v1.2.2.1.1 v1.2.2.1.2), (di v1.2.2.2.1), (.mp (em (fun k => D.agg (zh k)) (fun b => D.b b) v1.2.2.2.2))]))), (2, (.ptr 1 2 0)), (3, (.ptr 1 3 0)), (5, (xb false)), (6, (xi (r0.1.length : Int))), (15, (xb false)), (25, (xi (if (w64 (v202 + 1)) < v1.2.2.2.1 then (w64 (v202 + 1)) else v1.2.2.2.1))), (26, (xi s9_10)), (27, (xb true)), (7, (xi s9_10))]
theorem zMg (k : Nat) (p0 : zj) (v1 : zt0) (r0 : (SL Int)) (v202 s9_10 : Int) (s9_18 : zt9) (s9_19 : Int) (rc : zt7) (fs : List Fr) (hfs : fs.length ≤ 8) (hrc : zib p0 v1 rc fs) (r : Bool) (h : zmf k p0 v1 r0 v202 s9_10 s9_18 s9_19 rc = some r) : ev TE 89 (rgn TE 89 7) ⟨(zov r0 v1 k v202 s9_10), ⟨[], ([[(zc 1 (zn p0)), (2, (.cells [(xi 0), (.d (.mp []))])), (7, (.map (em (fun k => D.agg (zh k)) (fun n => D.i .i64 n) s9_18))), (3, (.cells [(xi s9_19), (.map 0 7)]))], [(2, (.cells [(.yld 0)])), (3, (.cells [(.fn 89 [] [(.d (.pin [(dl zb v1.1.1 v1.1.2), (dl (eL eI) v1.2.1.1 v1.2.1.2), (dl (aI 2) v1.2.2.1.1 v1.2.2.1.2), (di v1.2.2.2.1), (.mp (em (fun k => D.agg (zh k)) (fun b => D.b b) v1.2.2.2.2))])), (.ptr 1 2 0), (.ptr 1 3 0)])]))]] ++ fs)⟩, [⟨(zuq p0 v1 k), 0, rfP (blk TE 93 0), rfA (blk TE 93 0), rfB (blk TE 93 0), 93, .rdy⟩]⟩ = some (.nor, zvc p0 v1 r0 v202 s9_10 s9_18 s9_19 rc fs r) := by
 unfold zmf at h
 refine zl h (fun v1201 h1202 g1 => ?_)
 refine zo g1 (fun h1203 g2 => ?_) (fun h1203 g2 => ?_)
 ·exact zu (g := fun r => (Ex.nor, zvc p0 v1 r0 v202 s9_10 s9_18 s9_19 rc fs r)) g2 (zqe [(89, 7, 4, .c (db v1201)), (89, 7, 6, .q (xb true))] [] (ob (zZ k (⟨(⟨v1.1, v1.2.1, v1.2.2.1, v1.2.2.2.1⟩ : za), v1.2.2.2.2⟩ : zj) r0 (r0.1.length : Int) s9_10 _ h1202) (ob (o_b h1203) ob0)) (by cases f8 hfs <;> kernel_rfl))
 ·refine zl g2 (fun v1204 h1205 g3 => ?_)
  refine zl g3 (fun v1206 h1207 g4 => ?_)
  exact zu (g := fun r => (Ex.nor, zvc p0 v1 r0 v202 s9_10 s9_18 s9_19 rc fs r)) g4 (zqe [(89, 7, 4, .c (db v1201)), (89, 7, 6, .q (xb false)), (89, 7, 10, .c (.agg (aB 8 v1204))), (89, 7, 12, .c (db v1206))] [] (ob (zZ k (⟨(⟨v1.1, v1.2.1, v1.2.2.1, v1.2.2.2.1⟩ : za), v1.2.2.2.2⟩ : zj) r0 (r0.1.length : Int) s9_10 _ h1202) (ob (o_b h1203) (ob (zie k r0 s9_10 _ h1205) (ob (z6b k (⟨(⟨v1.1, v1.2.1, v1.2.2.1, v1.2.2.2.1⟩ : za), v1.2.2.2.2⟩ : zj) v1204 (r0.1.length : Int) _ h1207) ob0)))) (by cases f8 hfs <;> kernel_rfl))
noncomputable def z4v (r0 : (SL Int)) (v1 : zt0) (v202 s9_10 : Int) : TM := [(0, (.d (dl eI r0.1 r0.2))), (1, (.d (.pin [(dl zb v1.1.1 v1.1.2), (dl (eL eI) v1.2.1.1 v1.2.1.2), (dl (aI 2) v1.2.2.1.1 v1.2.2.1.2), (di v1.2.2.2.1), (.mp (em (fun k => D.agg (zh k)) (fun b => D.b b) v1.2.2.2.2))]))), (2, (.ptr 1 2 0)), (3, (.ptr 1 3 0)), (5, (xb false)), (6, (xi (r0.1.length : Int))), (15, (xb false)), (25, (xi (if (w64 (v202 + 1)) < v1.2.2.2.1 then (w64 (v202 + 1)) else v1.2.2.2.1))), (26, (xi s9_10))]
noncomputable def zNk (p0 : zj) (v1 : zt0) (r0 : (SL Int)) (v202 : Int) (rc : zt7) (fs : List Fr) (s9_10 : Int) (s9_18 : zt9) (s9_19 : Int) : St := ⟨(z4v r0 v1 v202 s9_10), ⟨[], ([[(zc 1 (zn p0)), (2, (.cells [(xi 0), (.d (.mp []))])), (7, (.map (em (fun k => D.agg (zh k)) (fun n => D.i .i64 n) s9_18))), (3, (.cells [(xi s9_19), (.map 0 7)]))], [(2, (.cells [(.yld 0)])), (3, (.cells [(.fn 89 [] [(.d (.pin [(dl zb v1.1.1 v1.1.2), (dl (eL eI) v1.2.1.1 v1.2.1.2), (dl (aI 2) v1.2.2.1.1 v1.2.2.1.2), (di v1.2.2.2.1), (.mp (em (fun k => D.agg (zh k)) (fun b => D.b b) v1.2.2.2.2))])), (.ptr 1 2 0), (.ptr 1 3 0)])]))]] ++ fs)⟩, [⟨(zph p0 v1), 0, rfP (blk TE 93 0), rfA (blk TE 93 0), rfB (blk TE 93 0), 93, .rdy⟩]⟩
noncomputable def zLv (r0 : (SL Int)) (v1 : zt0) (v202 : Int) (r : (Int × (List (zm × Int)) × Int)) : TM := [(0, (.d (dl eI r0.1 r0.2))), (1, (.d (.pin [(dl zb v1.1.1 v1.1.2), (dl (eL eI) v1.2.1.1 v1.2.1.2), (dl (aI 2) v1.2.2.1.1 v1.2.2.1.2), (di v1.2.2.2.1), (.mp (em (fun k => D.agg (zh k)) (fun b => D.b b) v1.2.2.2.2))]))), (2, (.ptr 1 2 0)), (3, (.ptr 1 3 0)), (5, (xb false)), (6, (xi (r0.1.length : Int))), (15, (xb false)), (25, (xi (if (w64 (v202 + 1)) < v1.2.2.2.1 then (w64 (v202 + 1)) else v1.2.2.2.1))), (26, (xi r.1)), (27, (xb false))]
noncomputable def zxc (p0 : zj) (v1 : zt0) (r0 : (SL Int)) (v202 : Int) (rc : zt7) (fs : List Fr) (r : (Int × (List (zm × Int)) × Int)) : St := ⟨(zLv r0 v1 v202 r), ⟨[], ([[(zc 1 (zn p0)), (2, (.cells [(xi 0), (.d (.mp []))])), (7, (.map (em (fun k => D.agg (zh k)) (fun n => D.i .i64 n) r.2.1))), (3, (.cells [(xi r.2.2), (.map 0 7)]))], [(2, (.cells [(.yld 0)])), (3, (.cells [(.fn 89 [] [(.d (.pin [(dl zb v1.1.1 v1.1.2), (dl (eL eI) v1.2.1.1 v1.2.1.2), (dl (aI 2) v1.2.2.1.1 v1.2.2.1.2), (di v1.2.2.2.1), (.mp (em (fun k => D.agg (zh k)) (fun b => D.b b) v1.2.2.2.2))])), (.ptr 1 2 0), (.ptr 1 3 0)])]))]] ++ fs)⟩, [⟨(zph p0 v1), 0, rfP (blk TE 93 0), rfA (blk TE 93 0), rfB (blk TE 93 0), 93, .rdy⟩]⟩
noncomputable def zOk (p0 : zj) (v1 : zt0) (r0 : (SL Int)) (v202 : Int) (rc : zt7) (fs : List Fr) : (Int × (List (zm × Int)) × Int) → Ex × St := fun r => ((.exit 0), zxc p0 v1 r0 v202 rc fs r)
theorem zSg (k : Nat) (p0 : zj) (v1 : zt0) (r0 : (SL Int)) (v202 : Int) (rc : zt7) (fs : List Fr) (hfs : fs.length ≤ 8) (hrc : zib p0 v1 rc fs) (s9_10 : Int) (s9_18 : zt9) (s9_19 : Int) (x : (Int × (List (zm × Int)) × Int) ⊕ (Int × (List (zm × Int)) × Int)) (h : zMf k p0 v1 r0 v202 rc s9_10 s9_18 s9_19 = some x) : zN TE 89 (blk TE 89 0) (fun s : (Int × (List (zm × Int)) × Int) => zNk p0 v1 r0 v202 rc fs s.1 s.2.1 s.2.2) (zOk p0 v1 r0 v202 rc fs) (s9_10, s9_18, s9_19) x := by
 unfold zMf at h
 refine zo h (fun h1101 g1 => ?_) (fun h1101 g1 => ?_)
 ·refine zl g1 (fun v1102 h1103 g2 => ?_)
  refine zo g2 (fun h1104 g3 => ?_) (fun h1104 g3 => ?_)
  ·subst h1104
   exact zqn ((w64 (s9_10 + 1)), s9_18, s9_19) [] [(89, 5, 0, .q (xb true))] [(89, 1000007, (.nor, zvc p0 v1 r0 v202 s9_10 s9_18 s9_19 rc fs true))] g3 (ob (o_b h1101) (ob (zMg k p0 v1 r0 v202 s9_10 s9_18 s9_19 rc fs hfs hrc _ h1103) ob0)) (by cases f8 hfs <;> kernel_rfl)
  ·subst h1104
   refine zo g3 (fun h1105 g4 => ?_) (fun h1105 g4 => ?_)
   ·cases g4
   ·refine zAb g4 (fun h1106 g5 => ?_)
    refine zl g5 (fun v1107 h1108 g6 => ?_)
    exact zqn ((w64 (s9_10 + 1)), v1107.1, v1107.2) [] [(89, 5, 0, .q (xb true)), (89, 8, 4, .q (.d (dl eI r0.1 (ccap r0.2)))), (89, 8, 7, .q (.d (dl eI (r0.1 ++ [s9_10]) .ro))), (89, 8, 8, .i (db true) ⟨[], ([[(1, (.cells ((zn p0).map .d))), (2, (.cells [(xi 0), (.d (.mp []))])), (7, (.map (em (fun k => D.agg (zh k)) (fun n => D.i .i64 n) v1107.1))), (3, (.cells [(xi v1107.2), (.map 0 7)]))], [(2, (.cells [(.yld 0)])), (3, (.cells [(.fn 89 [] [(.d (.pin [(dl zb v1.1.1 v1.1.2), (dl (eL eI) v1.2.1.1 v1.2.1.2), (dl (aI 2) v1.2.2.1.1 v1.2.2.1.2), (di v1.2.2.2.1), (.mp (em (fun k => D.agg (zh k)) (fun b => D.b b) v1.2.2.2.2))])), (.ptr 1 2 0), (.ptr 1 3 0)])]))]] ++ fs)⟩ [⟨[(0, (.d (.agg (zn p0)))), (1, (.ptr 0 1 0)), (2, (.ptr 0 2 0)), (3, (.ptr 0 3 0)), (10, (.d (.fn 88 [] [(.pin [(dl zb v1.1.1 v1.1.2), (dl (eL eI) v1.2.1.1 v1.2.1.2), (dl (aI 2) v1.2.2.1.1 v1.2.2.1.2), (di v1.2.2.2.1), (.mp (em (fun k => D.agg (zh k)) (fun b => D.b b) v1.2.2.2.2))])])))], 0, rfP (blk TE 93 0), rfA (blk TE 93 0), rfB (blk TE 93 0), 93, .rdy⟩])] [(89, 1000007, (.nor, zvc p0 v1 r0 v202 s9_10 s9_18 s9_19 rc fs false))] g6 (ob (o_b h1101) (ob (zMg k p0 v1 r0 v202 s9_10 s9_18 s9_19 rc fs hfs hrc _ h1103) (ob (zWl (e := eI) (z := 1) r0.1 r0.2) (ob (o_ad (P := TE.P) (φ := fun _ _ => none) (T := 27) (q := (1, [(di 0)])) (c := (ccap r0.2)) (e := eI) r0.1 s9_10 (by kernel_rfl) (fun _ => rfl) h1105 h1106) (ob (hrc ([] : Fr) s9_18 s9_19 ((r0.1 ++ [s9_10]), .ro) _ h1108) ob0))))) (by cases f8 hfs <;> kernel_rfl)
 ·exact zqo [(89, 5, 0, .q (xb false))] [] g1 (ob (o_b h1101) ob0) (by cases f8 hfs <;> kernel_rfl)
theorem zVj (k : Nat) (p0 : zj) (v1 : zt0) (rc : zt7) (hrc : zib p0 v1 rc []) (u1_12 : zt9) (u1_13 : Int) (r0 : (SL Int)) (x : ((List (zm × Int)) × Int)) (h : zIc k p0 v1 rc u1_12 u1_13 r0 = some x) : zHb TE (ev TE) 89 [(.d (dl eI r0.1 r0.2)), (.d (.pin [(dl zb v1.1.1 v1.1.2), (dl (eL eI) v1.2.1.1 v1.2.1.2), (dl (aI 2) v1.2.2.1.1 v1.2.2.1.2), (di v1.2.2.2.1), (.mp (em (fun k => D.agg (zh k)) (fun b => D.b b) v1.2.2.2.2))])), (.ptr 1 2 0), (.ptr 1 3 0)] ⟨[(2, (.cells [(.yld 0)])), (3, (.cells [(.fn 89 [] [(.d (.pin [(dl zb v1.1.1 v1.1.2), (dl (eL eI) v1.2.1.1 v1.2.1.2), (dl (aI 2) v1.2.2.1.1 v1.2.2.1.2), (di v1.2.2.2.1), (.mp (em (fun k => D.agg (zh k)) (fun b => D.b b) v1.2.2.2.2))])), (.ptr 1 2 0), (.ptr 1 3 0)])]))], [[(zc 1 (zn p0)), (2, (.cells [(xi 0), (.d (.mp []))])), (7, (.map (em (fun k => D.agg (zh k)) (fun n => D.i .i64 n) u1_12))), (3, (.cells [(xi u1_13), (.map 0 7)]))]]⟩ [⟨(zuq p0 v1 k), 0, rfP (blk TE 93 0), rfA (blk TE 93 0), rfB (blk TE 93 0), 93, .rdy⟩] = some (zad p0 v1 x) := by
 unfold zIc at h
 refine zo h (fun h201 g1 => ?_) (fun h201 g1 => ?_)
 ·refine zl g1 (fun v202 h203 g2 => ?_)
  exact zRc (g := zad p0 v1) g2 (zMb (n := 80) (V := [(89, 1, 1, .q (xi (r0.1.length : Int))), (89, 2, 4, .q (xi (v1.1.1.length : Int))), (89, 2, 5, .q (xb true)), (93, 5, 1, .q (xi (r0.1.length : Int)))]) (C := [(93, 2, (.nor, zAc p0 v1 u1_13 r0 rc ([] : List Fr) v202))]) (ob (zq eI r0.1) (ob (zq zb v1.1.1) (ob (o_b h201) (ob (zq eI r0.1) (ob (zz (id := 2) (r' := (.nor, zAc p0 v1 u1_13 r0 rc ([] : List Fr) v202)) (zkc (zTg k p0 v1 u1_13 r0 rc ([] : List Fr) (Nat.zero_le _) hrc) k _ _ h203) rfl) ob0))))) (by kernel_rfl))
 ·refine zl g1 (fun v202 h203 g2 => ?_)
  refine zl g2 (fun v204 h205 g3 => ?_)
  exact zRc (g := zad p0 v1) g3 (zMb (n := 80) (V := [(89, 1, 1, .q (xi (r0.1.length : Int))), (89, 2, 4, .q (xi (v1.1.1.length : Int))), (89, 2, 5, .q (xb false)), (89, 4, 4, .c (di v202))]) (C := [(89, 0, (.nor, zxc p0 v1 r0 v202 rc ([] : List Fr) v204))]) (ob (zq eI r0.1) (ob (zq zb v1.1.1) (ob (o_b h201) (ob (zS k r0 _ h203) (ob (zz (id := 0) (r' := (.nor, zxc p0 v1 r0 v202 rc ([] : List Fr) v204)) (zin (zSg k p0 v1 r0 v202 rc ([] : List Fr) (Nat.zero_le _) hrc) k _ _ h205) rfl) ob0))))) (by kernel_rfl))
theorem zWj (k : Nat) (p0 : zj) (v1 : zt0) (rc : zt7) (f : Fr) (fs : List Fr) (hfs : fs.length + 1 ≤ 8) (hrc : zib p0 v1 rc (fs ++ [f])) (u1_12 : zt9) (u1_13 : Int) (r0 : (SL Int)) (x : ((List (zm × Int)) × Int)) (h : zIc k p0 v1 rc u1_12 u1_13 r0 = some x) : zHb TE (ev TE) 89 [(.d (dl eI r0.1 r0.2)), (.d (.pin [(dl zb v1.1.1 v1.1.2), (dl (eL eI) v1.2.1.1 v1.2.1.2), (dl (aI 2) v1.2.2.1.1 v1.2.2.1.2), (di v1.2.2.2.1), (.mp (em (fun k => D.agg (zh k)) (fun b => D.b b) v1.2.2.2.2))])), (.ptr 1 2 0), (.ptr 1 3 0)] ⟨f, ([[(zc 1 (zn p0)), (2, (.cells [(xi 0), (.d (.mp []))])), (7, (.map (em (fun k => D.agg (zh k)) (fun n => D.i .i64 n) u1_12))), (3, (.cells [(xi u1_13), (.map 0 7)]))], [(2, (.cells [(.yld 0)])), (3, (.cells [(.fn 89 [] [(.d (.pin [(dl zb v1.1.1 v1.1.2), (dl (eL eI) v1.2.1.1 v1.2.1.2), (dl (aI 2) v1.2.2.1.1 v1.2.2.1.2), (di v1.2.2.2.1), (.mp (em (fun k => D.agg (zh k)) (fun b => D.b b) v1.2.2.2.2))])), (.ptr 1 2 0), (.ptr 1 3 0)])]))]] ++ fs)⟩ [⟨(zuq p0 v1 k), 0, rfP (blk TE 93 0), rfA (blk TE 93 0), rfB (blk TE 93 0), 93, .rdy⟩] = some (zhd p0 v1 f fs x) := by
 unfold zIc at h
 refine zo h (fun h201 g1 => ?_) (fun h201 g1 => ?_)
 ·refine zl g1 (fun v202 h203 g2 => ?_)
  exact zRc (g := zhd p0 v1 f fs) g2 (zMb (n := 80) (V := [(89, 1, 1, .q (xi (r0.1.length : Int))), (89, 2, 4, .q (xi (v1.1.1.length : Int))), (89, 2, 5, .q (xb true)), (93, 5, 1, .q (xi (r0.1.length : Int)))]) (C := [(93, 2, (.nor, zAc p0 v1 u1_13 r0 rc (fs ++ [f]) v202))]) (ob (zq eI r0.1) (ob (zq zb v1.1.1) (ob (o_b h201) (ob (zq eI r0.1) (ob (zz (id := 2) (r' := (.nor, zAc p0 v1 u1_13 r0 rc (fs ++ [f]) v202)) (zkc (zTg k p0 v1 u1_13 r0 rc (fs ++ [f]) (zlj f hfs) hrc) k _ _ h203) rfl) ob0))))) (by cases f8 (Nat.le_of_succ_le hfs) <;> kernel_rfl))
 ·refine zl g1 (fun v202 h203 g2 => ?_)
  refine zl g2 (fun v204 h205 g3 => ?_)
  exact zRc (g := zhd p0 v1 f fs) g3 (zMb (n := 80) (V := [(89, 1, 1, .q (xi (r0.1.length : Int))), (89, 2, 4, .q (xi (v1.1.1.length : Int))), (89, 2, 5, .q (xb false)), (89, 4, 4, .c (di v202))]) (C := [(89, 0, (.nor, zxc p0 v1 r0 v202 rc (fs ++ [f]) v204))]) (ob (zq eI r0.1) (ob (zq zb v1.1.1) (ob (o_b h201) (ob (zS k r0 _ h203) (ob (zz (id := 0) (r' := (.nor, zxc p0 v1 r0 v202 rc (fs ++ [f]) v204)) (zin (zSg k p0 v1 r0 v202 rc (fs ++ [f]) (zlj f hfs) hrc) k _ _ h205) rfl) ob0))))) (by cases f8 (Nat.le_of_succ_le hfs) <;> kernel_rfl))
theorem zCg (k : Nat) (p0 : zj) (v1 : zt0) : ∀ (n : Nat) (fs : List Fr), fs.length + n ≤ 8 → zib p0 v1 (zkd k p0 v1 n) fs
 | 0, fs, hfs => fun f u1_12 u1_13 r0 x h => by cases h
 | n + 1, fs, hfs => fun f u1_12 u1_13 r0 x h => zWj k p0 v1 _ f fs (by omega) (zCg k p0 v1 n (fs ++ [f]) (by simp; omega)) u1_12 u1_13 r0 x h
theorem zCk (k : Nat) (p0 : zj) (v1 : zt0) (u1_12 : zt9) (u1_13 : Int) (r0 : (SL Int)) (x : ((List (zm × Int)) × Int)) (h : zkd k p0 v1 9 u1_12 u1_13 r0 = some x) : zHb TE (ev TE) 89 [(.d (dl eI r0.1 r0.2)), (.d (.pin [(dl zb v1.1.1 v1.1.2), (dl (eL eI) v1.2.1.1 v1.2.1.2), (dl (aI 2) v1.2.2.1.1 v1.2.2.1.2), (di v1.2.2.2.1), (.mp (em (fun k => D.agg (zh k)) (fun b => D.b b) v1.2.2.2.2))])), (.ptr 1 2 0), (.ptr 1 3 0)] ⟨[(2, (.cells [(.yld 0)])), (3, (.cells [(.fn 89 [] [(.d (.pin [(dl zb v1.1.1 v1.1.2), (dl (eL eI) v1.2.1.1 v1.2.1.2), (dl (aI 2) v1.2.2.1.1 v1.2.2.1.2), (di v1.2.2.2.1), (.mp (em (fun k => D.agg (zh k)) (fun b => D.b b) v1.2.2.2.2))])), (.ptr 1 2 0), (.ptr 1 3 0)])]))], [[(zc 1 (zn p0)), (2, (.cells [(xi 0), (.d (.mp []))])), (7, (.map (em (fun k => D.agg (zh k)) (fun n => D.i .i64 n) u1_12))), (3, (.cells [(xi u1_13), (.map 0 7)]))]]⟩ [⟨(zuq p0 v1 k), 0, rfP (blk TE 93 0), rfA (blk TE 93 0), rfB (blk TE 93 0), 93, .rdy⟩] = some (zad p0 v1 x) := zVj k p0 v1 _ (zCg k p0 v1 8 [] (by decide)) u1_12 u1_13 r0 x h
theorem z0h (k : Nat) (p0 : zj) (r : zob) (h : zOg k p0 = some r) : zC TE (ev TE) 93 [(.agg (zn p0))] = some (zAi r) := by
 unfold zOg at h
 refine zl h (fun v1 h2 g1 => ?_)
 refine zl g1 (fun v3 h4 g2 => ?_)
 exact zt (g := zAi) g2 (zqc [(93, 2, 1, .c (.fn 88 [] [(.pin [(dl zb v1.1.1 v1.1.2), (dl (eL eI) v1.2.1.1 v1.2.1.2), (dl (aI 2) v1.2.2.1.1 v1.2.2.1.2), (di v1.2.2.2.1), (.mp (em (fun k => D.agg (zh k)) (fun b => D.b b) v1.2.2.2.2))])])), (88, 3, 1, .i (db true) ⟨[(2, (.cells [(.yld 0)])), (3, (.cells [(.fn 89 [] [(.d (.pin [(dl zb v1.1.1 v1.1.2), (dl (eL eI) v1.2.1.1 v1.2.1.2), (dl (aI 2) v1.2.2.1.1 v1.2.2.1.2), (di v1.2.2.2.1), (.mp (em (fun k => D.agg (zh k)) (fun b => D.b b) v1.2.2.2.2))])), (.ptr 1 2 0), (.ptr 1 3 0)])]))], [[(1, (.cells ((zn p0).map .d))), (2, (.cells [(xi 0), (.d (.mp []))])), (7, (.map (em (fun k => D.agg (zh k)) (fun n => D.i .i64 n) v3.1))), (3, (.cells [(xi v3.2), (.map 0 7)]))]]⟩ [⟨[(0, (.d (.agg (zn p0)))), (1, (.ptr 0 1 0)), (2, (.ptr 0 2 0)), (3, (.ptr 0 3 0)), (10, (.d (.fn 88 [] [(.pin [(dl zb v1.1.1 v1.1.2), (dl (eL eI) v1.2.1.1 v1.2.1.2), (dl (aI 2) v1.2.2.1.1 v1.2.2.1.2), (di v1.2.2.2.1), (.mp (em (fun k => D.agg (zh k)) (fun b => D.b b) v1.2.2.2.2))])])))], 0, rfP (blk TE 93 0), rfA (blk TE 93 0), rfB (blk TE 93 0), 93, .rdy⟩])] [] (ob (z3b k p0 _ h2) (ob (zCk k p0 v1 ([]) 0 ([], Cap.nil) _ h4) ob0)) (by kernel_rfl))
theorem zLc (k : Nat) (p0 : za) (p1 : Bool) (r : zt5) (h : zFe k p0 p1 = some r) : zC TE (ev TE) 72 [(.agg (zd p0)), (db p1)] = some (zPe r) := by
 unfold zFe at h
 refine zl h (fun v1 h2 g1 => ?_)
 refine zo g1 (fun h3 g2 => ?_) (fun h3 g2 => ?_)
 ·exact zt (g := zPe) g2 (zqc [(72, 1, 1, .c (di v1)), (72, 2, 1, .q (xb true))] [] (ob (zD k p0 _ h2) (ob (o_b h3) ob0)) (by kernel_rfl))
 ·refine zo g2 (fun h4 g3 => ?_) (fun h4 g3 => ?_)
  ·exact zt (g := zPe) g3 (zqc [(72, 1, 1, .c (di v1)), (72, 2, 1, .q (xb false)), (72, 4, 1, .q (xb true))] [] (ob (zD k p0 _ h2) (ob (o_b h3) (ob (o_b h4) ob0))) (by kernel_rfl))
  ·refine zl g3 (fun v5 h6 g4 => ?_)
   refine zl g4 (fun v7 h8 g5 => ?_)
   refine zo g5 (fun h9 g6 => ?_) (fun h9 g6 => ?_)
   ·exact zt (g := zPe) g6 (zqc [(72, 1, 1, .c (di v1)), (72, 2, 1, .q (xb false)), (72, 4, 1, .q (xb false)), (72, 6, 1, .c (.agg (zn v5))), (72, 6, 2, .c (.agg [(di v7.many), (.mp (em (fun k => D.agg (zh k)) (fun n => D.i .i64 n) v7.same))])), (72, 7, 2, .q (xb true))] [] (ob (zD k p0 _ h2) (ob (o_b h3) (ob (o_b h4) (ob (zmb k p0 _ h6) (ob (z0h k v5 _ h8) (ob (o_b h9) ob0)))))) (by kernel_rfl))
   ·exact zt (g := zPe) g6 (zqc [(72, 1, 1, .c (di v1)), (72, 2, 1, .q (xb false)), (72, 4, 1, .q (xb false)), (72, 6, 1, .c (.agg (zn v5))), (72, 6, 2, .c (.agg [(di v7.many), (.mp (em (fun k => D.agg (zh k)) (fun n => D.i .i64 n) v7.same))])), (72, 7, 2, .q (xb false))] [] (ob (zD k p0 _ h2) (ob (o_b h3) (ob (o_b h4) (ob (zmb k p0 _ h6) (ob (z0h k v5 _ h8) (ob (o_b h9) ob0)))))) (by kernel_rfl))
theorem zwf (k : Nat) (p0 : zob) (p1 p2 r : Int) (h : zVe k p0 p1 p2 = some r) : zC TE (ev TE) 73 [(.agg [(di p0.many), (.mp (em (fun k => D.agg (zh k)) (fun n => D.i .i64 n) p0.same))]), (di p1), (di p2)] = some (z8d r) := by
 unfold zVe at h
 refine zo h (fun h1 g1 => ?_) (fun h1 g1 => ?_)
 ·exact zt (g := z8d) g1 (zqc [(73, 1, 5, .q (xi ((zP zx (⟨p1, p2⟩ : zm) p0.same).getD 0))), (73, 2, 3, .q (xb true))] [] (ob (znk (ek := (fun k => D.agg (zh k))) (evl := (fun n => D.i .i64 n)) (q := zx) (fun _ _ => rfl) (⟨p1, p2⟩ : zm) p0.same 0) (ob (o_b h1) ob0)) (by kernel_rfl))
 ·refine zo g1 (fun h2 g2 => ?_) (fun h2 g2 => ?_)
  ·exact zt (g := z8d) g2 (zqc [(73, 1, 5, .q (xi ((zP zx (⟨p1, p2⟩ : zm) p0.same).getD 0))), (73, 2, 3, .q (xb false)), (73, 4, 1, .q (xb true))] [] (ob (znk (ek := (fun k => D.agg (zh k))) (evl := (fun n => D.i .i64 n)) (q := zx) (fun _ _ => rfl) (⟨p1, p2⟩ : zm) p0.same 0) (ob (o_b h1) (ob (o_b h2) ob0))) (by kernel_rfl))
  ·exact zt (g := z8d) g2 (zqc [(73, 1, 5, .q (xi ((zP zx (⟨p1, p2⟩ : zm) p0.same).getD 0))), (73, 2, 3, .q (xb false)), (73, 4, 1, .q (xb false))] [] (ob (znk (ek := (fun k => D.agg (zh k))) (evl := (fun n => D.i .i64 n)) (q := zx) (fun _ _ => rfl) (⟨p1, p2⟩ : zm) p0.same 0) (ob (o_b h1) (ob (o_b h2) ob0))) (by kernel_rfl))
noncomputable def zMv (p0 : za) (p1 p2 : Int) (r : (Int × Int × (List (zm × Int)))) : TM := [(0, (.d (.agg (zd p0)))), (1, (xi p1)), (2, (xi p2)), (zsp 3), (6, (xi 0)), (7, (xi 0)), (zsp 8), (9, (xi r.1))]
noncomputable def z4d (p0 : za) (p1 p2 : Int) (r : (Int × Int × (List (zm × Int)))) : St := ⟨(zMv p0 p1 p2 r), ⟨[(zc 3 (zd p0)), (8, (.cells [(xi r.2.1), (.d (.mp (em (fun k => D.agg (zh k)) (fun n => D.i .i64 n) r.2.2)))]))], []⟩, []⟩
noncomputable def z7u (p0 : za) (p1 p2 : Int) : TM := [(0, (.d (.agg (zd p0)))), (1, (xi p1)), (2, (xi p2)), (zsp 3), (6, (xi 0)), (7, (xi 0))]
theorem zMi (k : Nat) (p0 : za) (p1 p2 : Int) (r : (Int × Int × (List (zm × Int)))) (h : zJh k p0 p1 p2 = some r) : ev TE 30 (rgn TE 30 1) ⟨(z7u p0 p1 p2), ⟨[(zc 3 (zd p0))], []⟩, []⟩ = some (.nor, z4d p0 p1 p2 r) := by
 unfold zJh at h
 refine zl h (fun v201 h202 g1 => ?_)
 refine zo g1 (fun h203 g2 => ?_) (fun h203 g2 => ?_)
 ·refine zl g2 (fun v204 h205 g3 => ?_)
  refine zl g3 (fun v206 h207 g4 => ?_)
  exact zu (g := fun r => (Ex.nor, z4d p0 p1 p2 r)) g4 (zqe [(30, 1, 4, .q (xi (p0.Letters.1.length : Int))), (30, 1, 6, .c (db v201)), (30, 1, 7, .q (xb true)), (30, 1, 11, .q (xi (p0.Letters.1.length : Int))), (30, 1, 13, .c (db v204)), (30, 1, 15, .c (.tup [(.agg [(di v206.1.many), (.mp (em (fun k => D.agg (zh k)) (fun n => D.i .i64 n) v206.1.same))]), (di v206.2)]))] [] (ob (zq zb p0.Letters.1) (ob (zy k p1 0 (w64 ((p0.Letters.1.length : Int) - 1)) _ h202) (ob (o_b h203) (ob (zq zb p0.Letters.1) (ob (zy k p2 0 (w64 ((p0.Letters.1.length : Int) - 1)) _ h205) (ob (zLc k p0 v204 _ h207) ob0)))))) (by kernel_rfl))
 ·refine zl g2 (fun v204 h205 g3 => ?_)
  exact zu (g := fun r => (Ex.nor, z4d p0 p1 p2 r)) g3 (zqe [(30, 1, 4, .q (xi (p0.Letters.1.length : Int))), (30, 1, 6, .c (db v201)), (30, 1, 7, .q (xb false)), (30, 1, 15, .c (.tup [(.agg [(di v204.1.many), (.mp (em (fun k => D.agg (zh k)) (fun n => D.i .i64 n) v204.1.same))]), (di v204.2)]))] [] (ob (zq zb p0.Letters.1) (ob (zy k p1 0 (w64 ((p0.Letters.1.length : Int) - 1)) _ h202) (ob (o_b h203) (ob (zLc k p0 false _ h205) ob0)))) (by kernel_rfl))
theorem ztb (k : Nat) (p0 : za) (p1 p2 : Int) (r : zt1) (h : ztj k p0 p1 p2 = some r) : zC TE (ev TE) 30 [(.agg (zd p0)), (di p1), (di p2)] = some (zgi r) := by
 unfold ztj at h
 refine zl h (fun v1 h2 g1 => ?_)
 refine zo g1 (fun h3 g2 => ?_) (fun h3 g2 => ?_)
 ·exact zt (g := zgi) g2 (zqc [(30, 2, 1, .q (xb true))] [(30, 1000001, (.nor, z4d p0 p1 p2 v1))] (ob (zMi k p0 p1 p2 _ h2) (ob (o_b h3) ob0)) (by kernel_rfl))
 ·refine zl g2 (fun v4 h5 g3 => ?_)
  exact zt (g := zgi) g3 (zqc [(30, 2, 1, .q (xb false)), (30, 4, 3, .c (di v4))] [(30, 1000001, (.nor, z4d p0 p1 p2 v1))] (ob (zMi k p0 p1 p2 _ h2) (ob (o_b h3) (ob (zwf k (⟨v1.2.1, v1.2.2⟩ : zob) p1 p2 _ h5) ob0))) (by kernel_rfl))
noncomputable def z7v (p0 : za) (v1 : zt5) (s1_16 : zt10) (s1_9 : Int) (s6_23 : (List Int)) (s6_13 : Int) : TM := [(0, (.d (.agg (zd p0)))), (zsp 1), (2, (.d (.sl [] .nil))), (3, (xi 0)), (zsp 4), (5, (xi v1.2)), (17, (xb false)), (6, (.row 0 6 s1_16.length)), (zsp 7), (21, (xi (p0.Letters.1.length : Int))), (22, (xi s1_9)), (23, (xb true)), (8, (xi s1_9)), (27, (xb false)), (9, (.row 0 9 s6_23.length)), (10, (xi s6_13))]
noncomputable def zkm (p0 : za) (v1 : zt5) (s1_9 : Int) (s1_16 : zt10) (s6_13 : Int) (s6_22 : zt3) (s6_23 : (List Int)) : St := ⟨(z7v p0 v1 s1_16 s1_9 s6_23 s6_13), ⟨[(zc 1 (zd p0)), (4, (.cells [(xi v1.1.many), (.d (.mp (em (fun k => D.agg (zh k)) (fun n => D.i .i64 n) v1.1.same)))])), (6, (rowO true 1 (eL eI) s1_16 true)), (zc 7 (aB 8 s6_22)), (9, (rowO true 1 eI s6_23 true))], []⟩, []⟩
noncomputable def zgw (p0 : za) (v1 : zt5) (s1_16 : zt10) (s1_9 : Int) (r : (Int × (Nat → Bool) × (List Int))) : TM := [(0, (.d (.agg (zd p0)))), (zsp 1), (2, (.d (.sl [] .nil))), (3, (xi 0)), (zsp 4), (5, (xi v1.2)), (17, (xb false)), (6, (.row 0 6 s1_16.length)), (zsp 7), (21, (xi (p0.Letters.1.length : Int))), (22, (xi s1_9)), (23, (xb true)), (8, (xi s1_9)), (27, (xb false)), (9, (.row 0 9 r.2.2.length)), (10, (xi r.1)), (33, (xb false))]
noncomputable def zVf (p0 : za) (v1 : zt5) (s1_9 : Int) (s1_16 : zt10) (r : (Int × (Nat → Bool) × (List Int))) : St := ⟨(zgw p0 v1 s1_16 s1_9 r), ⟨[(zc 1 (zd p0)), (4, (.cells [(xi v1.1.many), (.d (.mp (em (fun k => D.agg (zh k)) (fun n => D.i .i64 n) v1.1.same)))])), (6, (rowO true 1 (eL eI) s1_16 true)), (zc 7 (aB 8 r.2.1)), (9, (rowO true 1 eI r.2.2 true))], []⟩, []⟩
noncomputable def z2l (p0 : za) (v1 : zt5) (s1_9 : Int) (s1_16 : zt10) : (Int × (Nat → Bool) × (List Int)) → Ex × St := fun r => ((.exit 2), zVf p0 v1 s1_9 s1_16 r)
theorem zGl (k : Nat) (p0 : za) (v1 : zt5) (s1_9 : Int) (s1_16 : zt10) (s6_13 : Int) (s6_22 : zt3) (s6_23 : (List Int)) (x : (Int × (Nat → Bool) × (List Int)) ⊕ (Int × (Nat → Bool) × (List Int))) (h : zRg k p0 v1 s1_9 s1_16 s6_13 s6_22 s6_23 = some x) : zN TE 32 (blk TE 32 2) (fun s : (Int × (Nat → Bool) × (List Int)) => zkm p0 v1 s1_9 s1_16 s.1 s.2.1 s.2.2) (z2l p0 v1 s1_9 s1_16) (s6_13, s6_22, s6_23) x := by
 unfold zRg at h
 refine zo h (fun h801 g1 => ?_) (fun h801 g1 => ?_)
 ·refine zl g1 (fun v802 h803 g2 => ?_)
  refine zo g2 (fun h804 g3 => ?_) (fun h804 g3 => ?_)
  ·refine zAb g3 (fun h805 g4 => ?_)
   refine zAb g4 (fun h806 g5 => ?_)
   exact zqn ((w64 (s6_13 + 1)), (upd s6_22 s6_13.toNat true), (s6_23 ++ [s6_13])) [6, 9] [(32, 12, 3, .q (xi (p0.Letters.1.length : Int))), (32, 12, 4, .q (xb true)), (32, 14, 3, .c (di v802)), (32, 14, 4, .q (xb true)), (32, 15, 3, .ap (s6_23 ++ [s6_13]).length (rowO true 1 eI (s6_23 ++ [s6_13]) true)), (32, 16, 1, .q (.ptr 0 7 (s6_13.toNat))), (32, 16, 2, .st ((aB 8 (upd s6_22 s6_13.toNat true)).map .d))] [] g5 (ob (zq zb p0.Letters.1) (ob (o_b h801) (ob (zwf k v1.1 s1_9 s6_13 _ h803) (ob (o_b h804) (ob (o_ap (b := true) (z := 1) (e := eI) (l := s6_23) (w := true) s6_13 (fun _ => rfl) h805) (ob (zjn (m := 8) 0 7 0 1 s6_13.toNat h806 (by omega)) (ob (zUr 8 s6_22 s6_13.toNat true (by have := h806; simp only [Bool.and_eq_true, decide_eq_true_eq] at this; omega)) (ob (zif true 1 (eL eI) s1_16 true) (ob (zif true 1 eI (s6_23 ++ [s6_13]) true) ob0))))))))) (by kernel_rfl)
  ·exact zqn ((w64 (s6_13 + 1)), s6_22, s6_23) [6, 9] [(32, 12, 3, .q (xi (p0.Letters.1.length : Int))), (32, 12, 4, .q (xb true)), (32, 14, 3, .c (di v802)), (32, 14, 4, .q (xb false))] [] g3 (ob (zq zb p0.Letters.1) (ob (o_b h801) (ob (zwf k v1.1 s1_9 s6_13 _ h803) (ob (o_b h804) (ob (zif true 1 (eL eI) s1_16 true) (ob (zif true 1 eI s6_23 true) ob0)))))) (by kernel_rfl)
 ·exact zqo [(32, 12, 3, .q (xi (p0.Letters.1.length : Int))), (32, 12, 4, .q (xb false))] [] g1 (ob (zq zb p0.Letters.1) (ob (o_b h801) ob0)) (by kernel_rfl)
noncomputable def zkw (p0 : za) (v1 : zt5) (s1_16 : zt10) (s1_9 : Int) : TM := [(0, (.d (.agg (zd p0)))), (zsp 1), (2, (.d (.sl [] .nil))), (3, (xi 0)), (zsp 4), (5, (xi v1.2)), (17, (xb false)), (6, (.row 0 6 s1_16.length)), (zsp 7), (21, (xi (p0.Letters.1.length : Int))), (22, (xi s1_9))]
noncomputable def zum (p0 : za) (v1 : zt5) (s1_9 : Int) (s1_16 : zt10) (s1_18 : zt3) : St := ⟨(zkw p0 v1 s1_16 s1_9), ⟨[(zc 1 (zd p0)), (4, (.cells [(xi v1.1.many), (.d (.mp (em (fun k => D.agg (zh k)) (fun n => D.i .i64 n) v1.1.same)))])), (6, (rowO true 1 (eL eI) s1_16 true)), (zc 7 (aB 8 s1_18))], []⟩, []⟩
noncomputable def zhw (p0 : za) (v1 : zt5) (r : (Int × (List (SL Int)) × (Nat → Bool))) : TM := [(0, (.d (.agg (zd p0)))), (zsp 1), (2, (.d (.sl [] .nil))), (3, (xi 0)), (zsp 4), (5, (xi v1.2)), (17, (xb false)), (6, (.row 0 6 r.2.1.length)), (zsp 7), (21, (xi (p0.Letters.1.length : Int))), (22, (xi r.1)), (23, (xb false))]
noncomputable def zYf (p0 : za) (v1 : zt5) (r : (Int × (List (SL Int)) × (Nat → Bool))) : St := ⟨(zhw p0 v1 r), ⟨[(zc 1 (zd p0)), (4, (.cells [(xi v1.1.many), (.d (.mp (em (fun k => D.agg (zh k)) (fun n => D.i .i64 n) v1.1.same)))])), (6, (rowO true 1 (eL eI) r.2.1 true)), (zc 7 (aB 8 r.2.2))], []⟩, []⟩
noncomputable def zYl (p0 : za) (v1 : zt5) : (Int × (List (SL Int)) × (Nat → Bool)) → Ex × St := fun r => ((.exit 0), zYf p0 v1 r)
theorem zIl (k : Nat) (p0 : za) (v1 : zt5) (s1_9 : Int) (s1_16 : zt10) (s1_18 : zt3) (x : (Int × (List (SL Int)) × (Nat → Bool)) ⊕ (Int × (List (SL Int)) × (Nat → Bool))) (h : z3g k p0 v1 s1_9 s1_16 s1_18 = some x) : zN TE 32 (blk TE 32 0) (fun s : (Int × (List (SL Int)) × (Nat → Bool)) => zum p0 v1 s.1 s.2.1 s.2.2) (zYl p0 v1) (s1_9, s1_16, s1_18) x := by
 unfold z3g at h
 refine zo h (fun h601 g1 => ?_) (fun h601 g1 => ?_)
 ·refine zAb g1 (fun h602 g2 => ?_)
  refine zo g2 (fun h603 g3 => ?_) (fun h603 g3 => ?_)
  ·exact zqn ((w64 (s1_9 + 1)), s1_16, s1_18) [6] [(32, 7, 0, .q (xb true)), (32, 9, 1, .q (.ptr 0 7 (s1_9.toNat))), (32, 9, 2, .q (xb true))] [] g3 (ob (o_b h601) (ob (zjn (m := 8) 0 7 0 1 s1_9.toNat h602 (by omega)) (ob (o_tr (z0t 8 s1_18 s1_9.toNat (by have := h602; simp only [Bool.and_eq_true, decide_eq_true_eq] at this; omega)) h603) (ob (zif true 1 (eL eI) s1_16 true) ob0)))) (by kernel_rfl)
  ·refine zl g3 (fun v604 h605 g4 => ?_)
   refine zAb g4 (fun h606 g5 => ?_)
   exact zqn ((w64 (s1_9 + 1)), (s1_16 ++ [(v604.2.2, (xcap true v604.2.2))]), v604.2.1) [6] [(32, 7, 0, .q (xb true)), (32, 9, 1, .q (.ptr 0 7 (s1_9.toNat))), (32, 9, 2, .q (xb false)), (32, 17, 3, .q (xi (v604.2.2.length : Int))), (32, 17, 5, .q (xi (v604.2.2.length : Int))), (32, 17, 6, .sr (.d (dl eI v604.2.2 (xcap true v604.2.2))) (rowO true 1 eI v604.2.2 false)), (32, 17, 8, .ap (s1_16 ++ [(v604.2.2, (xcap true v604.2.2))]).length (rowO true 1 (eL eI) (s1_16 ++ [(v604.2.2, (xcap true v604.2.2))]) true))] [(32, 2, (.nor, zVf p0 v1 s1_9 s1_16 v604))] g5 (ob (o_b h601) (ob (zjn (m := 8) 0 7 0 1 s1_9.toNat h602 (by omega)) (ob (o_tr (z0t 8 s1_18 s1_9.toNat (by have := h602; simp only [Bool.and_eq_true, decide_eq_true_eq] at this; omega)) h603) (ob (zz (id := 2) (r' := (.nor, zVf p0 v1 s1_9 s1_16 v604)) (zin (zGl k p0 v1 s1_9 s1_16) k _ _ h605) rfl) (ob (zck true 1 eI v604.2.2 true) (ob (zck true 1 eI v604.2.2 true) (ob (o_sr (P := TE.P) (T := 27) (U := 3) (by' := 8) (ρ := fun _ => xi (v604.2.2.length : Int)) (lv := 0) (s := 9) (lo := none) (hi := some (.tmp 0)) (mx := some (.tmp 0)) true 1 eI v604.2.2 true (by kernel_rfl) (by kernel_rfl) rfl rfl rfl) (ob (o_ap (b := true) (z := 1) (e := (eL eI)) (l := s1_16) (w := true) (v604.2.2, (xcap true v604.2.2)) (fun _ => rfl) h606) (ob (zif true 1 (eL eI) (s1_16 ++ [(v604.2.2, (xcap true v604.2.2))]) true) ob0))))))))) (by kernel_rfl)
 ·exact zqo [(32, 7, 0, .q (xb false))] [] g1 (ob (o_b h601) ob0) (by kernel_rfl)
theorem zcb (k : Nat) (p0 : za) (r : ((SL (SL Int)) × Int)) (h : zzi k p0 = some r) : zC TE (ev TE) 32 [(.agg (zd p0))] = some (znh r) := by
 unfold zzi at h
 refine zl h (fun v1 h2 g1 => ?_)
 refine zo g1 (fun h3 g2 => ?_) (fun h3 g2 => ?_)
 ·exact zt (g := znh) g2 (zqc [(32, 1, 1, .c (.tup [(.agg [(di v1.1.many), (.mp (em (fun k => D.agg (zh k)) (fun n => D.i .i64 n) v1.1.same))]), (di v1.2)])), (32, 2, 1, .q (xb true))] [] (ob (zLc k p0 true _ h2) (ob (o_b h3) ob0)) (by kernel_rfl))
 ·refine zl g2 (fun v4 h5 g3 => ?_)
  exact zt (g := znh) g3 (zqc [(32, 1, 1, .c (.tup [(.agg [(di v1.1.many), (.mp (em (fun k => D.agg (zh k)) (fun n => D.i .i64 n) v1.1.same))]), (di v1.2)])), (32, 2, 1, .q (xb false)), (32, 6, 2, .q (xi (p0.Letters.1.length : Int))), (32, 19, 2, .q (xi (v4.2.1.length : Int))), (32, 19, 4, .q (xi (v4.2.1.length : Int))), (32, 19, 5, .sr (.d (dl (eL eI) v4.2.1 (xcap true v4.2.1))) (rowO true 1 (eL eI) v4.2.1 false))] [(32, 0, (.nor, zYf p0 v1 v4))] (ob (zLc k p0 true _ h2) (ob (o_b h3) (ob (zq zb p0.Letters.1) (ob (zz (id := 0) (r' := (.nor, zYf p0 v1 v4)) (zin (zIl k p0 v1) k _ _ h5) rfl) (ob (zck true 1 (eL eI) v4.2.1 true) (ob (zck true 1 (eL eI) v4.2.1 true) (ob (o_sr (P := TE.P) (T := 23) (U := 27) (by' := 24) (ρ := fun _ => xi (v4.2.1.length : Int)) (lv := 0) (s := 6) (lo := none) (hi := some (.tmp 0)) (mx := some (.tmp 0)) true 1 (eL eI) v4.2.1 true (by kernel_rfl) (by kernel_rfl) rfl rfl rfl) ob0))))))) (by kernel_rfl))
noncomputable def zFv (p0 : za) (v1 : zt5) (r : (Int × Bool × Int × Int)) (s1_11 s8_14 v1002 : Int) : TM := [(0, (.d (.agg (zd p0)))), (zsp 1), (2, (xi 0)), (3, (xi 0)), (4, (xi v1.2)), (zsp 5), (18, (xb false)), (22, (xb false)), (zsp 6), (7, (xi r.1)), (29, (xi (p0.Letters.1.length : Int))), (30, (xi s1_11)), (31, (xb true)), (8, (xi s1_11)), (9, (xi s8_14)), (39, (xb true)), (10, (xi ((zP zx (⟨s1_11, s8_14⟩ : zm) v1.1.same).getD 0))), (11, (xi v1002)), (57, (xb r.2.1))]
noncomputable def zaf (p0 : za) (v1 : zt5) (s1_11 s8_9 s8_14 s8_21 s8_22 v1002 : Int) (cb : Bool) (r : (Int × Bool × Int × Int)) : St := ⟨(zFv p0 v1 r s1_11 s8_14 v1002), ⟨[(zc 1 (zd p0)), (5, (.cells [(xi v1.1.many), (.d (.mp (em (fun k => D.agg (zh k)) (fun n => D.i .i64 n) v1.1.same)))])), (6, (.cells [(xi r.2.2.1), (xi r.2.2.2)]))], []⟩, []⟩
noncomputable def zcw (p0 : za) (v1 : zt5) (s8_9 s1_11 s8_14 v1002 : Int) (cb : Bool) : TM := [(0, (.d (.agg (zd p0)))), (zsp 1), (2, (xi 0)), (3, (xi 0)), (4, (xi v1.2)), (zsp 5), (18, (xb false)), (22, (xb false)), (zsp 6), (7, (xi s8_9)), (29, (xi (p0.Letters.1.length : Int))), (30, (xi s1_11)), (31, (xb true)), (8, (xi s1_11)), (9, (xi s8_14)), (39, (xb true)), (10, (xi ((zP zx (⟨s1_11, s8_14⟩ : zm) v1.1.same).getD 0))), (11, (xi v1002)), (57, (xb cb))]
theorem zMm (k : Nat) (p0 : za) (v1 : zt5) (s1_11 s8_9 s8_14 s8_21 s8_22 v1002 : Int) (cb : Bool) (r : (Int × Bool × Int × Int)) (h : zKh k p0 v1 s1_11 s8_9 s8_14 s8_21 s8_22 v1002 cb = some r) : ev TE 35 (cnd TE 35 57) ⟨(zcw p0 v1 s8_9 s1_11 s8_14 v1002 cb), ⟨[(zc 1 (zd p0)), (5, (.cells [(xi v1.1.many), (.d (.mp (em (fun k => D.agg (zh k)) (fun n => D.i .i64 n) v1.1.same)))])), (6, (.cells [(xi s8_21), (xi s8_22)]))], []⟩, []⟩ = some (.nor, zaf p0 v1 s1_11 s8_9 s8_14 s8_21 s8_22 v1002 cb r) := by
 unfold zKh at h
 refine zo h (fun h1101 g1 => ?_) (fun h1101 g1 => ?_)
 ·subst h1101
  exact zu (g := fun r => (Ex.nor, zaf p0 v1 s1_11 s8_9 s8_14 s8_21 s8_22 v1002 true r)) g1 (zqe [] [] ob0 (by kernel_rfl))
 ·subst h1101
  exact zu (g := fun r => (Ex.nor, zaf p0 v1 s1_11 s8_9 s8_14 s8_21 s8_22 v1002 false r)) g1 (zqe [] [] ob0 (by kernel_rfl))
noncomputable def zew (p0 : za) (v1 : zt5) (s8_9 s1_11 s8_14 : Int) : TM := [(0, (.d (.agg (zd p0)))), (zsp 1), (2, (xi 0)), (3, (xi 0)), (4, (xi v1.2)), (zsp 5), (18, (xb false)), (22, (xb false)), (zsp 6), (7, (xi s8_9)), (29, (xi (p0.Letters.1.length : Int))), (30, (xi s1_11)), (31, (xb true)), (8, (xi s1_11)), (9, (xi s8_14))]
noncomputable def zAn (p0 : za) (v1 : zt5) (s1_11 s8_9 s8_14 s8_21 s8_22 : Int) : St := ⟨(zew p0 v1 s8_9 s1_11 s8_14), ⟨[(zc 1 (zd p0)), (5, (.cells [(xi v1.1.many), (.d (.mp (em (fun k => D.agg (zh k)) (fun n => D.i .i64 n) v1.1.same)))])), (6, (.cells [(xi s8_21), (xi s8_22)]))], []⟩, []⟩
noncomputable def ziw (p0 : za) (v1 : zt5) (r : (Int × Int × Int × Int)) (s1_11 : Int) : TM := [(0, (.d (.agg (zd p0)))), (zsp 1), (2, (xi 0)), (3, (xi 0)), (4, (xi v1.2)), (zsp 5), (18, (xb false)), (22, (xb false)), (zsp 6), (7, (xi r.1)), (29, (xi (p0.Letters.1.length : Int))), (30, (xi s1_11)), (31, (xb true)), (8, (xi s1_11)), (9, (xi r.2.1)), (39, (xb false))]
noncomputable def zUg (p0 : za) (v1 : zt5) (s1_11 : Int) (r : (Int × Int × Int × Int)) : St := ⟨(ziw p0 v1 r s1_11), ⟨[(zc 1 (zd p0)), (5, (.cells [(xi v1.1.many), (.d (.mp (em (fun k => D.agg (zh k)) (fun n => D.i .i64 n) v1.1.same)))])), (6, (.cells [(xi r.2.2.1), (xi r.2.2.2)]))], []⟩, []⟩
noncomputable def zDn (p0 : za) (v1 : zt5) (s1_11 : Int) : (Int × Int × Int × Int) → Ex × St := fun r => ((.exit 2), zUg p0 v1 s1_11 r)
theorem z5m (k : Nat) (p0 : za) (v1 : zt5) (s1_11 s8_9 s8_14 s8_21 s8_22 : Int) (x : (Int × Int × Int × Int) ⊕ (Int × Int × Int × Int)) (h : zEi k p0 v1 s1_11 s8_9 s8_14 s8_21 s8_22 = some x) : zN TE 35 (blk TE 35 2) (fun s : (Int × Int × Int × Int) => zAn p0 v1 s1_11 s.1 s.2.1 s.2.2.1 s.2.2.2) (zDn p0 v1 s1_11) (s8_9, s8_14, s8_21, s8_22) x := by
 unfold zEi at h
 refine zo h (fun h1001 g1 => ?_) (fun h1001 g1 => ?_)
 ·refine zl g1 (fun v1002 h1003 g2 => ?_)
  refine zl g2 (fun v1004 h1005 g3 => ?_)
  exact zqn (v1004.1, (w64 (s8_14 + 1)), v1004.2.2.1, v1004.2.2.2) [] [(35, 11, 3, .q (xi (p0.Letters.1.length : Int))), (35, 11, 4, .q (xb true)), (35, 13, 5, .q (xi ((zP zx (⟨s1_11, s8_14⟩ : zm) v1.1.same).getD 0))), (35, 14, 6, .c (di v1002))] [(35, 2000057, (.nor, zaf p0 v1 s1_11 s8_9 s8_14 s8_21 s8_22 v1002 (decide (v1002 < s8_9)) v1004))] g3 (ob (zq zb p0.Letters.1) (ob (o_b h1001) (ob (znk (ek := (fun k => D.agg (zh k))) (evl := (fun n => D.i .i64 n)) (q := zx) (fun _ _ => rfl) (⟨s1_11, s8_14⟩ : zm) v1.1.same 0) (ob (zdd k ((zP zx (⟨s1_11, s8_14⟩ : zm) v1.1.same).getD 0) ([(w64 (v1.1.many - ((zP zx (⟨s1_11, s8_14⟩ : zm) v1.1.same).getD 0)))], .ex) _ h1003) (ob (zMm k p0 v1 s1_11 s8_9 s8_14 s8_21 s8_22 v1002 (decide (v1002 < s8_9)) _ h1005) ob0))))) (by kernel_rfl)
 ·exact zqo [(35, 11, 3, .q (xi (p0.Letters.1.length : Int))), (35, 11, 4, .q (xb false))] [] g1 (ob (zq zb p0.Letters.1) (ob (o_b h1001) ob0)) (by kernel_rfl)
noncomputable def z3v (p0 : za) (v1 : zt5) (s1_9 s1_11 : Int) : TM := [(0, (.d (.agg (zd p0)))), (zsp 1), (2, (xi 0)), (3, (xi 0)), (4, (xi v1.2)), (zsp 5), (18, (xb false)), (22, (xb false)), (zsp 6), (7, (xi s1_9)), (29, (xi (p0.Letters.1.length : Int))), (30, (xi s1_11))]
noncomputable def zCn (p0 : za) (v1 : zt5) (s1_9 s1_11 s1_18 s1_19 : Int) : St := ⟨(z3v p0 v1 s1_9 s1_11), ⟨[(zc 1 (zd p0)), (5, (.cells [(xi v1.1.many), (.d (.mp (em (fun k => D.agg (zh k)) (fun n => D.i .i64 n) v1.1.same)))])), (6, (.cells [(xi s1_18), (xi s1_19)]))], []⟩, []⟩
noncomputable def z9v (p0 : za) (v1 : zt5) (r : (Int × Int × Int × Int)) : TM := [(0, (.d (.agg (zd p0)))), (zsp 1), (2, (xi 0)), (3, (xi 0)), (4, (xi v1.2)), (zsp 5), (18, (xb false)), (22, (xb false)), (zsp 6), (7, (xi r.1)), (29, (xi (p0.Letters.1.length : Int))), (30, (xi r.2.1)), (31, (xb false))]
noncomputable def z2g (p0 : za) (v1 : zt5) (r : (Int × Int × Int × Int)) : St := ⟨(z9v p0 v1 r), ⟨[(zc 1 (zd p0)), (5, (.cells [(xi v1.1.many), (.d (.mp (em (fun k => D.agg (zh k)) (fun n => D.i .i64 n) v1.1.same)))])), (6, (.cells [(xi r.2.2.1), (xi r.2.2.2)]))], []⟩, []⟩
noncomputable def zGn (p0 : za) (v1 : zt5) : (Int × Int × Int × Int) → Ex × St := fun r => ((.exit 0), z2g p0 v1 r)
theorem z6m (k : Nat) (p0 : za) (v1 : zt5) (s1_9 s1_11 s1_18 s1_19 : Int) (x : (Int × Int × Int × Int) ⊕ (Int × Int × Int × Int)) (h : zxi k p0 v1 s1_9 s1_11 s1_18 s1_19 = some x) : zN TE 35 (blk TE 35 0) (fun s : (Int × Int × Int × Int) => zCn p0 v1 s.1 s.2.1 s.2.2.1 s.2.2.2) (zGn p0 v1) (s1_9, s1_11, s1_18, s1_19) x := by
 unfold zxi at h
 refine zo h (fun h801 g1 => ?_) (fun h801 g1 => ?_)
 ·refine zl g1 (fun v802 h803 g2 => ?_)
  exact zqn (v802.1, (w64 (s1_11 + 1)), v802.2.2.1, v802.2.2.2) [] [(35, 8, 0, .q (xb true))] [(35, 2, (.nor, zUg p0 v1 s1_11 v802))] g2 (ob (o_b h801) (ob (zz (id := 2) (r' := (.nor, zUg p0 v1 s1_11 v802)) (zRu (z5m k p0 v1 s1_11) k _ _ h803) rfl) ob0)) (by kernel_rfl)
 ·exact zqo [(35, 8, 0, .q (xb false))] [] g1 (ob (o_b h801) ob0) (by kernel_rfl)
theorem zFb (k : Nat) (p0 : za) (r : (Int × Int × Int)) (h : zpk k p0 = some r) : zC TE (ev TE) 35 [(.agg (zd p0))] = some (z7g r) := by
 unfold zpk at h
 refine zl h (fun v1 h2 g1 => ?_)
 refine zo g1 (fun h3 g2 => ?_) (fun h3 g2 => ?_)
 ·exact zt (g := z7g) g2 (zqc [(35, 1, 1, .c (.tup [(.agg [(di v1.1.many), (.mp (em (fun k => D.agg (zh k)) (fun n => D.i .i64 n) v1.1.same))]), (di v1.2)])), (35, 2, 1, .q (xb true))] [] (ob (zLc k p0 true _ h2) (ob (o_b h3) ob0)) (by kernel_rfl))
 ·refine zo g2 (fun h4 g3 => ?_) (fun h4 g3 => ?_)
  ·exact zt (g := z7g) g3 (zqc [(35, 1, 1, .c (.tup [(.agg [(di v1.1.many), (.mp (em (fun k => D.agg (zh k)) (fun n => D.i .i64 n) v1.1.same))]), (di v1.2)])), (35, 2, 1, .q (xb false)), (35, 4, 2, .q (xb true))] [] (ob (zLc k p0 true _ h2) (ob (o_b h3) (ob (o_b h4) ob0))) (by kernel_rfl))
  ·refine zl g3 (fun v5 h6 g4 => ?_)
   exact zt (g := z7g) g4 (zqc [(35, 1, 1, .c (.tup [(.agg [(di v1.1.many), (.mp (em (fun k => D.agg (zh k)) (fun n => D.i .i64 n) v1.1.same))]), (di v1.2)])), (35, 2, 1, .q (xb false)), (35, 4, 2, .q (xb false)), (35, 7, 2, .q (xi (p0.Letters.1.length : Int)))] [(35, 0, (.nor, z2g p0 v1 v5))] (ob (zLc k p0 true _ h2) (ob (o_b h3) (ob (o_b h4) (ob (zq zb p0.Letters.1) (ob (zz (id := 0) (r' := (.nor, z2g p0 v1 v5)) (zRu (z6m k p0 v1) k _ _ h6) rfl) ob0))))) (by kernel_rfl))
noncomputable def zQj (p0 : za) (v3 : zt0) : TM := [(0, (.d (.agg (zd p0)))), (zsp 1), (zsp 2), (5, (.d (.fn 88 [] [(.pin [(dl zb v3.1.1 v3.1.2), (dl (eL eI) v3.2.1.1 v3.2.1.2), (dl (aI 2) v3.2.2.1.1 v3.2.2.1.2), (di v3.2.2.2.1), (.mp (em (fun k => D.agg (zh k)) (fun b => D.b b) v3.2.2.2.2))])])))]
noncomputable def zXd (p0 : za) (v3 : zt0) : (Unit ⊕ Unit) → D × FS × List LRec := Sum.elim (fun r => ((db false), ⟨[(2, (.cells [(.yld 0)])), (3, (.cells [(.fn 89 [] [(.d (.pin [(dl zb v3.1.1 v3.1.2), (dl (eL eI) v3.2.1.1 v3.2.1.2), (dl (aI 2) v3.2.2.1.1 v3.2.2.1.2), (di v3.2.2.2.1), (.mp (em (fun k => D.agg (zh k)) (fun b => D.b b) v3.2.2.2.2))])), (.ptr 1 2 0), (.ptr 1 3 0)])]))], [[(zc 1 (zd p0)), (2, (.cells [(xb true)]))]]⟩, [⟨(zQj p0 v3), 0, rfP (blk TE 66 0), rfA (blk TE 66 0), rfB (blk TE 66 0), 66, (.done .ret)⟩])) (fun r => ((db true), ⟨[(2, (.cells [(.yld 0)])), (3, (.cells [(.fn 89 [] [(.d (.pin [(dl zb v3.1.1 v3.1.2), (dl (eL eI) v3.2.1.1 v3.2.1.2), (dl (aI 2) v3.2.2.1.1 v3.2.2.1.2), (di v3.2.2.2.1), (.mp (em (fun k => D.agg (zh k)) (fun b => D.b b) v3.2.2.2.2))])), (.ptr 1 2 0), (.ptr 1 3 0)])]))], [[(zc 1 (zd p0)), (2, (.cells [(xb false)]))]]⟩, [⟨(zQj p0 v3), 0, rfP (blk TE 66 0), rfA (blk TE 66 0), rfB (blk TE 66 0), 66, .rdy⟩]))
noncomputable def z5d (p0 : za) (v3 : zt0) (f : Fr) (fs : List Fr) : (Unit ⊕ Unit) → D × FS × List LRec := Sum.elim (fun r => ((db false), ⟨f, [[(zc 1 (zd p0)), (2, (.cells [(xb true)]))], [(2, (.cells [(.yld 0)])), (3, (.cells [(.fn 89 [] [(.d (.pin [(dl zb v3.1.1 v3.1.2), (dl (eL eI) v3.2.1.1 v3.2.1.2), (dl (aI 2) v3.2.2.1.1 v3.2.2.1.2), (di v3.2.2.2.1), (.mp (em (fun k => D.agg (zh k)) (fun b => D.b b) v3.2.2.2.2))])), (.ptr 1 2 0), (.ptr 1 3 0)])]))]] ++ fs⟩, [⟨(zQj p0 v3), 0, rfP (blk TE 66 0), rfA (blk TE 66 0), rfB (blk TE 66 0), 66, (.done .ret)⟩])) (fun r => ((db true), ⟨f, [[(zc 1 (zd p0)), (2, (.cells [(xb false)]))], [(2, (.cells [(.yld 0)])), (3, (.cells [(.fn 89 [] [(.d (.pin [(dl zb v3.1.1 v3.1.2), (dl (eL eI) v3.2.1.1 v3.2.1.2), (dl (aI 2) v3.2.2.1.1 v3.2.2.1.2), (di v3.2.2.2.1), (.mp (em (fun k => D.agg (zh k)) (fun b => D.b b) v3.2.2.2.2))])), (.ptr 1 2 0), (.ptr 1 3 0)])]))]] ++ fs⟩, [⟨(zQj p0 v3), 0, rfP (blk TE 66 0), rfA (blk TE 66 0), rfB (blk TE 66 0), 66, .rdy⟩]))
noncomputable def zke (p0 : za) (v3 : zt0) (rc : ((SL Int) → Option (Unit ⊕ Unit))) (fs : List Fr) : Prop := ∀ (f : Fr) (r0 : (SL Int)) (x : (Unit ⊕ Unit)), rc r0 = some x → zHb TE (ev TE) 89 [(.d (dl eI r0.1 r0.2)), (.d (.pin [(dl zb v3.1.1 v3.1.2), (dl (eL eI) v3.2.1.1 v3.2.1.2), (dl (aI 2) v3.2.2.1.1 v3.2.2.1.2), (di v3.2.2.2.1), (.mp (em (fun k => D.agg (zh k)) (fun b => D.b b) v3.2.2.2.2))])), (.ptr 1 2 0), (.ptr 1 3 0)] ⟨f, ([[(zc 1 (zd p0)), (2, (.cells [(xb false)]))], [(2, (.cells [(.yld 0)])), (3, (.cells [(.fn 89 [] [(.d (.pin [(dl zb v3.1.1 v3.1.2), (dl (eL eI) v3.2.1.1 v3.2.1.2), (dl (aI 2) v3.2.2.1.1 v3.2.2.1.2), (di v3.2.2.2.1), (.mp (em (fun k => D.agg (zh k)) (fun b => D.b b) v3.2.2.2.2))])), (.ptr 1 2 0), (.ptr 1 3 0)])]))]] ++ fs)⟩ [⟨(zQj p0 v3), 0, rfP (blk TE 66 0), rfA (blk TE 66 0), rfB (blk TE 66 0), 66, .rdy⟩] = some (z5d p0 v3 f fs x)
noncomputable def zAv (r0 : (SL Int)) (v3 : zt0) (v202 s2_10 : Int) (r : Bool) : TM := [(0, (.d (dl eI r0.1 r0.2))), (1, (.d (.pin [(dl zb v3.1.1 v3.1.2), (dl (eL eI) v3.2.1.1 v3.2.1.2), (dl (aI 2) v3.2.2.1.1 v3.2.2.1.2), (di v3.2.2.2.1), (.mp (em (fun k => D.agg (zh k)) (fun b => D.b b) v3.2.2.2.2))]))), (2, (.ptr 1 2 0)), (3, (.ptr 1 3 0)), (5, (xb false)), (6, (xi (r0.1.length : Int))), (15, (xb false)), (25, (xi (if (w64 (v202 + 1)) < v3.2.2.2.1 then (w64 (v202 + 1)) else v3.2.2.2.1))), (26, (xi s2_10)), (27, (xb true)), (7, (xi s2_10)), (43, (xb r))]
noncomputable def zod (p0 : za) (v3 : zt0) (r0 : (SL Int)) (v202 s2_10 : Int) (rc : ((SL Int) → Option (Unit ⊕ Unit))) (fs : List Fr) (r : Bool) : St := ⟨(zAv r0 v3 v202 s2_10 r), ⟨[], ([[(zc 1 (zd p0)), (2, (.cells [(xb false)]))], [(2, (.cells [(.yld 0)])), (3, (.cells [(.fn 89 [] [(.d (.pin [(dl zb v3.1.1 v3.1.2), (dl (eL eI) v3.2.1.1 v3.2.1.2), (dl (aI 2) v3.2.2.1.1 v3.2.2.1.2), (di v3.2.2.2.1), (.mp (em (fun k => D.agg (zh k)) (fun b => D.b b) v3.2.2.2.2))])), (.ptr 1 2 0), (.ptr 1 3 0)])]))]] ++ fs)⟩, [⟨(zQj p0 v3), 0, rfP (blk TE 66 0), rfA (blk TE 66 0), rfB (blk TE 66 0), 66, .rdy⟩]⟩
noncomputable def zzv (r0 : (SL Int)) (v3 : zt0) (k : Nat) (v202 s2_10 : Int) : TM := [(0, (.d (dl eI r0.1 r0.2))), (1, (.d (.pin [(dl zb v3.1.1 v3.1.2), (dl (eL eI) v3.2.1.1 v3.2.1.2), (dl (aI 2) v3.2.2.1.1 v3.2.2.1.2), (di v3.2.2.2.1), (.mp (em (fun k => D.agg (zh k)) (fun b => D.b b) v3.2.2.2.2))]))), (2, (.ptr 1 2 0)), (3, (.ptr 1 3 0)), (5, (xb false)), (6, (xi (r0.1.length : Int))), (15, (xb false)), (25, (xi (if (w64 (v202 + 1)) < v3.2.2.2.1 then (w64 (v202 + 1)) else v3.2.2.2.1))), (26, (xi s2_10)), (27, (xb true)), (7, (xi s2_10))]
noncomputable def zHp (p0 : za) (v3 : zt0) (k : Nat) : TM := [(0, (.d (.agg (zd p0)))), (zsp 1), (zsp 2), (5, (.d (.fn 88 [] [(.pin [(dl zb v3.1.1 v3.1.2), (dl (eL eI) v3.2.1.1 v3.2.1.2), (dl (aI 2) v3.2.2.1.1 v3.2.2.1.2), (di v3.2.2.2.1), (.mp (em (fun k => D.agg (zh k)) (fun b => D.b b) v3.2.2.2.2))])])))]
theorem zVg (k : Nat) (p0 : za) (v3 : zt0) (r0 : (SL Int)) (v202 s2_10 : Int) (rc : ((SL Int) → Option (Unit ⊕ Unit))) (fs : List Fr) (hfs : fs.length ≤ 8) (hrc : zke p0 v3 rc fs) (r : Bool) (h : zBi k p0 v3 r0 v202 s2_10 rc = some r) : ev TE 89 (rgn TE 89 7) ⟨(zzv r0 v3 k v202 s2_10), ⟨[], ([[(zc 1 (zd p0)), (2, (.cells [(xb false)]))], [(2, (.cells [(.yld 0)])), (3, (.cells [(.fn 89 [] [(.d (.pin [(dl zb v3.1.1 v3.1.2), (dl (eL eI) v3.2.1.1 v3.2.1.2), (dl (aI 2) v3.2.2.1.1 v3.2.2.1.2), (di v3.2.2.2.1), (.mp (em (fun k => D.agg (zh k)) (fun b => D.b b) v3.2.2.2.2))])), (.ptr 1 2 0), (.ptr 1 3 0)])]))]] ++ fs)⟩, [⟨(zHp p0 v3 k), 0, rfP (blk TE 66 0), rfA (blk TE 66 0), rfB (blk TE 66 0), 66, .rdy⟩]⟩ = some (.nor, zod p0 v3 r0 v202 s2_10 rc fs r) := by
 unfold zBi at h
 refine zl h (fun v501 h502 g1 => ?_)
 refine zo g1 (fun h503 g2 => ?_) (fun h503 g2 => ?_)
 ·exact zu (g := fun r => (Ex.nor, zod p0 v3 r0 v202 s2_10 rc fs r)) g2 (zqe [(89, 7, 4, .c (db v501)), (89, 7, 6, .q (xb true))] [] (ob (zZ k (⟨(⟨v3.1, v3.2.1, v3.2.2.1, v3.2.2.2.1⟩ : za), v3.2.2.2.2⟩ : zj) r0 (r0.1.length : Int) s2_10 _ h502) (ob (o_b h503) ob0)) (by cases f8 hfs <;> kernel_rfl))
 ·refine zl g2 (fun v504 h505 g3 => ?_)
  refine zl g3 (fun v506 h507 g4 => ?_)
  exact zu (g := fun r => (Ex.nor, zod p0 v3 r0 v202 s2_10 rc fs r)) g4 (zqe [(89, 7, 4, .c (db v501)), (89, 7, 6, .q (xb false)), (89, 7, 10, .c (.agg (aB 8 v504))), (89, 7, 12, .c (db v506))] [] (ob (zZ k (⟨(⟨v3.1, v3.2.1, v3.2.2.1, v3.2.2.2.1⟩ : za), v3.2.2.2.2⟩ : zj) r0 (r0.1.length : Int) s2_10 _ h502) (ob (o_b h503) (ob (zie k r0 s2_10 _ h505) (ob (z6b k (⟨(⟨v3.1, v3.2.1, v3.2.2.1, v3.2.2.2.1⟩ : za), v3.2.2.2.2⟩ : zj) v504 (r0.1.length : Int) _ h507) ob0)))) (by cases f8 hfs <;> kernel_rfl))
noncomputable def zwv (r0 : (SL Int)) (v3 : zt0) (v202 s2_10 : Int) : TM := [(0, (.d (dl eI r0.1 r0.2))), (1, (.d (.pin [(dl zb v3.1.1 v3.1.2), (dl (eL eI) v3.2.1.1 v3.2.1.2), (dl (aI 2) v3.2.2.1.1 v3.2.2.1.2), (di v3.2.2.2.1), (.mp (em (fun k => D.agg (zh k)) (fun b => D.b b) v3.2.2.2.2))]))), (2, (.ptr 1 2 0)), (3, (.ptr 1 3 0)), (5, (xb false)), (6, (xi (r0.1.length : Int))), (15, (xb false)), (25, (xi (if (w64 (v202 + 1)) < v3.2.2.2.1 then (w64 (v202 + 1)) else v3.2.2.2.1))), (26, (xi s2_10))]
noncomputable def zEn (p0 : za) (v3 : zt0) (r0 : (SL Int)) (v202 : Int) (rc : ((SL Int) → Option (Unit ⊕ Unit))) (fs : List Fr) (s2_10 : Int) : St := ⟨(zwv r0 v3 v202 s2_10), ⟨[], ([[(zc 1 (zd p0)), (2, (.cells [(xb false)]))], [(2, (.cells [(.yld 0)])), (3, (.cells [(.fn 89 [] [(.d (.pin [(dl zb v3.1.1 v3.1.2), (dl (eL eI) v3.2.1.1 v3.2.1.2), (dl (aI 2) v3.2.2.1.1 v3.2.2.1.2), (di v3.2.2.2.1), (.mp (em (fun k => D.agg (zh k)) (fun b => D.b b) v3.2.2.2.2))])), (.ptr 1 2 0), (.ptr 1 3 0)])]))]] ++ fs)⟩, [⟨(zQj p0 v3), 0, rfP (blk TE 66 0), rfA (blk TE 66 0), rfB (blk TE 66 0), 66, .rdy⟩]⟩
noncomputable def zyv (r0 : (SL Int)) (v3 : zt0) (v202 r : Int) : TM := [(0, (.d (dl eI r0.1 r0.2))), (1, (.d (.pin [(dl zb v3.1.1 v3.1.2), (dl (eL eI) v3.2.1.1 v3.2.1.2), (dl (aI 2) v3.2.2.1.1 v3.2.2.1.2), (di v3.2.2.2.1), (.mp (em (fun k => D.agg (zh k)) (fun b => D.b b) v3.2.2.2.2))]))), (2, (.ptr 1 2 0)), (3, (.ptr 1 3 0)), (5, (xb false)), (6, (xi (r0.1.length : Int))), (15, (xb false)), (25, (xi (if (w64 (v202 + 1)) < v3.2.2.2.1 then (w64 (v202 + 1)) else v3.2.2.2.1))), (26, (xi r)), (27, (xb true)), (7, (xi r)), (43, (xb false)), (53, (xb true))]
noncomputable def z3d (p0 : za) (v3 : zt0) (r0 : (SL Int)) (v202 : Int) (rc : ((SL Int) → Option (Unit ⊕ Unit))) (fs : List Fr) (r : Int) : St := ⟨(zyv r0 v3 v202 r), ⟨[], ([[(zc 1 (zd p0)), (2, (.cells [(xb true)]))], [(2, (.cells [(.yld 0)])), (3, (.cells [(.fn 89 [] [(.d (.pin [(dl zb v3.1.1 v3.1.2), (dl (eL eI) v3.2.1.1 v3.2.1.2), (dl (aI 2) v3.2.2.1.1 v3.2.2.1.2), (di v3.2.2.2.1), (.mp (em (fun k => D.agg (zh k)) (fun b => D.b b) v3.2.2.2.2))])), (.ptr 1 2 0), (.ptr 1 3 0)])]))]] ++ fs)⟩, [⟨(zQj p0 v3), 0, rfP (blk TE 66 0), rfA (blk TE 66 0), rfB (blk TE 66 0), 66, (.done .ret)⟩]⟩
noncomputable def zfw (r0 : (SL Int)) (v3 : zt0) (v202 r : Int) : TM := [(0, (.d (dl eI r0.1 r0.2))), (1, (.d (.pin [(dl zb v3.1.1 v3.1.2), (dl (eL eI) v3.2.1.1 v3.2.1.2), (dl (aI 2) v3.2.2.1.1 v3.2.2.1.2), (di v3.2.2.2.1), (.mp (em (fun k => D.agg (zh k)) (fun b => D.b b) v3.2.2.2.2))]))), (2, (.ptr 1 2 0)), (3, (.ptr 1 3 0)), (5, (xb false)), (6, (xi (r0.1.length : Int))), (15, (xb false)), (25, (xi (if (w64 (v202 + 1)) < v3.2.2.2.1 then (w64 (v202 + 1)) else v3.2.2.2.1))), (26, (xi r)), (27, (xb false))]
noncomputable def zVd (p0 : za) (v3 : zt0) (r0 : (SL Int)) (v202 : Int) (rc : ((SL Int) → Option (Unit ⊕ Unit))) (fs : List Fr) (r : Int) : St := ⟨(zfw r0 v3 v202 r), ⟨[], ([[(zc 1 (zd p0)), (2, (.cells [(xb false)]))], [(2, (.cells [(.yld 0)])), (3, (.cells [(.fn 89 [] [(.d (.pin [(dl zb v3.1.1 v3.1.2), (dl (eL eI) v3.2.1.1 v3.2.1.2), (dl (aI 2) v3.2.2.1.1 v3.2.2.1.2), (di v3.2.2.2.1), (.mp (em (fun k => D.agg (zh k)) (fun b => D.b b) v3.2.2.2.2))])), (.ptr 1 2 0), (.ptr 1 3 0)])]))]] ++ fs)⟩, [⟨(zQj p0 v3), 0, rfP (blk TE 66 0), rfA (blk TE 66 0), rfB (blk TE 66 0), 66, .rdy⟩]⟩
noncomputable def zBn (p0 : za) (v3 : zt0) (r0 : (SL Int)) (v202 : Int) (rc : ((SL Int) → Option (Unit ⊕ Unit))) (fs : List Fr) : (Int ⊕ Int) → Ex × St := Sum.elim (fun r => (.ret, z3d p0 v3 r0 v202 rc fs r)) (fun r => ((.exit 0), zVd p0 v3 r0 v202 rc fs r))
theorem zff (k : Nat) (p0 : za) (v3 : zt0) (r0 : (SL Int)) (v202 : Int) (rc : ((SL Int) → Option (Unit ⊕ Unit))) (fs : List Fr) (hfs : fs.length ≤ 8) (hrc : zke p0 v3 rc fs) (s2_10 : Int) (x : Int ⊕ (Int ⊕ Int)) (h : zji k p0 v3 r0 v202 rc s2_10 = some x) : zN TE 89 (blk TE 89 0) (fun s : Int => zEn p0 v3 r0 v202 rc fs s) (zBn p0 v3 r0 v202 rc fs) s2_10 x := by
 unfold zji at h
 refine zo h (fun h401 g1 => ?_) (fun h401 g1 => ?_)
 ·refine zl g1 (fun v402 h403 g2 => ?_)
  refine zo g2 (fun h404 g3 => ?_) (fun h404 g3 => ?_)
  ·subst h404
   exact zqn (w64 (s2_10 + 1)) [] [(89, 5, 0, .q (xb true))] [(89, 1000007, (.nor, zod p0 v3 r0 v202 s2_10 rc fs true))] g3 (ob (o_b h401) (ob (zVg k p0 v3 r0 v202 s2_10 rc fs hfs hrc _ h403) ob0)) (by cases f8 hfs <;> kernel_rfl)
  ·subst h404
   refine zo g3 (fun h405 g4 => ?_) (fun h405 g4 => ?_)
   ·cases g4
   ·refine zAb g4 (fun h406 g5 => ?_)
    refine zl g5 (fun v407 h408 g6 => ?_)
    refine zxd g6 (fun v410 hh g7_0 => ?_) (fun v410 hh g7_0 => ?_)
    ·subst hh
     exact zqo [(89, 5, 0, .q (xb true)), (89, 8, 4, .q (.d (dl eI r0.1 (ccap r0.2)))), (89, 8, 7, .q (.d (dl eI (r0.1 ++ [s2_10]) .ro))), (89, 8, 8, .i (db false) ⟨[], ([[(1, (.cells ((zd p0).map .d))), (2, (.cells [(xb true)]))], [(2, (.cells [(.yld 0)])), (3, (.cells [(.fn 89 [] [(.d (.pin [(dl zb v3.1.1 v3.1.2), (dl (eL eI) v3.2.1.1 v3.2.1.2), (dl (aI 2) v3.2.2.1.1 v3.2.2.1.2), (di v3.2.2.2.1), (.mp (em (fun k => D.agg (zh k)) (fun b => D.b b) v3.2.2.2.2))])), (.ptr 1 2 0), (.ptr 1 3 0)])]))]] ++ fs)⟩ [⟨[(0, (.d (.agg (zd p0)))), (1, (.ptr 0 1 0)), (2, (.ptr 0 2 0)), (5, (.d (.fn 88 [] [(.pin [(dl zb v3.1.1 v3.1.2), (dl (eL eI) v3.2.1.1 v3.2.1.2), (dl (aI 2) v3.2.2.1.1 v3.2.2.1.2), (di v3.2.2.2.1), (.mp (em (fun k => D.agg (zh k)) (fun b => D.b b) v3.2.2.2.2))])])))], 0, rfP (blk TE 66 0), rfA (blk TE 66 0), rfB (blk TE 66 0), 66, (.done .ret)⟩])] [(89, 1000007, (.nor, zod p0 v3 r0 v202 s2_10 rc fs false))] g7_0 (ob (o_b h401) (ob (zVg k p0 v3 r0 v202 s2_10 rc fs hfs hrc _ h403) (ob (zWl (e := eI) (z := 1) r0.1 r0.2) (ob (o_ad (P := TE.P) (φ := fun _ _ => none) (T := 27) (q := (1, [(di 0)])) (c := (ccap r0.2)) (e := eI) r0.1 s2_10 (by kernel_rfl) (fun _ => rfl) h405 h406) (ob (hrc ([] : Fr) ((r0.1 ++ [s2_10]), .ro) _ h408) ob0))))) (by cases f8 hfs <;> kernel_rfl)
    ·subst hh
     exact zqn (w64 (s2_10 + 1)) [] [(89, 5, 0, .q (xb true)), (89, 8, 4, .q (.d (dl eI r0.1 (ccap r0.2)))), (89, 8, 7, .q (.d (dl eI (r0.1 ++ [s2_10]) .ro))), (89, 8, 8, .i (db true) ⟨[], ([[(1, (.cells ((zd p0).map .d))), (2, (.cells [(xb false)]))], [(2, (.cells [(.yld 0)])), (3, (.cells [(.fn 89 [] [(.d (.pin [(dl zb v3.1.1 v3.1.2), (dl (eL eI) v3.2.1.1 v3.2.1.2), (dl (aI 2) v3.2.2.1.1 v3.2.2.1.2), (di v3.2.2.2.1), (.mp (em (fun k => D.agg (zh k)) (fun b => D.b b) v3.2.2.2.2))])), (.ptr 1 2 0), (.ptr 1 3 0)])]))]] ++ fs)⟩ [⟨[(0, (.d (.agg (zd p0)))), (1, (.ptr 0 1 0)), (2, (.ptr 0 2 0)), (5, (.d (.fn 88 [] [(.pin [(dl zb v3.1.1 v3.1.2), (dl (eL eI) v3.2.1.1 v3.2.1.2), (dl (aI 2) v3.2.2.1.1 v3.2.2.1.2), (di v3.2.2.2.1), (.mp (em (fun k => D.agg (zh k)) (fun b => D.b b) v3.2.2.2.2))])])))], 0, rfP (blk TE 66 0), rfA (blk TE 66 0), rfB (blk TE 66 0), 66, .rdy⟩])] [(89, 1000007, (.nor, zod p0 v3 r0 v202 s2_10 rc fs false))] g7_0 (ob (o_b h401) (ob (zVg k p0 v3 r0 v202 s2_10 rc fs hfs hrc _ h403) (ob (zWl (e := eI) (z := 1) r0.1 r0.2) (ob (o_ad (P := TE.P) (φ := fun _ _ => none) (T := 27) (q := (1, [(di 0)])) (c := (ccap r0.2)) (e := eI) r0.1 s2_10 (by kernel_rfl) (fun _ => rfl) h405 h406) (ob (hrc ([] : Fr) ((r0.1 ++ [s2_10]), .ro) _ h408) ob0))))) (by cases f8 hfs <;> kernel_rfl)
 ·exact zqo [(89, 5, 0, .q (xb false))] [] g1 (ob (o_b h401) ob0) (by cases f8 hfs <;> kernel_rfl)
theorem zJm (k : Nat) (p0 : za) (v3 : zt0) (rc : ((SL Int) → Option (Unit ⊕ Unit))) (hrc : zke p0 v3 rc []) (r0 : (SL Int)) (x : (Unit ⊕ Unit)) (h : zje k p0 v3 rc r0 = some x) : zHb TE (ev TE) 89 [(.d (dl eI r0.1 r0.2)), (.d (.pin [(dl zb v3.1.1 v3.1.2), (dl (eL eI) v3.2.1.1 v3.2.1.2), (dl (aI 2) v3.2.2.1.1 v3.2.2.1.2), (di v3.2.2.2.1), (.mp (em (fun k => D.agg (zh k)) (fun b => D.b b) v3.2.2.2.2))])), (.ptr 1 2 0), (.ptr 1 3 0)] ⟨[(2, (.cells [(.yld 0)])), (3, (.cells [(.fn 89 [] [(.d (.pin [(dl zb v3.1.1 v3.1.2), (dl (eL eI) v3.2.1.1 v3.2.1.2), (dl (aI 2) v3.2.2.1.1 v3.2.2.1.2), (di v3.2.2.2.1), (.mp (em (fun k => D.agg (zh k)) (fun b => D.b b) v3.2.2.2.2))])), (.ptr 1 2 0), (.ptr 1 3 0)])]))], [[(zc 1 (zd p0)), (2, (.cells [(xb false)]))]]⟩ [⟨(zHp p0 v3 k), 0, rfP (blk TE 66 0), rfA (blk TE 66 0), rfB (blk TE 66 0), 66, .rdy⟩] = some (zXd p0 v3 x) := by
 unfold zje at h
 refine zo h (fun h201 g1 => ?_) (fun h201 g1 => ?_)
 ·exact zRc (g := zXd p0 v3) g1 (zMb (n := 80) (V := [(89, 1, 1, .q (xi (r0.1.length : Int))), (89, 2, 4, .q (xi (v3.1.1.length : Int))), (89, 2, 5, .q (xb true))]) (C := []) (ob (zq eI r0.1) (ob (zq zb v3.1.1) (ob (o_b h201) ob0))) (by kernel_rfl))
 ·refine zl g1 (fun v202 h203 g2 => ?_)
  refine zl g2 (fun v204 h205 g3 => ?_)
  refine zxd g3 (fun v207 hh g4_0 => ?_) (fun v207 hh g4_0 => ?_)
  ·subst hh
   exact zRc (g := zXd p0 v3) g4_0 (zMb (n := 80) (V := [(89, 1, 1, .q (xi (r0.1.length : Int))), (89, 2, 4, .q (xi (v3.1.1.length : Int))), (89, 2, 5, .q (xb false)), (89, 4, 4, .c (di v202))]) (C := [(89, 0, (.ret, z3d p0 v3 r0 v202 rc ([] : List Fr) v207))]) (ob (zq eI r0.1) (ob (zq zb v3.1.1) (ob (o_b h201) (ob (zS k r0 _ h203) (ob (zz (id := 0) (r' := (.ret, z3d p0 v3 r0 v202 rc ([] : List Fr) v207)) (zge (zff k p0 v3 r0 v202 rc ([] : List Fr) (Nat.zero_le _) hrc) k _ _ h205) rfl) ob0))))) (by kernel_rfl))
  ·subst hh
   exact zRc (g := zXd p0 v3) g4_0 (zMb (n := 80) (V := [(89, 1, 1, .q (xi (r0.1.length : Int))), (89, 2, 4, .q (xi (v3.1.1.length : Int))), (89, 2, 5, .q (xb false)), (89, 4, 4, .c (di v202))]) (C := [(89, 0, (.nor, zVd p0 v3 r0 v202 rc ([] : List Fr) v207))]) (ob (zq eI r0.1) (ob (zq zb v3.1.1) (ob (o_b h201) (ob (zS k r0 _ h203) (ob (zz (id := 0) (r' := (.nor, zVd p0 v3 r0 v202 rc ([] : List Fr) v207)) (zge (zff k p0 v3 r0 v202 rc ([] : List Fr) (Nat.zero_le _) hrc) k _ _ h205) rfl) ob0))))) (by kernel_rfl))
theorem zUm (k : Nat) (p0 : za) (v3 : zt0) (rc : ((SL Int) → Option (Unit ⊕ Unit))) (f : Fr) (fs : List Fr) (hfs : fs.length + 1 ≤ 8) (hrc : zke p0 v3 rc (fs ++ [f])) (r0 : (SL Int)) (x : (Unit ⊕ Unit)) (h : zje k p0 v3 rc r0 = some x) : zHb TE (ev TE) 89 [(.d (dl eI r0.1 r0.2)), (.d (.pin [(dl zb v3.1.1 v3.1.2), (dl (eL eI) v3.2.1.1 v3.2.1.2), (dl (aI 2) v3.2.2.1.1 v3.2.2.1.2), (di v3.2.2.2.1), (.mp (em (fun k => D.agg (zh k)) (fun b => D.b b) v3.2.2.2.2))])), (.ptr 1 2 0), (.ptr 1 3 0)] ⟨f, ([[(zc 1 (zd p0)), (2, (.cells [(xb false)]))], [(2, (.cells [(.yld 0)])), (3, (.cells [(.fn 89 [] [(.d (.pin [(dl zb v3.1.1 v3.1.2), (dl (eL eI) v3.2.1.1 v3.2.1.2), (dl (aI 2) v3.2.2.1.1 v3.2.2.1.2), (di v3.2.2.2.1), (.mp (em (fun k => D.agg (zh k)) (fun b => D.b b) v3.2.2.2.2))])), (.ptr 1 2 0), (.ptr 1 3 0)])]))]] ++ fs)⟩ [⟨(zHp p0 v3 k), 0, rfP (blk TE 66 0), rfA (blk TE 66 0), rfB (blk TE 66 0), 66, .rdy⟩] = some (z5d p0 v3 f fs x) := by
 unfold zje at h
 refine zo h (fun h201 g1 => ?_) (fun h201 g1 => ?_)
 ·exact zRc (g := z5d p0 v3 f fs) g1 (zMb (n := 80) (V := [(89, 1, 1, .q (xi (r0.1.length : Int))), (89, 2, 4, .q (xi (v3.1.1.length : Int))), (89, 2, 5, .q (xb true))]) (C := []) (ob (zq eI r0.1) (ob (zq zb v3.1.1) (ob (o_b h201) ob0))) (by cases f8 (Nat.le_of_succ_le hfs) <;> kernel_rfl))
 ·refine zl g1 (fun v202 h203 g2 => ?_)
  refine zl g2 (fun v204 h205 g3 => ?_)
  refine zxd g3 (fun v207 hh g4_0 => ?_) (fun v207 hh g4_0 => ?_)
  ·subst hh
   exact zRc (g := z5d p0 v3 f fs) g4_0 (zMb (n := 80) (V := [(89, 1, 1, .q (xi (r0.1.length : Int))), (89, 2, 4, .q (xi (v3.1.1.length : Int))), (89, 2, 5, .q (xb false)), (89, 4, 4, .c (di v202))]) (C := [(89, 0, (.ret, z3d p0 v3 r0 v202 rc (fs ++ [f]) v207))]) (ob (zq eI r0.1) (ob (zq zb v3.1.1) (ob (o_b h201) (ob (zS k r0 _ h203) (ob (zz (id := 0) (r' := (.ret, z3d p0 v3 r0 v202 rc (fs ++ [f]) v207)) (zge (zff k p0 v3 r0 v202 rc (fs ++ [f]) (zlj f hfs) hrc) k _ _ h205) rfl) ob0))))) (by cases f8 (Nat.le_of_succ_le hfs) <;> kernel_rfl))
  ·subst hh
   exact zRc (g := z5d p0 v3 f fs) g4_0 (zMb (n := 80) (V := [(89, 1, 1, .q (xi (r0.1.length : Int))), (89, 2, 4, .q (xi (v3.1.1.length : Int))), (89, 2, 5, .q (xb false)), (89, 4, 4, .c (di v202))]) (C := [(89, 0, (.nor, zVd p0 v3 r0 v202 rc (fs ++ [f]) v207))]) (ob (zq eI r0.1) (ob (zq zb v3.1.1) (ob (o_b h201) (ob (zS k r0 _ h203) (ob (zz (id := 0) (r' := (.nor, zVd p0 v3 r0 v202 rc (fs ++ [f]) v207)) (zge (zff k p0 v3 r0 v202 rc (fs ++ [f]) (zlj f hfs) hrc) k _ _ h205) rfl) ob0))))) (by cases f8 (Nat.le_of_succ_le hfs) <;> kernel_rfl))
theorem zOi (k : Nat) (p0 : za) (v3 : zt0) : ∀ (n : Nat) (fs : List Fr), fs.length + n ≤ 8 → zke p0 v3 (zcf k p0 v3 n) fs
 | 0, fs, hfs => fun f r0 x h => by cases h
 | n + 1, fs, hfs => fun f r0 x h => zUm k p0 v3 _ f fs (by omega) (zOi k p0 v3 n (fs ++ [f]) (by simp; omega)) r0 x h
theorem zhj (k : Nat) (p0 : za) (v3 : zt0) (r0 : (SL Int)) (x : (Unit ⊕ Unit)) (h : zcf k p0 v3 9 r0 = some x) : zHb TE (ev TE) 89 [(.d (dl eI r0.1 r0.2)), (.d (.pin [(dl zb v3.1.1 v3.1.2), (dl (eL eI) v3.2.1.1 v3.2.1.2), (dl (aI 2) v3.2.2.1.1 v3.2.2.1.2), (di v3.2.2.2.1), (.mp (em (fun k => D.agg (zh k)) (fun b => D.b b) v3.2.2.2.2))])), (.ptr 1 2 0), (.ptr 1 3 0)] ⟨[(2, (.cells [(.yld 0)])), (3, (.cells [(.fn 89 [] [(.d (.pin [(dl zb v3.1.1 v3.1.2), (dl (eL eI) v3.2.1.1 v3.2.1.2), (dl (aI 2) v3.2.2.1.1 v3.2.2.1.2), (di v3.2.2.2.1), (.mp (em (fun k => D.agg (zh k)) (fun b => D.b b) v3.2.2.2.2))])), (.ptr 1 2 0), (.ptr 1 3 0)])]))], [[(zc 1 (zd p0)), (2, (.cells [(xb false)]))]]⟩ [⟨(zHp p0 v3 k), 0, rfP (blk TE 66 0), rfA (blk TE 66 0), rfB (blk TE 66 0), 66, .rdy⟩] = some (zXd p0 v3 x) := zJm k p0 v3 _ (zOi k p0 v3 8 [] (by decide)) r0 x h
theorem zyg (k : Nat) (p0 : za) (r : Bool) (h : zZg k p0 = some r) : zC TE (ev TE) 66 [(.agg (zd p0))] = some (zPi r) := by
 unfold zZg at h
 refine zl h (fun v1 h2 g1 => ?_)
 refine zl g1 (fun v3 h4 g2 => ?_)
 refine zl g2 (fun v5 h6 g3 => ?_)
 refine zxd g3 (fun v8 hh g4_0 => ?_) (fun v8 hh g4_0 => ?_)
 ·subst hh
  exact zt (g := zPi) g4_0 (zqc [(66, 1, 1, .c (.agg (zn v1))), (66, 1, 2, .c (.fn 88 [] [(.pin [(dl zb v3.1.1 v3.1.2), (dl (eL eI) v3.2.1.1 v3.2.1.2), (dl (aI 2) v3.2.2.1.1 v3.2.2.1.2), (di v3.2.2.2.1), (.mp (em (fun k => D.agg (zh k)) (fun b => D.b b) v3.2.2.2.2))])])), (88, 3, 1, .i (db false) ⟨[(2, (.cells [(.yld 0)])), (3, (.cells [(.fn 89 [] [(.d (.pin [(dl zb v3.1.1 v3.1.2), (dl (eL eI) v3.2.1.1 v3.2.1.2), (dl (aI 2) v3.2.2.1.1 v3.2.2.1.2), (di v3.2.2.2.1), (.mp (em (fun k => D.agg (zh k)) (fun b => D.b b) v3.2.2.2.2))])), (.ptr 1 2 0), (.ptr 1 3 0)])]))], [[(1, (.cells ((zd p0).map .d))), (2, (.cells [(xb true)]))]]⟩ [⟨[(0, (.d (.agg (zd p0)))), (1, (.ptr 0 1 0)), (2, (.ptr 0 2 0)), (5, (.d (.fn 88 [] [(.pin [(dl zb v3.1.1 v3.1.2), (dl (eL eI) v3.2.1.1 v3.2.1.2), (dl (aI 2) v3.2.2.1.1 v3.2.2.1.2), (di v3.2.2.2.1), (.mp (em (fun k => D.agg (zh k)) (fun b => D.b b) v3.2.2.2.2))])])))], 0, rfP (blk TE 66 0), rfA (blk TE 66 0), rfB (blk TE 66 0), 66, (.done .ret)⟩])] [] (ob (zmb k p0 _ h2) (ob (z3b k v1 _ h4) (ob (zhj k p0 v3 ([], Cap.nil) _ h6) ob0))) (by kernel_rfl))
 ·subst hh
  exact zt (g := zPi) g4_0 (zqc [(66, 1, 1, .c (.agg (zn v1))), (66, 1, 2, .c (.fn 88 [] [(.pin [(dl zb v3.1.1 v3.1.2), (dl (eL eI) v3.2.1.1 v3.2.1.2), (dl (aI 2) v3.2.2.1.1 v3.2.2.1.2), (di v3.2.2.2.1), (.mp (em (fun k => D.agg (zh k)) (fun b => D.b b) v3.2.2.2.2))])])), (88, 3, 1, .i (db true) ⟨[(2, (.cells [(.yld 0)])), (3, (.cells [(.fn 89 [] [(.d (.pin [(dl zb v3.1.1 v3.1.2), (dl (eL eI) v3.2.1.1 v3.2.1.2), (dl (aI 2) v3.2.2.1.1 v3.2.2.1.2), (di v3.2.2.2.1), (.mp (em (fun k => D.agg (zh k)) (fun b => D.b b) v3.2.2.2.2))])), (.ptr 1 2 0), (.ptr 1 3 0)])]))], [[(1, (.cells ((zd p0).map .d))), (2, (.cells [(xb false)]))]]⟩ [⟨[(0, (.d (.agg (zd p0)))), (1, (.ptr 0 1 0)), (2, (.ptr 0 2 0)), (5, (.d (.fn 88 [] [(.pin [(dl zb v3.1.1 v3.1.2), (dl (eL eI) v3.2.1.1 v3.2.1.2), (dl (aI 2) v3.2.2.1.1 v3.2.2.1.2), (di v3.2.2.2.1), (.mp (em (fun k => D.agg (zh k)) (fun b => D.b b) v3.2.2.2.2))])])))], 0, rfP (blk TE 66 0), rfA (blk TE 66 0), rfB (blk TE 66 0), 66, .rdy⟩])] [] (ob (zmb k p0 _ h2) (ob (z3b k v1 _ h4) (ob (zhj k p0 v3 ([], Cap.nil) _ h6) ob0))) (by kernel_rfl))
noncomputable def zPv (p0 : (SL Int)) (p1 s1_4 : Int) : TM := [(0, (.d (dl eI p0.1 p0.2))), (1, (xi p1)), (4, (xi 0)), (7, (xi (p0.1.length : Int))), (8, (xi s1_4))]
noncomputable def z2j (p0 : (SL Int)) (p1 s1_4 : Int) : St := ⟨(zPv p0 p1 s1_4), ⟨[], []⟩, []⟩
noncomputable def zsv (p0 : (SL Int)) (p1 r : Int) : TM := [(0, (.d (dl eI p0.1 p0.2))), (1, (xi p1)), (4, (xi r)), (7, (xi (p0.1.length : Int))), (8, (xi r)), (9, (xb true)), (5, (xi r)), (16, (xb true))]
noncomputable def zce (p0 : (SL Int)) (p1 r : Int) : St := ⟨(zsv p0 p1 r), ⟨[], []⟩, []⟩
noncomputable def zYv (p0 : (SL Int)) (p1 r : Int) : TM := [(0, (.d (dl eI p0.1 p0.2))), (1, (xi p1)), (4, (xi 0)), (7, (xi (p0.1.length : Int))), (8, (xi r)), (9, (xb false))]
noncomputable def zfe (p0 : (SL Int)) (p1 r : Int) : St := ⟨(zYv p0 p1 r), ⟨[], []⟩, []⟩
noncomputable def zOj (p0 : (SL Int)) (p1 : Int) : (Int ⊕ Int) → Ex × St := Sum.elim (fun r => (.ret, zce p0 p1 r)) (fun r => ((.exit 0), zfe p0 p1 r))
theorem zkg (k : Nat) (p0 : (SL Int)) (p1 s1_4 : Int) (x : Int ⊕ (Int ⊕ Int)) (h : zXe k p0 p1 s1_4 = some x) : zN TE 94 (blk TE 94 0) (fun s : Int => z2j p0 p1 s) (zOj p0 p1) s1_4 x := by
 unfold zXe at h
 refine zo h (fun h201 g1 => ?_) (fun h201 g1 => ?_)
 ·refine zl g1 (fun v202 h203 g2 => ?_)
  refine zo g2 (fun h204 g3 => ?_) (fun h204 g3 => ?_)
  ·exact zqo [(94, 2, 0, .q (xb true)), (94, 4, 3, .q (.d (.pin [(di v202)]))), (94, 4, 5, .q (xb true))] [] g3 (ob (o_b h201) (ob (o_ia (e := eI) 1 h203 rfl) (ob (o_b h204) ob0))) (by kernel_rfl)
  ·exact zqn (w64 (s1_4 + 1)) [] [(94, 2, 0, .q (xb true)), (94, 4, 3, .q (.d (.pin [(di v202)]))), (94, 4, 5, .q (xb false))] [] g3 (ob (o_b h201) (ob (o_ia (e := eI) 1 h203 rfl) (ob (o_b h204) ob0))) (by kernel_rfl)
 ·exact zqo [(94, 2, 0, .q (xb false))] [] g1 (ob (o_b h201) ob0) (by kernel_rfl)
theorem zMk (k : Nat) (p0 : (SL Int)) (p1 r : Int) (h : z6f k p0 p1 = some r) : zC TE (ev TE) 94 [(dl eI p0.1 p0.2), (di p1)] = some (zpf r) := by
 unfold z6f at h
 refine zl h (fun v1 h2 g1 => ?_)
 refine zxd g1 (fun v4 hh g2_0 => ?_) (fun v4 hh g2_0 => ?_)
 ·subst hh
  exact zt (g := zpf) g2_0 (zqc [(94, 1, 1, .q (xi (p0.1.length : Int)))] [(94, 0, (.ret, zce p0 p1 v4))] (ob (zq eI p0.1) (ob (zz (id := 0) (r' := (.ret, zce p0 p1 v4)) (zge (zkg k p0 p1) k _ _ h2) rfl) ob0)) (by kernel_rfl))
 ·subst hh
  exact zt (g := zpf) g2_0 (zqc [(94, 1, 1, .q (xi (p0.1.length : Int)))] [(94, 0, (.nor, zfe p0 p1 v4))] (ob (zq eI p0.1) (ob (zz (id := 0) (r' := (.nor, zfe p0 p1 v4)) (zge (zkg k p0 p1) k _ _ h2) rfl) ob0)) (by kernel_rfl))
theorem zng (k : Nat) (p0 : (SL Int)) (p1 : Int) (r : Bool) (h : z4e k p0 p1 = some r) : zC TE (ev TE) 92 [(dl eI p0.1 p0.2), (di p1)] = some (zLg r) := by
 unfold z4e at h
 refine zl h (fun v1 h2 g1 => ?_)
 exact zt (g := zLg) g1 (zqc [(92, 1, 2, .c (di v1))] [] (ob (zMk k p0 p1 _ h2) ob0) (by kernel_rfl))
noncomputable def zUv (p0 : za) (p1 : (SL Int)) (s1_7 : Int) : TM := [(0, (.d (.agg (zd p0)))), (1, (.d (dl eI p1.1 p1.2))), (zsp 2), (zsp 4), (zsp 5), (6, (.map 0 18)), (20, (.d (dl zb p0.Letters.1 p0.Letters.2))), (21, (xi (p0.Letters.1.length : Int))), (22, (xi s1_7))]
noncomputable def zHl (p0 : za) (p1 : (SL Int)) (s1_7 : Int) (s1_18 : (List zi)) (s1_20 : (List (Int × Int))) : St := ⟨(zUv p0 p1 s1_7), ⟨[(zc 2 (zd p0)), (4, (.cells [(.d (.sl [] .nil)), (.d (.sl [] .nil)), (.d (.sl [] .nil)), (xi 0)])), (5, (.cells [(.row 0 1016 s1_18.length), (.d (dl (eL eI) p0.Far.1 p0.Far.2)), (.row 0 1017 0), (xi p0.Most)])), (1016, (rowO true 6 zb s1_18 true)), (1017, .nrow), (18, (.map (em (fun n => D.i .i64 n) (fun n => D.i .i64 n) s1_20)))], []⟩, []⟩
noncomputable def zZv (p0 : za) (p1 : (SL Int)) (r : zt12) : TM := [(0, (.d (.agg (zd p0)))), (1, (.d (dl eI p1.1 p1.2))), (zsp 2), (zsp 4), (zsp 5), (6, (.map 0 18)), (20, (.d (dl zb p0.Letters.1 p0.Letters.2))), (21, (xi (p0.Letters.1.length : Int))), (22, (xi r.1)), (23, (xb false))]
noncomputable def ztf (p0 : za) (p1 : (SL Int)) (r : zt12) : St := ⟨(zZv p0 p1 r), ⟨[(zc 2 (zd p0)), (4, (.cells [(.d (.sl [] .nil)), (.d (.sl [] .nil)), (.d (.sl [] .nil)), (xi 0)])), (5, (.cells [(.row 0 1016 r.2.1.length), (.d (dl (eL eI) p0.Far.1 p0.Far.2)), (.row 0 1017 0), (xi p0.Most)])), (1016, (rowO true 6 zb r.2.1 true)), (1017, .nrow), (18, (.map (em (fun n => D.i .i64 n) (fun n => D.i .i64 n) r.2.2)))], []⟩, []⟩
noncomputable def zDl (p0 : za) (p1 : (SL Int)) : (Int × (List zi) × (List (Int × Int))) → Ex × St := fun r => ((.exit 0), ztf p0 p1 r)
theorem zkl (k : Nat) (p0 : za) (p1 : (SL Int)) (s1_7 : Int) (s1_18 : (List zi)) (s1_20 : (List (Int × Int))) (x : (Int × (List zi) × (List (Int × Int))) ⊕ (Int × (List zi) × (List (Int × Int)))) (h : zvg k p0 p1 s1_7 s1_18 s1_20 = some x) : zN TE 70 (blk TE 70 0) (fun s : (Int × (List zi) × (List (Int × Int))) => zHl p0 p1 s.1 s.2.1 s.2.2) (zDl p0 p1) (s1_7, s1_18, s1_20) x := by
 unfold zvg at h
 refine zo h (fun h301 g1 => ?_) (fun h301 g1 => ?_)
 ·refine zl g1 (fun v302 h303 g2 => ?_)
  refine zl g2 (fun v304 h305 g3 => ?_)
  refine zo g3 (fun h306 g4 => ?_) (fun h306 g4 => ?_)
  ·refine zAb g4 (fun h307 g5 => ?_)
   exact zqn ((w64 (s1_7 + 1)), (s1_18 ++ [v302]), (mset zrc s1_7 (s1_18.length : Int) s1_20)) [1016] [(70, 5, 0, .q (xb true)), (70, 6, 1, .q (.d (.pin (zb v302)))), (70, 7, 2, .c (db v304)), (70, 7, 3, .q (xb true)), (70, 8, 4, .q (xi (s1_18.length : Int))), (70, 8, 5, .mp (em (fun n => D.i .i64 n) (fun n => D.i .i64 n) (mset zrc s1_7 (s1_18.length : Int) s1_20))), (70, 9, 4, .ap (s1_18 ++ [v302]).length (rowO true 6 zb (s1_18 ++ [v302]) true))] [] g5 (ob (o_b h301) (ob (o_ia (e := zb) 6 h303 rfl) (ob (zng k p1 s1_7 _ h305) (ob (o_b h306) (ob (zck true 6 zb s1_18 true) (ob (z3p (ek := (fun n => D.i .i64 n)) (evl := (fun n => D.i .i64 n)) (q := zrc) (fun _ _ => rfl) s1_7 (s1_18.length : Int) s1_20) (ob (o_ap (b := true) (z := 6) (e := zb) (l := s1_18) (w := true) v302 (fun _ => rfl) h307) (ob (zif true 6 zb (s1_18 ++ [v302]) true) ob0)))))))) (by kernel_rfl)
  ·exact zqn ((w64 (s1_7 + 1)), s1_18, s1_20) [1016] [(70, 5, 0, .q (xb true)), (70, 6, 1, .q (.d (.pin (zb v302)))), (70, 7, 2, .c (db v304)), (70, 7, 3, .q (xb false))] [] g4 (ob (o_b h301) (ob (o_ia (e := zb) 6 h303 rfl) (ob (zng k p1 s1_7 _ h305) (ob (o_b h306) (ob (zif true 6 zb s1_18 true) ob0))))) (by kernel_rfl)
 ·exact zqo [(70, 5, 0, .q (xb false))] [] g1 (ob (o_b h301) ob0) (by kernel_rfl)
noncomputable def zfv (p0 : za) (p1 : (SL Int)) (v1 : zt12) (s3_11 : Int) (v802 : zt4) (r : Bool) : TM := [(0, (.d (.agg (zd p0)))), (1, (.d (dl eI p1.1 p1.2))), (zsp 2), (zsp 4), (zsp 5), (6, (.map 0 18)), (20, (.d (dl zb p0.Letters.1 p0.Letters.2))), (21, (xi (p0.Letters.1.length : Int))), (22, (xi v1.1)), (23, (xb false)), (44, (.d (dl (aI 2) p0.Apart.1 p0.Apart.2))), (45, (xi (p0.Apart.1.length : Int))), (46, (xi s3_11)), (47, (xb true)), (zsp 10), (11, (xi ((zP zrc (v802 0) v1.2.2).getD 0))), (12, (xb (zP zrc (v802 0) v1.2.2).isSome)), (13, (xi ((zP zrc (v802 1) v1.2.2).getD 0))), (14, (xb (zP zrc (v802 1) v1.2.2).isSome)), (67, (xb r))]
noncomputable def z7d (p0 : za) (p1 : (SL Int)) (v1 : zt12) (s3_11 : Int) (s3_24 : (List (Nat → Int))) (v802 : zt4) (r : Bool) : St := ⟨(zfv p0 p1 v1 s3_11 v802 r), ⟨[(zc 2 (zd p0)), (4, (.cells [(.d (.sl [] .nil)), (.d (.sl [] .nil)), (.d (.sl [] .nil)), (xi 0)])), (5, (.cells [(.row 0 1016 v1.2.1.length), (.d (dl (eL eI) p0.Far.1 p0.Far.2)), (.row 0 1017 s3_24.length), (xi p0.Most)])), (1016, (rowO true 6 zb v1.2.1 true)), (1017, (rowO true 2 (aI 2) s3_24 true)), (18, (.map (em (fun n => D.i .i64 n) (fun n => D.i .i64 n) v1.2.2))), (zc 10 (aI 2 v802))], []⟩, []⟩
noncomputable def z9r (p0 : za) (p1 : (SL Int)) (v1 : zt12) (s3_11 : Int) (v802 : zt4) : TM := [(0, (.d (.agg (zd p0)))), (1, (.d (dl eI p1.1 p1.2))), (zsp 2), (zsp 4), (zsp 5), (6, (.map 0 18)), (20, (.d (dl zb p0.Letters.1 p0.Letters.2))), (21, (xi (p0.Letters.1.length : Int))), (22, (xi v1.1)), (23, (xb false)), (44, (.d (dl (aI 2) p0.Apart.1 p0.Apart.2))), (45, (xi (p0.Apart.1.length : Int))), (46, (xi s3_11)), (47, (xb true)), (zsp 10), (11, (xi ((zP zrc (v802 0) v1.2.2).getD 0))), (12, (xb (zP zrc (v802 0) v1.2.2).isSome)), (13, (xi ((zP zrc (v802 1) v1.2.2).getD 0))), (14, (xb (zP zrc (v802 1) v1.2.2).isSome))]
theorem zml (k : Nat) (p0 : za) (p1 : (SL Int)) (v1 : zt12) (s3_11 : Int) (s3_24 : (List (Nat → Int))) (v802 : zt4) (r : Bool) (h : zrg k p0 p1 v1 s3_11 s3_24 v802 = some r) : ev TE 70 (rgn TE 70 16) ⟨(z9r p0 p1 v1 s3_11 v802), ⟨[(zc 2 (zd p0)), (4, (.cells [(.d (.sl [] .nil)), (.d (.sl [] .nil)), (.d (.sl [] .nil)), (xi 0)])), (5, (.cells [(.row 0 1016 v1.2.1.length), (.d (dl (eL eI) p0.Far.1 p0.Far.2)), (.row 0 1017 s3_24.length), (xi p0.Most)])), (1016, (rowO true 6 zb v1.2.1 true)), (1017, (rowO true 2 (aI 2) s3_24 true)), (18, (.map (em (fun n => D.i .i64 n) (fun n => D.i .i64 n) v1.2.2))), (zc 10 (aI 2 v802))], []⟩, []⟩ = some (.nor, z7d p0 p1 v1 s3_11 s3_24 v802 r) := by
 unfold zrg at h
 refine zo h (fun h901 g1 => ?_) (fun h901 g1 => ?_)
 ·exact zu (g := fun r => (Ex.nor, z7d p0 p1 v1 s3_11 s3_24 v802 r)) g1 (zqe [(70, 16, 1, .q (xb true))] [] (ob (o_b h901) ob0) (by kernel_rfl))
 ·exact zu (g := fun r => (Ex.nor, z7d p0 p1 v1 s3_11 s3_24 v802 r)) g1 (zqe [(70, 16, 1, .q (xb false))] [] (ob (o_b h901) ob0) (by kernel_rfl))
noncomputable def z6d (p0 : za) (p1 : (SL Int)) (v1 : zt12) (s3_11 : Int) (s3_24 : (List (Nat → Int))) (v802 : zt4) (v804 : Bool) (r : (Bool × (List (Nat → Int)))) : St := ⟨(z9r p0 p1 v1 s3_11 v802 ++ [(67, (xb r.1))]), ⟨[(zc 2 (zd p0)), (4, (.cells [(.d (.sl [] .nil)), (.d (.sl [] .nil)), (.d (.sl [] .nil)), (xi 0)])), (5, (.cells [(.row 0 1016 v1.2.1.length), (.d (dl (eL eI) p0.Far.1 p0.Far.2)), (.row 0 1017 r.2.length), (xi p0.Most)])), (1016, (rowO true 6 zb v1.2.1 true)), (1017, (rowO true 2 (aI 2) r.2 true)), (18, (.map (em (fun n => D.i .i64 n) (fun n => D.i .i64 n) v1.2.2))), (zc 10 (aI 2 v802))], []⟩, []⟩
theorem zil (k : Nat) (p0 : za) (p1 : (SL Int)) (v1 : zt12) (s3_11 : Int) (s3_24 : (List (Nat → Int))) (v802 : zt4) (v804 : Bool) (r : (Bool × (List (Nat → Int)))) (h : zqg k p0 p1 v1 s3_11 s3_24 v802 v804 = some r) : ev TE 70 (cnd TE 70 67) ⟨(z9r p0 p1 v1 s3_11 v802 ++ [(67, (xb v804))]), ⟨[(zc 2 (zd p0)), (4, (.cells [(.d (.sl [] .nil)), (.d (.sl [] .nil)), (.d (.sl [] .nil)), (xi 0)])), (5, (.cells [(.row 0 1016 v1.2.1.length), (.d (dl (eL eI) p0.Far.1 p0.Far.2)), (.row 0 1017 s3_24.length), (xi p0.Most)])), (1016, (rowO true 6 zb v1.2.1 true)), (1017, (rowO true 2 (aI 2) s3_24 true)), (18, (.map (em (fun n => D.i .i64 n) (fun n => D.i .i64 n) v1.2.2))), (zc 10 (aI 2 v802))], []⟩, []⟩ = some (.nor, z6d p0 p1 v1 s3_11 s3_24 v802 v804 r) := by
 unfold zqg at h
 refine zo h (fun h1001 g1 => ?_) (fun h1001 g1 => ?_)
 ·subst h1001
  refine zAb g1 (fun h1002 g2 => ?_)
  exact zu (g := fun r => (Ex.nor, z6d p0 p1 v1 s3_11 s3_24 v802 true r)) g2 (zqe [(70, 17, 6, .ap (s3_24 ++ [(lfI [((zP zrc (v802 0) v1.2.2).getD 0), ((zP zrc (v802 1) v1.2.2).getD 0)])]).length (rowO true 2 (aI 2) (s3_24 ++ [(lfI [((zP zrc (v802 0) v1.2.2).getD 0), ((zP zrc (v802 1) v1.2.2).getD 0)])]) true))] [] (ob (o_ap (b := true) (z := 2) (e := (aI 2)) (l := s3_24) (w := true) (lfI [((zP zrc (v802 0) v1.2.2).getD 0), ((zP zrc (v802 1) v1.2.2).getD 0)]) (fun _ => rfl) h1002) ob0) (by kernel_rfl))
 ·subst h1001
  exact zu (g := fun r => (Ex.nor, z6d p0 p1 v1 s3_11 s3_24 v802 false r)) g1 (zqe [] [] ob0 (by kernel_rfl))
noncomputable def zav (p0 : za) (p1 : (SL Int)) (v1 : zt12) (s3_11 : Int) : TM := [(0, (.d (.agg (zd p0)))), (1, (.d (dl eI p1.1 p1.2))), (zsp 2), (zsp 4), (zsp 5), (6, (.map 0 18)), (20, (.d (dl zb p0.Letters.1 p0.Letters.2))), (21, (xi (p0.Letters.1.length : Int))), (22, (xi v1.1)), (23, (xb false)), (44, (.d (dl (aI 2) p0.Apart.1 p0.Apart.2))), (45, (xi (p0.Apart.1.length : Int))), (46, (xi s3_11))]
noncomputable def zAl (p0 : za) (p1 : (SL Int)) (v1 : zt12) (s3_11 : Int) (s3_24 : (List (Nat → Int))) : St := ⟨(zav p0 p1 v1 s3_11), ⟨[(zc 2 (zd p0)), (4, (.cells [(.d (.sl [] .nil)), (.d (.sl [] .nil)), (.d (.sl [] .nil)), (xi 0)])), (5, (.cells [(.row 0 1016 v1.2.1.length), (.d (dl (eL eI) p0.Far.1 p0.Far.2)), (.row 0 1017 s3_24.length), (xi p0.Most)])), (1016, (rowO true 6 zb v1.2.1 true)), (1017, (rowO true 2 (aI 2) s3_24 true)), (18, (.map (em (fun n => D.i .i64 n) (fun n => D.i .i64 n) v1.2.2)))], []⟩, []⟩
noncomputable def z4u (p0 : za) (p1 : (SL Int)) (v1 : zt12) (r : (Int × (List (Nat → Int)))) : TM := [(0, (.d (.agg (zd p0)))), (1, (.d (dl eI p1.1 p1.2))), (zsp 2), (zsp 4), (zsp 5), (6, (.map 0 18)), (20, (.d (dl zb p0.Letters.1 p0.Letters.2))), (21, (xi (p0.Letters.1.length : Int))), (22, (xi v1.1)), (23, (xb false)), (44, (.d (dl (aI 2) p0.Apart.1 p0.Apart.2))), (45, (xi (p0.Apart.1.length : Int))), (46, (xi r.1)), (47, (xb false))]
noncomputable def zuf (p0 : za) (p1 : (SL Int)) (v1 : zt12) (r : (Int × (List (Nat → Int)))) : St := ⟨(z4u p0 p1 v1 r), ⟨[(zc 2 (zd p0)), (4, (.cells [(.d (.sl [] .nil)), (.d (.sl [] .nil)), (.d (.sl [] .nil)), (xi 0)])), (5, (.cells [(.row 0 1016 v1.2.1.length), (.d (dl (eL eI) p0.Far.1 p0.Far.2)), (.row 0 1017 r.2.length), (xi p0.Most)])), (1016, (rowO true 6 zb v1.2.1 true)), (1017, (rowO true 2 (aI 2) r.2 true)), (18, (.map (em (fun n => D.i .i64 n) (fun n => D.i .i64 n) v1.2.2)))], []⟩, []⟩
noncomputable def zKl (p0 : za) (p1 : (SL Int)) (v1 : zt12) : (Int × (List (Nat → Int))) → Ex × St := fun r => ((.exit 2), zuf p0 p1 v1 r)
theorem zgl (k : Nat) (p0 : za) (p1 : (SL Int)) (v1 : zt12) (s3_11 : Int) (s3_24 : (List (Nat → Int))) (x : (Int × (List (Nat → Int))) ⊕ (Int × (List (Nat → Int)))) (h : zwg k p0 p1 v1 s3_11 s3_24 = some x) : zN TE 70 (blk TE 70 2) (fun s : (Int × (List (Nat → Int))) => zAl p0 p1 v1 s.1 s.2) (zKl p0 p1 v1) (s3_11, s3_24) x := by
 unfold zwg at h
 refine zo h (fun h801 g1 => ?_) (fun h801 g1 => ?_)
 ·refine zl g1 (fun v802 h803 g2 => ?_)
  refine zl g2 (fun v804 h805 g3 => ?_)
  refine zl g3 (fun v806 h807 g4 => ?_)
  exact zqn ((w64 (s3_11 + 1)), v806.2) [1016, 1017] [(70, 12, 0, .q (xb true)), (70, 13, 0, .q (.d (.pin (aI 2 v802)))), (70, 14, 3, .q (.d (.tup [(di ((zP zrc (v802 0) v1.2.2).getD 0)), (db (zP zrc (v802 0) v1.2.2).isSome)]))), (70, 15, 3, .q (.d (.tup [(di ((zP zrc (v802 1) v1.2.2).getD 0)), (db (zP zrc (v802 1) v1.2.2).isSome)])))] [(70, 1000016, (.nor, z7d p0 p1 v1 s3_11 s3_24 v802 v804)), (70, 2000067, (.nor, z6d p0 p1 v1 s3_11 s3_24 v802 v804 v806))] g4 (ob (o_b h801) (ob (o_ia (e := (aI 2)) 2 h803 rfl) (ob (zvr (ek := (fun n => D.i .i64 n)) (evl := (fun n => D.i .i64 n)) (q := zrc) (fun _ _ => rfl) (v802 0) v1.2.2 0) (ob (zvr (ek := (fun n => D.i .i64 n)) (evl := (fun n => D.i .i64 n)) (q := zrc) (fun _ _ => rfl) (v802 1) v1.2.2 0) (ob (zml k p0 p1 v1 s3_11 s3_24 v802 _ h805) (ob (zil k p0 p1 v1 s3_11 s3_24 v802 v804 _ h807) (ob (zif true 6 zb v1.2.1 true) (ob (zif true 2 (aI 2) v806.2 true) ob0)))))))) (by kernel_rfl)
 ·exact zqo [(70, 12, 0, .q (xb false))] [] g1 (ob (o_b h801) ob0) (by kernel_rfl)
theorem zNi (k : Nat) (p0 : za) (p1 : (SL Int)) (r : za) (h : zgg k p0 p1 = some r) : zC TE (ev TE) 70 [(.agg (zd p0)), (dl eI p1.1 p1.2)] = some (zbj r) := by
 unfold zgg at h
 refine zl h (fun v1 h2 g1 => ?_)
 refine zl g1 (fun v3 h4 g2 => ?_)
 exact zt (g := zbj) g2 (zqr [(70, 4, 2, .q (xi (p0.Letters.1.length : Int))), (70, 11, 2, .q (xi (p0.Apart.1.length : Int)))] [(70, 0, (.nor, ztf p0 p1 v1)), (70, 2, (.nor, zuf p0 p1 v1 v3))] [(.agg [(dl zb v1.2.1 (rcap true v1.2.1)), (dl (eL eI) p0.Far.1 p0.Far.2), (dl (aI 2) v3.2 (rcap true v3.2)), (di p0.Most)])] (ob (zq zb p0.Letters.1) (ob (zz (id := 0) (r' := (.nor, ztf p0 p1 v1)) (zin (zkl k p0 p1) k _ _ h2) rfl) (ob (zq (aI 2) p0.Apart.1) (ob (zz (id := 2) (r' := (.nor, zuf p0 p1 v1 v3)) (zkc (zgl k p0 p1 v1) k _ _ h4) rfl) (ob (show zGc ⟨[(1016, (rowO true 6 zb v1.2.1 true)), (1017, (rowO true 2 (aI 2) v3.2 true))], []⟩ _ = _ from (o_s1 (x := (.agg [(.row 0 1016 v1.2.1.length), (.d (dl (eL eI) p0.Far.1 p0.Far.2)), (.row 0 1017 v3.2.length), (xi p0.Most)])) (zTs (o_c1 (z1l true 6 zb v1.2.1 true rfl) (o_cd (o_c1 (z1l true 2 (aI 2) v3.2 true rfl) (o_cd o_c0))))) o_s0)) ob0))))) (by kernel_rfl))
theorem zgb (k : Nat) (p0 : Int) (r : Bool) (h : zEh k p0 = some r) : zC TE (ev TE) 91 [(di p0)] = some (zZk r) := by
 unfold zEh at h
 exact zt (g := zZk) h (zqc [] [] ob0 (by kernel_rfl))
theorem zgf (k : Nat) (p0 p1 r : Int) (h : zJg k p0 p1 = some r) : zC TE (ev TE) 68 [(di p0), (di p1)] = some (zNc r) := by
 unfold zJg at h
 refine zl h (fun v1 h2 g1 => ?_)
 refine zl g1 (fun v3 h4 g2 => ?_)
 refine zo g2 (fun h5 g3 => ?_) (fun h5 g3 => ?_)
 ·refine zo g3 (fun h6 g4 => ?_) (fun h6 g4 => ?_)
  ·exact zt (g := zNc) g4 (zqc [(68, 1, 1, .c (db v1)), (68, 2, 1, .c (db v3)), (68, 3, 0, .q (xb true)), (68, 4, 0, .q (xb true))] [] (ob (zgb k p0 _ h2) (ob (zgb k p1 _ h4) (ob (o_b h5) (ob (o_b h6) ob0)))) (by kernel_rfl))
  ·exact zt (g := zNc) g4 (zqc [(68, 1, 1, .c (db v1)), (68, 2, 1, .c (db v3)), (68, 3, 0, .q (xb true)), (68, 4, 0, .q (xb false))] [] (ob (zgb k p0 _ h2) (ob (zgb k p1 _ h4) (ob (o_b h5) (ob (o_b h6) ob0)))) (by kernel_rfl))
 ·refine zo g3 (fun h6 g4 => ?_) (fun h6 g4 => ?_)
  ·exact zt (g := zNc) g4 (zqc [(68, 1, 1, .c (db v1)), (68, 2, 1, .c (db v3)), (68, 3, 0, .q (xb false)), (68, 7, 0, .q (xb true))] [] (ob (zgb k p0 _ h2) (ob (zgb k p1 _ h4) (ob (o_b h5) (ob (o_b h6) ob0)))) (by kernel_rfl))
  ·refine zo g4 (fun h7 g5 => ?_) (fun h7 g5 => ?_)
   ·exact zt (g := zNc) g5 (zqc [(68, 1, 1, .c (db v1)), (68, 2, 1, .c (db v3)), (68, 3, 0, .q (xb false)), (68, 7, 0, .q (xb false)), (68, 9, 2, .q (xb true))] [] (ob (zgb k p0 _ h2) (ob (zgb k p1 _ h4) (ob (o_b h5) (ob (o_b h6) (ob (o_b h7) ob0))))) (by kernel_rfl))
   ·refine zo g5 (fun h8 g6 => ?_) (fun h8 g6 => ?_)
    ·exact zt (g := zNc) g6 (zqc [(68, 1, 1, .c (db v1)), (68, 2, 1, .c (db v3)), (68, 3, 0, .q (xb false)), (68, 7, 0, .q (xb false)), (68, 9, 2, .q (xb false)), (68, 11, 2, .q (xb true))] [] (ob (zgb k p0 _ h2) (ob (zgb k p1 _ h4) (ob (o_b h5) (ob (o_b h6) (ob (o_b h7) (ob (o_b h8) ob0)))))) (by kernel_rfl))
    ·exact zt (g := zNc) g6 (zqc [(68, 1, 1, .c (db v1)), (68, 2, 1, .c (db v3)), (68, 3, 0, .q (xb false)), (68, 7, 0, .q (xb false)), (68, 9, 2, .q (xb false)), (68, 11, 2, .q (xb false))] [] (ob (zgb k p0 _ h2) (ob (zgb k p1 _ h4) (ob (o_b h5) (ob (o_b h6) (ob (o_b h7) (ob (o_b h8) ob0)))))) (by kernel_rfl))
noncomputable def zBv (p0 p1 : (SL Int)) (s1_5 : Int) : TM := [(0, (.d (dl eI p0.1 p0.2))), (1, (.d (dl eI p1.1 p1.2))), (4, (xi 0)), (9, (.d (dl eI p0.1 p0.2))), (10, (xi (p0.1.length : Int))), (11, (xi s1_5))]
noncomputable def zaj (p0 p1 : (SL Int)) (s1_5 : Int) : St := ⟨(zBv p0 p1 s1_5), ⟨[], []⟩, []⟩
noncomputable def zmv (p0 p1 : (SL Int)) (r : zt1) : TM := [(0, (.d (dl eI p0.1 p0.2))), (1, (.d (dl eI p1.1 p1.2))), (4, (xi 1)), (9, (.d (dl eI p0.1 p0.2))), (10, (xi (p0.1.length : Int))), (11, (xi r.1)), (12, (xb true)), (5, (xi r.1)), (6, (xi r.2)), (19, (xb true))]
noncomputable def zHd (p0 p1 : (SL Int)) (r : zt1) : St := ⟨(zmv p0 p1 r), ⟨[], []⟩, []⟩
noncomputable def zHv (p0 p1 : (SL Int)) (r : (Int × Int × Int × Int)) : TM := [(0, (.d (dl eI p0.1 p0.2))), (1, (.d (dl eI p1.1 p1.2))), (4, (xi r.1)), (9, (.d (dl eI p0.1 p0.2))), (10, (xi (p0.1.length : Int))), (11, (xi r.2.1)), (12, (xb true)), (5, (xi r.2.1)), (6, (xi r.2.2.1)), (19, (xb false)), (7, (xi r.2.2.2)), (8, (xi r.1)), (28, (xb true))]
noncomputable def zKd (p0 p1 : (SL Int)) (r : (Int × Int × Int × Int)) : St := ⟨(zHv p0 p1 r), ⟨[], []⟩, []⟩
noncomputable def zQv (p0 p1 : (SL Int)) (r : Int) : TM := [(0, (.d (dl eI p0.1 p0.2))), (1, (.d (dl eI p1.1 p1.2))), (4, (xi 0)), (9, (.d (dl eI p0.1 p0.2))), (10, (xi (p0.1.length : Int))), (11, (xi r)), (12, (xb false))]
noncomputable def zRb (p0 p1 : (SL Int)) (r : Int) : St := ⟨(zQv p0 p1 r), ⟨[], []⟩, []⟩
noncomputable def zjj (p0 p1 : (SL Int)) : ((Int × Int) ⊕ ((Int × Int × Int × Int) ⊕ Int)) → Ex × St := Sum.elim (fun r => (.ret, zHd p0 p1 r)) (Sum.elim (fun r => (.ret, zKd p0 p1 r)) (fun r => ((.exit 0), zRb p0 p1 r)))
theorem zDc (k : Nat) (p0 p1 : (SL Int)) (s1_5 : Int) (x : Int ⊕ ((Int × Int) ⊕ ((Int × Int × Int × Int) ⊕ Int))) (h : zte k p0 p1 s1_5 = some x) : zN TE 69 (blk TE 69 0) (fun s : Int => zaj p0 p1 s) (zjj p0 p1) s1_5 x := by
 unfold zte at h
 refine zo h (fun h201 g1 => ?_) (fun h201 g1 => ?_)
 ·refine zl g1 (fun v202 h203 g2 => ?_)
  refine zo g2 (fun h204 g3 => ?_) (fun h204 g3 => ?_)
  ·exact zqo [(69, 2, 0, .q (xb true)), (69, 3, 1, .q (.d (.pin [(di v202)]))), (69, 4, 2, .q (xi (p1.1.length : Int))), (69, 4, 3, .q (xb true))] [] g3 (ob (o_b h201) (ob (o_ia (e := eI) 1 h203 rfl) (ob (zq eI p1.1) (ob (o_b h204) ob0)))) (by kernel_rfl)
  ·refine zl g3 (fun v205 h206 g4 => ?_)
   refine zl g4 (fun v207 h208 g5 => ?_)
   refine zo g5 (fun h209 g6 => ?_) (fun h209 g6 => ?_)
   ·exact zqo [(69, 2, 0, .q (xb true)), (69, 3, 1, .q (.d (.pin [(di v202)]))), (69, 4, 2, .q (xi (p1.1.length : Int))), (69, 4, 3, .q (xb false)), (69, 6, 2, .q (.d (.pin [(di v205)]))), (69, 7, 2, .c (di v207)), (69, 8, 1, .q (xb true))] [] g6 (ob (o_b h201) (ob (o_ia (e := eI) 1 h203 rfl) (ob (zq eI p1.1) (ob (o_b h204) (ob (o_ia (e := eI) 1 h206 rfl) (ob (zgf k v202 v205 _ h208) (ob (o_b h209) ob0))))))) (by kernel_rfl)
   ·exact zqn (w64 (s1_5 + 1)) [] [(69, 2, 0, .q (xb true)), (69, 3, 1, .q (.d (.pin [(di v202)]))), (69, 4, 2, .q (xi (p1.1.length : Int))), (69, 4, 3, .q (xb false)), (69, 6, 2, .q (.d (.pin [(di v205)]))), (69, 7, 2, .c (di v207)), (69, 8, 1, .q (xb false))] [] g6 (ob (o_b h201) (ob (o_ia (e := eI) 1 h203 rfl) (ob (zq eI p1.1) (ob (o_b h204) (ob (o_ia (e := eI) 1 h206 rfl) (ob (zgf k v202 v205 _ h208) (ob (o_b h209) ob0))))))) (by kernel_rfl)
 ·exact zqo [(69, 2, 0, .q (xb false))] [] g1 (ob (o_b h201) ob0) (by kernel_rfl)
theorem zIg (k : Nat) (p0 p1 : (SL Int)) (r : Int) (h : zsf k p0 p1 = some r) : zC TE (ev TE) 69 [(dl eI p0.1 p0.2), (dl eI p1.1 p1.2)] = some (zyc r) := by
 unfold zsf at h
 refine zl h (fun v1 h2 g1 => ?_)
 refine zxd g1 (fun v4 hh g2_0 => ?_) (fun w1_0 hh g2_0 => ?_)
 ·subst hh
  exact zt (g := zyc) g2_0 (zqc [(69, 1, 1, .q (xi (p0.1.length : Int)))] [(69, 0, (.ret, zHd p0 p1 v4))] (ob (zq eI p0.1) (ob (zz (id := 0) (r' := (.ret, zHd p0 p1 v4)) (zge (zDc k p0 p1) k _ _ h2) rfl) ob0)) (by kernel_rfl))
 ·subst hh
  refine zxd g2_0 (fun v4 hh g2_1 => ?_) (fun v4 hh g2_1 => ?_)
  ·subst hh
   exact zt (g := zyc) g2_1 (zqc [(69, 1, 1, .q (xi (p0.1.length : Int)))] [(69, 0, (.ret, zKd p0 p1 v4))] (ob (zq eI p0.1) (ob (zz (id := 0) (r' := (.ret, zKd p0 p1 v4)) (zge (zDc k p0 p1) k _ _ h2) rfl) ob0)) (by kernel_rfl))
  ·subst hh
   refine zo g2_1 (fun h5 g3 => ?_) (fun h5 g3 => ?_)
   ·exact zt (g := zyc) g3 (zqc [(69, 1, 1, .q (xi (p0.1.length : Int))), (69, 11, 1, .q (xi (p0.1.length : Int))), (69, 11, 3, .q (xi (p1.1.length : Int))), (69, 11, 4, .q (xb true))] [(69, 0, (.nor, zRb p0 p1 v4))] (ob (zq eI p0.1) (ob (zz (id := 0) (r' := (.nor, zRb p0 p1 v4)) (zge (zDc k p0 p1) k _ _ h2) rfl) (ob (zq eI p0.1) (ob (zq eI p1.1) (ob (o_b h5) ob0))))) (by kernel_rfl))
   ·exact zt (g := zyc) g3 (zqc [(69, 1, 1, .q (xi (p0.1.length : Int))), (69, 11, 1, .q (xi (p0.1.length : Int))), (69, 11, 3, .q (xi (p1.1.length : Int))), (69, 11, 4, .q (xb false))] [(69, 0, (.nor, zRb p0 p1 v4))] (ob (zq eI p0.1) (ob (zz (id := 0) (r' := (.nor, zRb p0 p1 v4)) (zge (zDc k p0 p1) k _ _ h2) rfl) (ob (zq eI p0.1) (ob (zq eI p1.1) (ob (o_b h5) ob0))))) (by kernel_rfl))
noncomputable def zrv (p0 : (SL Int)) (s1_5 : Int) : TM := [(0, (.d (dl eI p0.1 p0.2))), (2, (xi 0)), (3, (xi 0)), (6, (.d (dl eI p0.1 p0.2))), (7, (xi (p0.1.length : Int))), (8, (xi s1_5))]
noncomputable def zno (p0 : (SL Int)) (s1_5 : Int) : St := ⟨(zrv p0 s1_5), ⟨[], []⟩, []⟩
noncomputable def ziv (p0 : (SL Int)) (r : zt1) : TM := [(0, (.d (dl eI p0.1 p0.2))), (2, (xi r.1)), (3, (xi 0)), (6, (.d (dl eI p0.1 p0.2))), (7, (xi (p0.1.length : Int))), (8, (xi r.2)), (9, (xb true)), (5, (xi r.1)), (14, (xb true))]
noncomputable def zTh (p0 : (SL Int)) (r : zt1) : St := ⟨(ziv p0 r), ⟨[], []⟩, []⟩
noncomputable def zGv (p0 : (SL Int)) (r : Int) : TM := [(0, (.d (dl eI p0.1 p0.2))), (2, (xi 0)), (3, (xi 0)), (6, (.d (dl eI p0.1 p0.2))), (7, (xi (p0.1.length : Int))), (8, (xi r)), (9, (xb false))]
noncomputable def zHh (p0 : (SL Int)) (r : Int) : St := ⟨(zGv p0 r), ⟨[], []⟩, []⟩
noncomputable def zFo (p0 : (SL Int)) : ((Int × Int) ⊕ Int) → Ex × St := Sum.elim (fun r => (.ret, zTh p0 r)) (fun r => ((.exit 0), zHh p0 r))
theorem zyk (k : Nat) (p0 : (SL Int)) (s1_5 : Int) (x : Int ⊕ ((Int × Int) ⊕ Int)) (h : zDj k p0 s1_5 = some x) : zN TE 67 (blk TE 67 0) (fun s : Int => zno p0 s) (zFo p0) s1_5 x := by
 unfold zDj at h
 refine zo h (fun h201 g1 => ?_) (fun h201 g1 => ?_)
 ·refine zl g1 (fun v202 h203 g2 => ?_)
  refine zo g2 (fun h204 g3 => ?_) (fun h204 g3 => ?_)
  ·exact zqo [(67, 3, 0, .q (xb true)), (67, 4, 0, .q (.d (.pin [(di v202)]))), (67, 5, 2, .q (xb true))] [] g3 (ob (o_b h201) (ob (o_ia (e := eI) 1 h203 rfl) (ob (o_b h204) ob0))) (by kernel_rfl)
  ·exact zqn (w64 (s1_5 + 1)) [] [(67, 3, 0, .q (xb true)), (67, 4, 0, .q (.d (.pin [(di v202)]))), (67, 5, 2, .q (xb false))] [] g3 (ob (o_b h201) (ob (o_ia (e := eI) 1 h203 rfl) (ob (o_b h204) ob0))) (by kernel_rfl)
 ·exact zqo [(67, 3, 0, .q (xb false))] [] g1 (ob (o_b h201) ob0) (by kernel_rfl)
theorem zAm (k : Nat) (p0 : (SL Int)) (r : Int) (h : zcm k p0 = some r) : zC TE (ev TE) 67 [(dl eI p0.1 p0.2)] = some (zFk r) := by
 unfold zcm at h
 refine zl h (fun v1 h2 g1 => ?_)
 refine zxd g1 (fun v4 hh g2_0 => ?_) (fun v4 hh g2_0 => ?_)
 ·subst hh
  exact zt (g := zFk) g2_0 (zqc [(67, 2, 1, .q (xi (p0.1.length : Int)))] [(67, 0, (.ret, zTh p0 v4))] (ob (zq eI p0.1) (ob (zz (id := 0) (r' := (.ret, zTh p0 v4)) (zge (zyk k p0) k _ _ h2) rfl) ob0)) (by kernel_rfl))
 ·subst hh
  exact zt (g := zFk) g2_0 (zqc [(67, 2, 1, .q (xi (p0.1.length : Int)))] [(67, 0, (.nor, zHh p0 v4))] (ob (zq eI p0.1) (ob (zz (id := 0) (r' := (.nor, zHh p0 v4)) (zge (zyk k p0) k _ _ h2) rfl) ob0)) (by kernel_rfl))
noncomputable def z5v (p0 : za) (v1 : Int) (s1_9 : (SL Int)) (s1_11 : Int) (s6_20 : (List Int)) (s6_15 : Int) : TM := [(0, (.d (.agg (zd p0)))), (zsp 1), (2, (.d (.sl [] .nil))), (3, (xi 0)), (4, (xi v1)), (12, (xb false)), (15, (xb false)), (5, (.d (dl eI s1_9.1 s1_9.2))), (19, (xi (z6i 1 (p0.Letters.1.length : Int)))), (20, (xi s1_11)), (21, (xb true)), (6, (xi s1_11)), (7, (.row 0 7 s6_20.length)), (25, (xi (p0.Letters.1.length : Int))), (26, (xi s6_15))]
noncomputable def zbn (p0 : za) (v1 : Int) (s1_9 : (SL Int)) (s1_11 s6_15 : Int) (s6_20 : (List Int)) : St := ⟨(z5v p0 v1 s1_9 s1_11 s6_20 s6_15), ⟨[(zc 1 (zd p0)), (7, (rowO true 1 eI s6_20 true))], []⟩, []⟩
noncomputable def z0v (p0 : za) (v1 : Int) (s1_9 : (SL Int)) (s1_11 : Int) (r : (Int × (List Int))) : TM := [(0, (.d (.agg (zd p0)))), (zsp 1), (2, (.d (.sl [] .nil))), (3, (xi 0)), (4, (xi v1)), (12, (xb false)), (15, (xb false)), (5, (.d (dl eI s1_9.1 s1_9.2))), (19, (xi (z6i 1 (p0.Letters.1.length : Int)))), (20, (xi s1_11)), (21, (xb true)), (6, (xi s1_11)), (7, (.row 0 7 r.2.length)), (25, (xi (p0.Letters.1.length : Int))), (26, (xi r.1)), (27, (xb false))]
noncomputable def ztg (p0 : za) (v1 : Int) (s1_9 : (SL Int)) (s1_11 : Int) (r : (Int × (List Int))) : St := ⟨(z0v p0 v1 s1_9 s1_11 r), ⟨[(zc 1 (zd p0)), (7, (rowO true 1 eI r.2 true))], []⟩, []⟩
noncomputable def znn (p0 : za) (v1 : Int) (s1_9 : (SL Int)) (s1_11 : Int) : (Int × (List Int)) → Ex × St := fun r => ((.exit 2), ztg p0 v1 s1_9 s1_11 r)
theorem zVm (k : Nat) (p0 : za) (v1 : Int) (s1_9 : (SL Int)) (s1_11 s6_15 : Int) (s6_20 : (List Int)) (x : (Int × (List Int)) ⊕ (Int × (List Int))) (h : zQh k p0 v1 s1_9 s1_11 s6_15 s6_20 = some x) : zN TE 28 (blk TE 28 2) (fun s : (Int × (List Int)) => zbn p0 v1 s1_9 s1_11 s.1 s.2) (znn p0 v1 s1_9 s1_11) (s6_15, s6_20) x := by
 unfold zQh at h
 refine zo h (fun h801 g1 => ?_) (fun h801 g1 => ?_)
 ·refine zo g1 (fun h802 g2 => ?_) (fun h802 g2 => ?_)
  ·cases g2
  ·refine zo g2 (fun h803 g3 => ?_) (fun h803 g3 => ?_)
   ·refine zAb g3 (fun h804 g4 => ?_)
    exact zqn ((w64 (s6_15 + 1)), (s6_20 ++ [s6_15])) [7] [(28, 12, 0, .q (xb true)), (28, 14, 2, .q (xi (zKp s1_11 s6_15))), (28, 14, 4, .q (xb true)), (28, 15, 3, .ap (s6_20 ++ [s6_15]).length (rowO true 1 eI (s6_20 ++ [s6_15]) true))] [] g4 (ob (o_b h801) (ob (zRt (x := s1_11) h802) (ob (o_b h803) (ob (o_ap (b := true) (z := 1) (e := eI) (l := s6_20) (w := true) s6_15 (fun _ => rfl) h804) (ob (zif true 1 eI (s6_20 ++ [s6_15]) true) ob0))))) (by kernel_rfl)
   ·exact zqn ((w64 (s6_15 + 1)), s6_20) [7] [(28, 12, 0, .q (xb true)), (28, 14, 2, .q (xi (zKp s1_11 s6_15))), (28, 14, 4, .q (xb false))] [] g3 (ob (o_b h801) (ob (zRt (x := s1_11) h802) (ob (o_b h803) (ob (zif true 1 eI s6_20 true) ob0)))) (by kernel_rfl)
 ·exact zqo [(28, 12, 0, .q (xb false))] [] g1 (ob (o_b h801) ob0) (by kernel_rfl)
noncomputable def zDv (p0 : za) (v1 : Int) (s1_9 : (SL Int)) (s1_11 : Int) (v602 : (Int × (List Int))) (r : Bool) : TM := [(0, (.d (.agg (zd p0)))), (zsp 1), (2, (.d (.sl [] .nil))), (3, (xi 0)), (4, (xi v1)), (12, (xb false)), (15, (xb false)), (5, (.d (dl eI s1_9.1 s1_9.2))), (19, (xi (z6i 1 (p0.Letters.1.length : Int)))), (20, (xi s1_11)), (21, (xb true)), (6, (xi s1_11)), (7, (.row 0 7 v602.2.length)), (25, (xi (p0.Letters.1.length : Int))), (26, (xi v602.1)), (27, (xb false)), (59, (xb r))]
noncomputable def z1d (p0 : za) (v1 : Int) (s1_9 : (SL Int)) (s1_11 : Int) (v602 : (Int × (List Int))) (r : Bool) : St := ⟨(zDv p0 v1 s1_9 s1_11 v602 r), ⟨[(zc 1 (zd p0)), (7, (rowO true 1 eI v602.2 false))], []⟩, []⟩
noncomputable def zYt (p0 : za) (v1 : Int) (s1_9 : (SL Int)) (s1_11 : Int) (v602 : (Int × (List Int))) : TM := [(0, (.d (.agg (zd p0)))), (zsp 1), (2, (.d (.sl [] .nil))), (3, (xi 0)), (4, (xi v1)), (12, (xb false)), (15, (xb false)), (5, (.d (dl eI s1_9.1 s1_9.2))), (19, (xi (z6i 1 (p0.Letters.1.length : Int)))), (20, (xi s1_11)), (21, (xb true)), (6, (xi s1_11)), (7, (.row 0 7 v602.2.length)), (25, (xi (p0.Letters.1.length : Int))), (26, (xi v602.1)), (27, (xb false))]
theorem zKm (k : Nat) (p0 : za) (v1 : Int) (s1_9 : (SL Int)) (s1_11 : Int) (v602 : (Int × (List Int))) (r : Bool) (h : zNh k p0 v1 s1_9 s1_11 v602 = some r) : ev TE 28 (rgn TE 28 17) ⟨(zYt p0 v1 s1_9 s1_11 v602), ⟨[(zc 1 (zd p0)), (7, (rowO true 1 eI v602.2 true))], []⟩, []⟩ = some (.nor, z1d p0 v1 s1_9 s1_11 v602 r) := by
 unfold zNh at h
 refine zo h (fun h901 g1 => ?_) (fun h901 g1 => ?_)
 ·refine zl g1 (fun v902 h903 g2 => ?_)
  refine zl g2 (fun v904 h905 g3 => ?_)
  exact zu (g := fun r => (Ex.nor, z1d p0 v1 s1_9 s1_11 v602 r)) g3 (zqe [(28, 17, 2, .q (xb true)), (28, 17, 18, .cr [((dl eI v602.2 (rcap true v602.2)), (rowO true 1 eI v602.2 false))] (.agg (zd v902))), (28, 17, 19, .c (db v904))] [] (ob (o_b h901) (ob (o_cr true 1 eI v602.2 true 0 7) (ob (zNi k p0 (v602.2, (rcap true v602.2)) _ h903) (ob (zyg k v902 _ h905) ob0)))) (by kernel_rfl))
 ·refine zl g1 (fun v902 h903 g2 => ?_)
  refine zl g2 (fun v904 h905 g3 => ?_)
  refine zl g3 (fun v906 h907 g4 => ?_)
  refine zo g4 (fun h908 g5 => ?_) (fun h908 g5 => ?_)
  ·refine zl g5 (fun v909 h910 g6 => ?_)
   refine zl g6 (fun v911 h912 g7 => ?_)
   exact zu (g := fun r => (Ex.nor, z1d p0 v1 s1_9 s1_11 v602 r)) g7 (zqe [(28, 17, 2, .q (xb false)), (28, 17, 4, .q (xi (v602.2.length : Int))), (28, 17, 6, .q (xi (s1_9.1.length : Int))), (28, 17, 7, .c (di v902)), (28, 17, 10, .cr [((dl eI v602.2 (rcap true v602.2)), (rowO true 1 eI v602.2 false))] (di v904)), (28, 17, 12, .c (di v906)), (28, 17, 15, .q (xb true)), (28, 17, 18, .cr [((dl eI v602.2 (rcap true v602.2)), (rowO true 1 eI v602.2 false))] (.agg (zd v909))), (28, 17, 19, .c (db v911))] [] (ob (o_b h901) (ob (zck true 1 eI v602.2 true) (ob (zq eI s1_9.1) (ob (zgf k (v602.2.length : Int) (s1_9.1.length : Int) _ h903) (ob (o_cr true 1 eI v602.2 true 0 7) (ob (zIg k (v602.2, (rcap true v602.2)) s1_9 _ h905) (ob (zAm k ([v902, v904], .ex) _ h907) (ob (o_b h908) (ob (o_cr true 1 eI v602.2 false 0 7) (ob (zNi k p0 (v602.2, (rcap true v602.2)) _ h910) (ob (zyg k v909 _ h912) ob0))))))))))) (by kernel_rfl))
  ·exact zu (g := fun r => (Ex.nor, z1d p0 v1 s1_9 s1_11 v602 r)) g5 (zqe [(28, 17, 2, .q (xb false)), (28, 17, 4, .q (xi (v602.2.length : Int))), (28, 17, 6, .q (xi (s1_9.1.length : Int))), (28, 17, 7, .c (di v902)), (28, 17, 10, .cr [((dl eI v602.2 (rcap true v602.2)), (rowO true 1 eI v602.2 false))] (di v904)), (28, 17, 12, .c (di v906)), (28, 17, 15, .q (xb false))] [] (ob (o_b h901) (ob (zck true 1 eI v602.2 true) (ob (zq eI s1_9.1) (ob (zgf k (v602.2.length : Int) (s1_9.1.length : Int) _ h903) (ob (o_cr true 1 eI v602.2 true 0 7) (ob (zIg k (v602.2, (rcap true v602.2)) s1_9 _ h905) (ob (zAm k ([v902, v904], .ex) _ h907) (ob (o_b h908) ob0)))))))) (by kernel_rfl))
noncomputable def zaw (p0 : za) (v1 : Int) (r : ((SL Int) × Bool)) (s1_11 : Int) (v602 : (Int × (List Int))) : TM := [(0, (.d (.agg (zd p0)))), (zsp 1), (2, (.d (.sl [] .nil))), (3, (xi 0)), (4, (xi v1)), (12, (xb false)), (15, (xb false)), (5, (.d (dl eI r.1.1 r.1.2))), (19, (xi (z6i 1 (p0.Letters.1.length : Int)))), (20, (xi s1_11)), (21, (xb true)), (6, (xi s1_11)), (7, (.row 0 7 v602.2.length)), (25, (xi (p0.Letters.1.length : Int))), (26, (xi v602.1)), (27, (xb false)), (59, (xb r.2))]
noncomputable def z9e (p0 : za) (v1 : Int) (s1_9 : (SL Int)) (s1_11 : Int) (v602 : (Int × (List Int))) (v604 : Bool) (r : ((SL Int) × Bool)) : St := ⟨(zaw p0 v1 r s1_11 v602), ⟨[(zc 1 (zd p0)), (7, (rowO true 1 eI v602.2 false))], []⟩, []⟩
theorem zHm (k : Nat) (p0 : za) (v1 : Int) (s1_9 : (SL Int)) (s1_11 : Int) (v602 : (Int × (List Int))) (v604 : Bool) (r : ((SL Int) × Bool)) (h : zPh k p0 v1 s1_9 s1_11 v602 v604 = some r) : ev TE 28 (cnd TE 28 59) ⟨(zYt p0 v1 s1_9 s1_11 v602 ++ [(59, (xb v604))]), ⟨[(zc 1 (zd p0)), (7, (rowO true 1 eI v602.2 false))], []⟩, []⟩ = some (.nor, z9e p0 v1 s1_9 s1_11 v602 v604 r) := by
 unfold zPh at h
 refine zo h (fun h1001 g1 => ?_) (fun h1001 g1 => ?_)
 ·subst h1001
  exact zu (g := fun r => (Ex.nor, z9e p0 v1 s1_9 s1_11 v602 true r)) g1 (zqe [(28, 18, 1, .fz (dl eI v602.2 (rcap true v602.2)) (rowO true 1 eI v602.2 false))] [] (ob (o_cr true 1 eI v602.2 false 0 7) ob0) (by kernel_rfl))
 ·subst h1001
  exact zu (g := fun r => (Ex.nor, z9e p0 v1 s1_9 s1_11 v602 false r)) g1 (zqe [] [] ob0 (by kernel_rfl))
noncomputable def z3u (p0 : za) (v1 : Int) (s1_9 : (SL Int)) (s1_11 : Int) : TM := [(0, (.d (.agg (zd p0)))), (zsp 1), (2, (.d (.sl [] .nil))), (3, (xi 0)), (4, (xi v1)), (12, (xb false)), (15, (xb false)), (5, (.d (dl eI s1_9.1 s1_9.2))), (19, (xi (z6i 1 (p0.Letters.1.length : Int)))), (20, (xi s1_11))]
noncomputable def zen (p0 : za) (v1 : Int) (s1_9 : (SL Int)) (s1_11 : Int) : St := ⟨(z3u p0 v1 s1_9 s1_11), ⟨[(zc 1 (zd p0))], []⟩, []⟩
noncomputable def zJv (p0 : za) (v1 : Int) (r : ((SL Int) × Int)) : TM := [(0, (.d (.agg (zd p0)))), (zsp 1), (2, (.d (.sl [] .nil))), (3, (xi 0)), (4, (xi v1)), (12, (xb false)), (15, (xb false)), (5, (.d (dl eI r.1.1 r.1.2))), (19, (xi (z6i 1 (p0.Letters.1.length : Int)))), (20, (xi r.2)), (21, (xb false))]
noncomputable def zug (p0 : za) (v1 : Int) (r : ((SL Int) × Int)) : St := ⟨(zJv p0 v1 r), ⟨[(zc 1 (zd p0))], []⟩, []⟩
noncomputable def z0m (p0 : za) (v1 : Int) : ((SL Int) × Int) → Ex × St := fun r => ((.exit 0), zug p0 v1 r)
theorem zSm (k : Nat) (p0 : za) (v1 : Int) (s1_9 : (SL Int)) (s1_11 : Int) (x : ((SL Int) × Int) ⊕ ((SL Int) × Int)) (h : zIh k p0 v1 s1_9 s1_11 = some x) : zN TE 28 (blk TE 28 0) (fun s : ((SL Int) × Int) => zen p0 v1 s.1 s.2) (z0m p0 v1) (s1_9, s1_11) x := by
 unfold zIh at h
 refine zo h (fun h601 g1 => ?_) (fun h601 g1 => ?_)
 ·refine zl g1 (fun v602 h603 g2 => ?_)
  refine zl g2 (fun v604 h605 g3 => ?_)
  refine zl g3 (fun v606 h607 g4 => ?_)
  exact zqn (v606.1, (w64 (s1_11 + 1))) [] [(28, 8, 0, .q (xb true)), (28, 11, 2, .q (xi (p0.Letters.1.length : Int)))] [(28, 2, (.nor, ztg p0 v1 s1_9 s1_11 v602)), (28, 1000017, (.nor, z1d p0 v1 s1_9 s1_11 v602 v604)), (28, 2000059, (.nor, z9e p0 v1 s1_9 s1_11 v602 v604 v606))] g4 (ob (o_b h601) (ob (zq zb p0.Letters.1) (ob (zz (id := 2) (r' := (.nor, ztg p0 v1 s1_9 s1_11 v602)) (zkc (zVm k p0 v1 s1_9 s1_11) k _ _ h603) rfl) (ob (zKm k p0 v1 s1_9 s1_11 v602 _ h605) (ob (zHm k p0 v1 s1_9 s1_11 v602 v604 _ h607) ob0))))) (by kernel_rfl)
 ·exact zqo [(28, 8, 0, .q (xb false))] [] g1 (ob (o_b h601) ob0) (by kernel_rfl)
theorem zrb (k : Nat) (p0 : za) (r : ((SL Int) × Int)) (h : zsj k p0 = some r) : zC TE (ev TE) 28 [(.agg (zd p0))] = some (zHg r) := by
 unfold zsj at h
 refine zl h (fun v1 h2 g1 => ?_)
 refine zo g1 (fun h3 g2 => ?_) (fun h3 g2 => ?_)
 ·exact zt (g := zHg) g2 (zqc [(28, 1, 1, .c (di v1)), (28, 2, 1, .q (xb true))] [] (ob (zD k p0 _ h2) (ob (o_b h3) ob0)) (by kernel_rfl))
 ·refine zl g2 (fun v4 h5 g3 => ?_)
  refine zo g3 (fun h6 g4 => ?_) (fun h6 g4 => ?_)
  ·subst h6
   exact zt (g := zHg) g4 (zqc [(28, 1, 1, .c (di v1)), (28, 2, 1, .q (xb false)), (28, 4, 1, .c (db true))] [] (ob (zD k p0 _ h2) (ob (o_b h3) (ob (zyg k p0 _ h5) ob0))) (by kernel_rfl))
  ·subst h6
   refine zo g4 (fun h7 g5 => ?_) (fun h7 g5 => ?_)
   ·cases g5
   ·refine zl g5 (fun v8 h9 g6 => ?_)
    exact zt (g := zHg) g6 (zqc [(28, 1, 1, .c (di v1)), (28, 2, 1, .q (xb false)), (28, 4, 1, .c (db false)), (28, 7, 2, .q (xi (p0.Letters.1.length : Int))), (28, 7, 3, .q (xi (z6i 1 (p0.Letters.1.length : Int)))), (28, 20, 2, .q (xi (v8.1.1.length : Int))), (28, 20, 4, .q (xi (v8.1.1.length : Int))), (28, 20, 5, .q (.d (dl eI v8.1.1 (ccap v8.1.2))))] [(28, 0, (.nor, zug p0 v1 v8))] (ob (zD k p0 _ h2) (ob (o_b h3) (ob (zyg k p0 _ h5) (ob (zq zb p0.Letters.1) (ob (z6u (x := 1) h7) (ob (zz (id := 0) (r' := (.nor, zug p0 v1 v8)) (zkc (zSm k p0 v1) k _ _ h9) rfl) (ob (zq eI v8.1.1) (ob (zq eI v8.1.1) (ob (zWl (e := eI) (z := 1) v8.1.1 v8.1.2) ob0))))))))) (by kernel_rfl))
noncomputable def zqv (p0 p1 : (SL (SL Int))) (s1_3 : Bool) (s1_4 : Int) (r : Bool) : TM := [(0, (.d (dl (eL eI) p0.1 p0.2))), (1, (.d (dl (eL eI) p1.1 p1.2))), (4, (xb false)), (5, (xb s1_3)), (6, (xi s1_4)), (18, (xb r))]
noncomputable def zUb (p0 p1 : (SL (SL Int))) (s1_3 : Bool) (s1_4 : Int) (r : Bool) : St := ⟨(zqv p0 p1 s1_3 s1_4 r), ⟨[], []⟩, []⟩
noncomputable def z1t (p0 p1 : (SL (SL Int))) (s1_3 : Bool) (s1_4 : Int) : TM := [(0, (.d (dl (eL eI) p0.1 p0.2))), (1, (.d (dl (eL eI) p1.1 p1.2))), (4, (xb false)), (5, (xb s1_3)), (6, (xi s1_4))]
theorem zyf (k : Nat) (p0 p1 : (SL (SL Int))) (s1_3 : Bool) (s1_4 : Int) (r : Bool) (h : zbe k p0 p1 s1_3 s1_4 = some r) : ev TE 34 (rgn TE 34 3) ⟨(z1t p0 p1 s1_3 s1_4), ⟨[], []⟩, []⟩ = some (.nor, zUb p0 p1 s1_3 s1_4 r) := by
 unfold zbe at h
 refine zo h (fun h401 g1 => ?_) (fun h401 g1 => ?_)
 ·exact zu (g := fun r => (Ex.nor, zUb p0 p1 s1_3 s1_4 r)) g1 (zqe [(34, 3, 1, .q (xb true)), (34, 3, 4, .q (xi (p0.1.length : Int)))] [] (ob (o_b h401) (ob (zq (eL eI) p0.1) ob0)) (by kernel_rfl))
 ·exact zu (g := fun r => (Ex.nor, zUb p0 p1 s1_3 s1_4 r)) g1 (zqe [(34, 3, 1, .q (xb false))] [] (ob (o_b h401) ob0) (by kernel_rfl))
noncomputable def z0i (p0 p1 : (SL (SL Int))) (s1_3 : Bool) (s1_4 : Int) : St := ⟨(z1t p0 p1 s1_3 s1_4), ⟨[], []⟩, []⟩
noncomputable def zxv (p0 p1 : (SL (SL Int))) (r : zt2) : TM := [(0, (.d (dl (eL eI) p0.1 p0.2))), (1, (.d (dl (eL eI) p1.1 p1.2))), (4, (xb false)), (5, (xb r.1)), (6, (xi r.2)), (18, (xb false))]
noncomputable def zqd (p0 p1 : (SL (SL Int))) (r : zt2) : St := ⟨(zxv p0 p1 r), ⟨[], []⟩, []⟩
noncomputable def zQi (p0 p1 : (SL (SL Int))) : (Bool × Int) → Ex × St := fun r => ((.exit 0), zqd p0 p1 r)
theorem zHi (k : Nat) (p0 p1 : (SL (SL Int))) (s1_3 : Bool) (s1_4 : Int) (x : (Bool × Int) ⊕ (Bool × Int)) (h : zde k p0 p1 s1_3 s1_4 = some x) : zN TE 34 (blk TE 34 0) (fun s : (Bool × Int) => z0i p0 p1 s.1 s.2) (zQi p0 p1) (s1_3, s1_4) x := by
 unfold zde at h
 refine zl h (fun v301 h302 g1 => ?_)
 refine zo g1 (fun h303 g2 => ?_) (fun h303 g2 => ?_)
 ·subst h303
  refine zl g2 (fun v304 h305 g3 => ?_)
  refine zl g3 (fun v306 h307 g4 => ?_)
  refine zl g4 (fun v308 h309 g5 => ?_)
  exact zqn (v308, (w64 (s1_4 + 1))) [] [(34, 5, 2, .q (.d (.pin [(dl eI v304.1 v304.2)]))), (34, 5, 6, .q (.d (.pin [(dl eI v306.1 v306.2)]))), (34, 5, 8, .c (db v308))] [(34, 1000003, (.nor, zUb p0 p1 s1_3 s1_4 true))] g5 (ob (zyf k p0 p1 s1_3 s1_4 _ h302) (ob (o_ia (e := (eL eI)) 1 h305 rfl) (ob (o_ia (e := (eL eI)) 1 h307 rfl) (ob (zrf k v304 v306 _ h309) ob0)))) (by kernel_rfl)
 ·subst h303
  exact zqo [] [(34, 1000003, (.nor, zUb p0 p1 s1_3 s1_4 false))] g2 (ob (zyf k p0 p1 s1_3 s1_4 _ h302) ob0) (by kernel_rfl)
theorem zXc (k : Nat) (p0 p1 : (SL (SL Int))) (r : Bool) (h : z3e k p0 p1 = some r) : zC TE (ev TE) 34 [(dl (eL eI) p0.1 p0.2), (dl (eL eI) p1.1 p1.2)] = some (zxg r) := by
 unfold z3e at h
 refine zl h (fun v1 h2 g1 => ?_)
 exact zt (g := zxg) g1 (zqc [(34, 1, 1, .q (xi (p0.1.length : Int))), (34, 1, 3, .q (xi (p1.1.length : Int)))] [(34, 0, (.nor, zqd p0 p1 v1))] (ob (zq (eL eI) p0.1) (ob (zq (eL eI) p1.1) (ob (zz (id := 0) (r' := (.nor, zqd p0 p1 v1)) (zkc (zHi k p0 p1) k _ _ h2) rfl) ob0))) (by kernel_rfl))
noncomputable def znv (v3 v7 : zt2) (v11 : zt1) (v15 : ((SL Int) × Int)) (r : Bool) : TM := [(0, (xb false)), (1, (xb v3.1)), (2, (xi v3.2)), (3, (xb v7.1)), (4, (xi v7.2)), (5, (xi v11.1)), (6, (xi v11.2)), (7, (.d (dl eI v15.1.1 v15.1.2))), (8, (xi v15.2)), (69, (xb r))]
noncomputable def zB (v3 v7 : zt2) (v11 : zt1) (v15 : ((SL Int) × Int)) (r : Bool) : St := ⟨(znv v3 v7 v11 v15 r), ⟨[], []⟩, []⟩
noncomputable def zev (v3 v7 : zt2) (v11 : zt1) (v15 : ((SL Int) × Int)) : TM := [(0, (xb false)), (1, (xb v3.1)), (2, (xi v3.2)), (3, (xb v7.1)), (4, (xi v7.2)), (5, (xi v11.1)), (6, (xi v11.2)), (7, (.d (dl eI v15.1.1 v15.1.2))), (8, (xi v15.2))]
end Go.AM

