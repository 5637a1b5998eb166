/- The statement NamesakeMore holds for every input that its row lets in. Conditions: none. -/
import Derived.Test.YtbigoihkijjeiaaDoorC
set_option linter.all false
set_option linter.unusedVariables false
set_option maxRecDepth 100000
namespace Go.AM
open Go Go.Proofs
def zsp (n : Nat) : Nat × X := (n, .ptr 0 n 0)
def zc (n : Nat) (l : List D) : Nat × O := (n, .cells (l.map .d))
section
variable {E : Env} {fid : Nat} {c : Code}
theorem zqn {S R : Type} {S0 : S → St} {R0 : R → Ex × St} {s : S} {x : S ⊕ R} (s' : S) (rs : List Nat) (V : Ovs) (C : Cuts) (h : some (Sum.inl s') = some x) {P : List Prop} (hP : All P) (hr : zJi E V C rs 80 fid c (S0 s) = some (.inl (S0 s'), P)) : zL E fid c S0 R0 s x := zVt h hP hr
theorem zqo {S R : Type} {S0 : S → St} {R0 : R → Ex × St} {s : S} {r : R} {x : S ⊕ R} (V : Ovs) (C : Cuts) (h : some (Sum.inr r) = some x) {P : List Prop} (hP : All P) (hr : zJi E V C [] 80 fid c (S0 s) = some (.inr (R0 r), P)) : zL E fid c S0 R0 s x := znu h hP hr
theorem zYd {A0 R : Type} {S0 : A0 → St} {R0 : R → Ex × St} {W : A0 → Option ((A0) ⊕ R)} (h : ∀ b0 x, W b0 = some x → zL E fid c S0 R0 b0 x) : ∀ (m : Nat) (s : A0) (r : R), iter (fun s => W s) m s = some r → ev E fid c (S0 s) = some (R0 r) := zFi fun s x e => h s x e
theorem zHc {A0 A1 R : Type} {S0 : A0 × A1 → St} {R0 : R → Ex × St} {W : A0 → A1 → Option ((A0 × A1) ⊕ R)} (h : ∀ b0 b1 x, W b0 b1 = some x → zL E fid c S0 R0 (b0, b1) x) : ∀ (m : Nat) (s : A0 × A1) (r : R), iter (fun s => W s.1 s.2) m s = some r → ev E fid c (S0 s) = some (R0 r) := zFi fun s x e => h s.1 s.2 x e
theorem zGm {A0 A1 A2 R : Type} {S0 : A0 × A1 × A2 → St} {R0 : R → Ex × St} {W : A0 → A1 → A2 → Option ((A0 × A1 × A2) ⊕ R)} (h : ∀ b0 b1 b2 x, W b0 b1 b2 = some x → zL E fid c S0 R0 (b0, b1, b2) x) : ∀ (m : Nat) (s : A0 × A1 × A2) (r : R), iter (fun s => W s.1 s.2.1 s.2.2) m s = some r → ev E fid c (S0 s) = some (R0 r) := zFi fun s x e => h s.1 s.2.1 s.2.2 x e
theorem zpu {A0 A1 A2 A3 R : Type} {S0 : A0 × A1 × A2 × A3 → St} {R0 : R → Ex × St} {W : A0 → A1 → A2 → A3 → Option ((A0 × A1 × A2 × A3) ⊕ R)} (h : ∀ b0 b1 b2 b3 x, W b0 b1 b2 b3 = some x → zL E fid c S0 R0 (b0, b1, b2, b3) x) : ∀ (m : Nat) (s : A0 × A1 × A2 × A3) (r : R), iter (fun s => W s.1 s.2.1 s.2.2.1 s.2.2.2) m s = some r → ev E fid c (S0 s) = some (R0 r) := zFi fun s x e => h s.1 s.2.1 s.2.2.1 s.2.2.2 x e
theorem z6w {A0 A1 A2 A3 A4 R : Type} {S0 : A0 × A1 × A2 × A3 × A4 → St} {R0 : R → Ex × St} {W : A0 → A1 → A2 → A3 → A4 → Option ((A0 × A1 × A2 × A3 × A4) ⊕ R)} (h : ∀ b0 b1 b2 b3 b4 x, W b0 b1 b2 b3 b4 = some x → zL E fid c S0 R0 (b0, b1, b2, b3, b4) x) : ∀ (m : Nat) (s : A0 × A1 × A2 × A3 × A4) (r : R), iter (fun s => W s.1 s.2.1 s.2.2.1 s.2.2.2.1 s.2.2.2.2) m s = some r → ev E fid c (S0 s) = some (R0 r) := zFi fun s x e => h s.1 s.2.1 s.2.2.1 s.2.2.2.1 s.2.2.2.2 x e
theorem z7w {A0 A1 A2 A3 A4 A5 R : Type} {S0 : A0 × A1 × A2 × A3 × A4 × A5 → St} {R0 : R → Ex × St} {W : A0 → A1 → A2 → A3 → A4 → A5 → Option ((A0 × A1 × A2 × A3 × A4 × A5) ⊕ R)} (h : ∀ b0 b1 b2 b3 b4 b5 x, W b0 b1 b2 b3 b4 b5 = some x → zL E fid c S0 R0 (b0, b1, b2, b3, b4, b5) x) : ∀ (m : Nat) (s : A0 × A1 × A2 × A3 × A4 × A5) (r : R), iter (fun s => W s.1 s.2.1 s.2.2.1 s.2.2.2.1 s.2.2.2.2.1 s.2.2.2.2.2) m s = some r → ev E fid c (S0 s) = some (R0 r) := zFi fun s x e => h s.1 s.2.1 s.2.2.1 s.2.2.2.1 s.2.2.2.2.1 s.2.2.2.2.2 x e
theorem zqe {st : St} {r : Ex × St} {P : List Prop} (V : Ovs) (C : Cuts) (hP : All P) (h : evV E V C 80 fid c st = some (r, P)) : ev E fid c st = some r := zDu hP h
theorem zqc {f : Nat} {ds : List D} {d : D} {P : List Prop} (V : Ovs) (C : Cuts) (hP : All P) (h : zzp E V C 80 f ds = some (d, P)) : zB E (ev E) f ds = some d := zrt hP h
theorem zqr {f : Nat} {ds : List D} {d : D} {P : List Prop} (V : Ovs) (C : Cuts) (res : List D) (hP : All P) (h : zwo E V C 80 f ds res = some (d, P)) : zB E (ev E) f ds = some d := zds hP h
end
section
variable {α : Type}
theorem zqa (T : TypeId) (bt lv s : Nat) (n : Int) (b : Bool) (z : Nat) (e : α → List D) (l : List α) (w : Bool) {y : α} (ha : arT TE.P T = none) (hs : slT TE.P T = some (z, bt)) (h : idx l n = some y) : iaX TE.P (fun _ _ => some (rowO b z e l w)) T (.row lv s l.length) (xi n) = some (.rp lv s l.length n.toNat 0) := zRu ha hs h
theorem zql (T : TypeId) (q : Nat × Bool) (lv s o : Nat) (n : Int) (x : X) (b : Bool) (z : Nat) (e : α → List D) (l : List α) (w : Bool) {y : α} (ht : tyT TE.P T = some q) (h : idx l n = some y) (hx : (zih q.2 q.1 ((e y).drop o)).map X.d = some x) : ldX TE.P (fun _ _ => some (rowO b z e l w)) T (.rp lv s l.length n.toNat o) = some x := zBv ht h hx
theorem zqf (T : TypeId) (q : Nat × Nat × Bool) (lv s o f : Nat) (n : Int) (b : Bool) (z : Nat) (e : α → List D) (l : List α) (w : Bool) {y : α} (hf : fdT TE.P T f = some q) (hq : q.2.1 ≠ 0) (h : idx l n = some y) : faX TE.P (fun _ _ => some (rowO b z e l w)) T (.rp lv s l.length n.toNat o) f = some (.rp lv s l.length n.toNat (o + q.1)) := zJv hf hq h
end
theorem zu (k : Nat) (p0 p1 p2 : Int) (r : Bool) (h : zN k p0 p1 p2 = some r) : zB TE (ev TE) 51 [(di p0), (di p1), (di p2)] = some (z8g r) := by
 unfold zN at h
 refine zo h (fun h1 g1 => ?_) (fun h1 g1 => ?_)
 ·exact zr (g := z8g) g1 (zqc [(51, 1, 3, .q (xb true))] [] (ob (o_b h1) ob0) (by kernel_rfl))
 ·exact zr (g := z8g) g1 (zqc [(51, 1, 3, .q (xb false))] [] (ob (o_b h1) ob0) (by kernel_rfl))
noncomputable def zk1 (p0 : (SL (Nat → Int))) (p1 : zt6) (s1_4 : Int) : TM := [(0, (.d (dl (aI 2) p0.1 p0.2))), (1, (.d (.agg (aI 2 p1)))), (zsp 3), (4, (xi 0)), (7, (xi (p0.1.length : Int))), (8, (xi s1_4))]
noncomputable def zoi (p0 : (SL (Nat → Int))) (p1 : zt6) (s1_4 : Int) : St := ⟨(zk1 p0 p1 s1_4), ⟨[(zc 3 (aI 2 p1))], []⟩, []⟩
noncomputable def zk2 (p0 : (SL (Nat → Int))) (p1 : zt6) (r : Int) : TM := [(0, (.d (dl (aI 2) p0.1 p0.2))), (1, (.d (.agg (aI 2 p1)))), (zsp 3), (4, (xi r)), (7, (xi (p0.1.length : Int))), (8, (xi r)), (9, (xb true)), (5, (xi r)), (16, (xb true))]
noncomputable def zZc (p0 : (SL (Nat → Int))) (p1 : zt6) (r : Int) : St := ⟨(zk2 p0 p1 r), ⟨[(zc 3 (aI 2 p1))], []⟩, []⟩
noncomputable def zk3 (p0 : (SL (Nat → Int))) (p1 : zt6) (r : Int) : TM := [(0, (.d (dl (aI 2) p0.1 p0.2))), (1, (.d (.agg (aI 2 p1)))), (zsp 3), (4, (xi 0)), (7, (xi (p0.1.length : Int))), (8, (xi r)), (9, (xb false))]
noncomputable def z1c (p0 : (SL (Nat → Int))) (p1 : zt6) (r : Int) : St := ⟨(zk3 p0 p1 r), ⟨[(zc 3 (aI 2 p1))], []⟩, []⟩
noncomputable def zni (p0 : (SL (Nat → Int))) (p1 : zt6) : (Int ⊕ Int) → Ex × St := Sum.elim (fun r => (.ret, zZc p0 p1 r)) (fun r => ((.exit 0), z1c p0 p1 r))
theorem z1e (k : Nat) (p0 : (SL (Nat → Int))) (p1 : zt6) (s1_4 : Int) (x : Int ⊕ (Int ⊕ Int)) (h : zIb k p0 p1 s1_4 = some x) : zL TE 84 (blk TE 84 0) (fun s : Int => zoi p0 p1 s) (zni p0 p1) s1_4 x := by
 unfold zIb at h
 refine zo h (fun h201 g1 => ?_) (fun h201 g1 => ?_)
 ·refine zk g1 (fun v202 h203 g2 => ?_)
  refine zo g2 (fun h204 g3 => ?_) (fun h204 g3 => ?_)
  ·exact zqo [(84, 2, 0, .q (xb true)), (84, 4, 3, .q (.d (.pin (aI 2 v202)))), (84, 4, 5, .q (xb true))] [] g3 (ob (o_b h201) (ob (o_ia (e := (aI 2)) 2 h203 rfl) (ob (o_b h204) ob0))) (by kernel_rfl)
  ·exact zqn (w64 (s1_4 + 1)) [] [(84, 2, 0, .q (xb true)), (84, 4, 3, .q (.d (.pin (aI 2 v202)))), (84, 4, 5, .q (xb false))] [] g3 (ob (o_b h201) (ob (o_ia (e := (aI 2)) 2 h203 rfl) (ob (o_b h204) ob0))) (by kernel_rfl)
 ·exact zqo [(84, 2, 0, .q (xb false))] [] g1 (ob (o_b h201) ob0) (by kernel_rfl)
theorem zSi (k : Nat) (p0 : (SL (Nat → Int))) (p1 : zt6) (r : Int) (h : z6c k p0 p1 = some r) : zB TE (ev TE) 84 [(dl (aI 2) p0.1 p0.2), (.agg (aI 2 p1))] = some (z3d r) := by
 unfold z6c at h
 refine zk h (fun v1 h2 g1 => ?_)
 refine zqd g1 (fun v4 hh g2_0 => ?_) (fun v4 hh g2_0 => ?_)
 ·subst hh
  exact zr (g := z3d) g2_0 (zqc [(84, 1, 1, .q (xi (p0.1.length : Int)))] [(84, 0, (.ret, zZc p0 p1 v4))] (ob (zq (aI 2) p0.1) (ob (zC (id := 0) (r' := (.ret, zZc p0 p1 v4)) (zYd (z1e k p0 p1) k _ _ h2) rfl) ob0)) (by kernel_rfl))
 ·subst hh
  exact zr (g := z3d) g2_0 (zqc [(84, 1, 1, .q (xi (p0.1.length : Int)))] [(84, 0, (.nor, z1c p0 p1 v4))] (ob (zq (aI 2) p0.1) (ob (zC (id := 0) (r' := (.nor, z1c p0 p1 v4)) (zYd (z1e k p0 p1) k _ _ h2) rfl) ob0)) (by kernel_rfl))
theorem zWh (k : Nat) (p0 : (SL (Nat → Int))) (p1 : zt6) (r : Bool) (h : zJb k p0 p1 = some r) : zB TE (ev TE) 55 [(dl (aI 2) p0.1 p0.2), (.agg (aI 2 p1))] = some (zgf r) := by
 unfold zJb at h
 refine zk h (fun v1 h2 g1 => ?_)
 exact zr (g := zgf) g1 (zqc [(55, 1, 2, .c (di v1))] [] (ob (zSi k p0 p1 _ h2) ob0) (by kernel_rfl))
noncomputable def zk4 (p0 : zb) (r : Bool) : TM := [(0, (.d (.agg (zd p0)))), (zsp 1), (2, (xi 0)), (3, (xi (p0.Letters.1.length : Int))), (4, (xi (p0.Far.1.length : Int))), (5, (xb r))]
noncomputable def z2b (p0 : zb) (r : Bool) : St := ⟨(zk4 p0 r), ⟨[(zc 1 (zd p0))], []⟩, []⟩
noncomputable def zk5 (p0 : zb) : TM := [(0, (.d (.agg (zd p0)))), (zsp 1), (2, (xi 0)), (3, (xi (p0.Letters.1.length : Int))), (4, (xi (p0.Far.1.length : Int)))]
theorem zei (k : Nat) (p0 : zb) (r : Bool) (h : zbe k p0 = some r) : ev TE 16 (rgn TE 16 2) ⟨(zk5 p0), ⟨[(zc 1 (zd p0))], []⟩, []⟩ = some (.nor, z2b p0 r) := by
 unfold zbe at h
 refine zk h (fun v201 h202 g1 => ?_)
 refine zo g1 (fun h203 g2 => ?_) (fun h203 g2 => ?_)
 ·refine zk g2 (fun v204 h205 g3 => ?_)
  refine zo g3 (fun h206 g4 => ?_) (fun h206 g4 => ?_)
  ·refine zo g4 (fun h207 g5 => ?_) (fun h207 g5 => ?_)
   ·refine zk g5 (fun v208 h209 g6 => ?_)
    exact zw (g := fun r => (Ex.nor, z2b p0 r)) g6 (zqe [(16, 2, 1, .c (db v201)), (16, 2, 2, .q (xb true)), (16, 2, 4, .c (db v204)), (16, 2, 6, .q (xb true)), (16, 2, 9, .q (xi (p0.Apart.1.length : Int))), (16, 2, 12, .q (xb true)), (16, 2, 15, .c (db v208))] [] (ob (zu k (p0.Letters.1.length : Int) 1 8 _ h202) (ob (o_b h203) (ob (zu k (p0.Far.1.length : Int) 1 6 _ h205) (ob (o_b h206) (ob (zq (aI 2) p0.Apart.1) (ob (o_b h207) (ob (zu k p0.Most 1 8 _ h209) ob0))))))) (by kernel_rfl))
   ·exact zw (g := fun r => (Ex.nor, z2b p0 r)) g5 (zqe [(16, 2, 1, .c (db v201)), (16, 2, 2, .q (xb true)), (16, 2, 4, .c (db v204)), (16, 2, 6, .q (xb true)), (16, 2, 9, .q (xi (p0.Apart.1.length : Int))), (16, 2, 12, .q (xb false))] [] (ob (zu k (p0.Letters.1.length : Int) 1 8 _ h202) (ob (o_b h203) (ob (zu k (p0.Far.1.length : Int) 1 6 _ h205) (ob (o_b h206) (ob (zq (aI 2) p0.Apart.1) (ob (o_b h207) ob0)))))) (by kernel_rfl))
  ·exact zw (g := fun r => (Ex.nor, z2b p0 r)) g4 (zqe [(16, 2, 1, .c (db v201)), (16, 2, 2, .q (xb true)), (16, 2, 4, .c (db v204)), (16, 2, 6, .q (xb false))] [] (ob (zu k (p0.Letters.1.length : Int) 1 8 _ h202) (ob (o_b h203) (ob (zu k (p0.Far.1.length : Int) 1 6 _ h205) (ob (o_b h206) ob0)))) (by kernel_rfl))
 ·exact zw (g := fun r => (Ex.nor, z2b p0 r)) g2 (zqe [(16, 2, 1, .c (db v201)), (16, 2, 2, .q (xb false))] [] (ob (zu k (p0.Letters.1.length : Int) 1 8 _ h202) (ob (o_b h203) ob0)) (by kernel_rfl))
noncomputable def zk6 (p0 : zb) (r : Bool) (s2_8 s2_11 : Int) : TM := zk4 p0 r ++ [(6, (xi s2_8)), (39, (.d (dl za p0.Letters.1 p0.Letters.2))), (40, (xi (p0.Letters.1.length : Int))), (41, (xi s2_11)), (42, (xb true)), (zsp 8)]
noncomputable def zAb (p0 : zb) (s2_7 : Bool) (s2_8 s2_11 : Int) (v402 : zm) (r : Bool) : St := ⟨(zk6 p0 r s2_8 s2_11), ⟨[(zc 1 (zd p0)), (zc 8 (za v402))], []⟩, []⟩
noncomputable def zk7 (p0 : zb) (s2_7 : Bool) (s2_8 s2_11 : Int) : TM := zk5 p0 ++ [(5, (xb s2_7)), (6, (xi s2_8)), (39, (.d (dl za p0.Letters.1 p0.Letters.2))), (40, (xi (p0.Letters.1.length : Int))), (41, (xi s2_11)), (42, (xb true)), (zsp 8)]
theorem zbm (k : Nat) (p0 : zb) (s2_7 : Bool) (s2_8 s2_11 : Int) (v402 : zm) (r : Bool) (h : zjf k p0 s2_7 s2_8 s2_11 v402 = some r) : ev TE 16 (rgn TE 16 7) ⟨(zk7 p0 s2_7 s2_8 s2_11), ⟨[(zc 1 (zd p0)), (zc 8 (za v402))], []⟩, []⟩ = some (.nor, zAb p0 s2_7 s2_8 s2_11 v402 r) := by
 unfold zjf at h
 refine zo h (fun h501 g1 => ?_) (fun h501 g1 => ?_)
 ·refine zk g1 (fun v502 h503 g2 => ?_)
  refine zo g2 (fun h504 g3 => ?_) (fun h504 g3 => ?_)
  ·refine zk g3 (fun v505 h506 g4 => ?_)
   refine zo g4 (fun h507 g5 => ?_) (fun h507 g5 => ?_)
   ·refine zk g5 (fun v508 h509 g6 => ?_)
    refine zo g6 (fun h510 g7 => ?_) (fun h510 g7 => ?_)
    ·refine zo g7 (fun h511 g8 => ?_) (fun h511 g8 => ?_)
     ·refine zk g8 (fun v512 h513 g9 => ?_)
      exact zw (g := fun r => (Ex.nor, zAb p0 s2_7 s2_8 s2_11 v402 r)) g9 (zqe [(16, 7, 1, .q (xb true)), (16, 7, 5, .c (db v502)), (16, 7, 7, .q (xb true)), (16, 7, 12, .c (db v505)), (16, 7, 14, .q (xb true)), (16, 7, 21, .c (db v508)), (16, 7, 23, .q (xb true)), (16, 7, 29, .q (xb true)), (16, 7, 32, .c (db v512))] [] (ob (o_b h501) (ob (zu k v402.Day s2_8 20000 _ h503) (ob (o_b h504) (ob (zu k v402.Place 0 (w64 ((p0.Far.1.length : Int) - 1)) _ h506) (ob (o_b h507) (ob (zu k v402.Born.Low 0 v402.Born.High _ h509) (ob (o_b h510) (ob (o_b h511) (ob (zu k v402.Account 0 1000 _ h513) ob0))))))))) (by kernel_rfl))
     ·exact zw (g := fun r => (Ex.nor, zAb p0 s2_7 s2_8 s2_11 v402 r)) g8 (zqe [(16, 7, 1, .q (xb true)), (16, 7, 5, .c (db v502)), (16, 7, 7, .q (xb true)), (16, 7, 12, .c (db v505)), (16, 7, 14, .q (xb true)), (16, 7, 21, .c (db v508)), (16, 7, 23, .q (xb true)), (16, 7, 29, .q (xb false))] [] (ob (o_b h501) (ob (zu k v402.Day s2_8 20000 _ h503) (ob (o_b h504) (ob (zu k v402.Place 0 (w64 ((p0.Far.1.length : Int) - 1)) _ h506) (ob (o_b h507) (ob (zu k v402.Born.Low 0 v402.Born.High _ h509) (ob (o_b h510) (ob (o_b h511) ob0)))))))) (by kernel_rfl))
    ·exact zw (g := fun r => (Ex.nor, zAb p0 s2_7 s2_8 s2_11 v402 r)) g7 (zqe [(16, 7, 1, .q (xb true)), (16, 7, 5, .c (db v502)), (16, 7, 7, .q (xb true)), (16, 7, 12, .c (db v505)), (16, 7, 14, .q (xb true)), (16, 7, 21, .c (db v508)), (16, 7, 23, .q (xb false))] [] (ob (o_b h501) (ob (zu k v402.Day s2_8 20000 _ h503) (ob (o_b h504) (ob (zu k v402.Place 0 (w64 ((p0.Far.1.length : Int) - 1)) _ h506) (ob (o_b h507) (ob (zu k v402.Born.Low 0 v402.Born.High _ h509) (ob (o_b h510) ob0))))))) (by kernel_rfl))
   ·exact zw (g := fun r => (Ex.nor, zAb p0 s2_7 s2_8 s2_11 v402 r)) g5 (zqe [(16, 7, 1, .q (xb true)), (16, 7, 5, .c (db v502)), (16, 7, 7, .q (xb true)), (16, 7, 12, .c (db v505)), (16, 7, 14, .q (xb false))] [] (ob (o_b h501) (ob (zu k v402.Day s2_8 20000 _ h503) (ob (o_b h504) (ob (zu k v402.Place 0 (w64 ((p0.Far.1.length : Int) - 1)) _ h506) (ob (o_b h507) ob0))))) (by kernel_rfl))
  ·exact zw (g := fun r => (Ex.nor, zAb p0 s2_7 s2_8 s2_11 v402 r)) g3 (zqe [(16, 7, 1, .q (xb true)), (16, 7, 5, .c (db v502)), (16, 7, 7, .q (xb false))] [] (ob (o_b h501) (ob (zu k v402.Day s2_8 20000 _ h503) (ob (o_b h504) ob0))) (by kernel_rfl))
 ·exact zw (g := fun r => (Ex.nor, zAb p0 s2_7 s2_8 s2_11 v402 r)) g1 (zqe [(16, 7, 1, .q (xb false))] [] (ob (o_b h501) ob0) (by kernel_rfl))
noncomputable def zk8 (p0 : zb) (s2_7 : Bool) (s2_8 s2_11 : Int) : TM := zk5 p0 ++ [(5, (xb s2_7)), (6, (xi s2_8)), (39, (.d (dl za p0.Letters.1 p0.Letters.2))), (40, (xi (p0.Letters.1.length : Int))), (41, (xi s2_11))]
noncomputable def zpm (p0 : zb) (s2_7 : Bool) (s2_8 s2_11 : Int) : St := ⟨(zk8 p0 s2_7 s2_8 s2_11), ⟨[(zc 1 (zd p0))], []⟩, []⟩
noncomputable def zk9 (p0 : zb) (r : zt4) : TM := zk5 p0 ++ [(5, (xb r.1)), (6, (xi r.2.1)), (39, (.d (dl za p0.Letters.1 p0.Letters.2))), (40, (xi (p0.Letters.1.length : Int))), (41, (xi r.2.2)), (42, (xb false))]
noncomputable def zWc (p0 : zb) (r : zt4) : St := ⟨(zk9 p0 r), ⟨[(zc 1 (zd p0))], []⟩, []⟩
noncomputable def zwm (p0 : zb) : (Bool × Int × Int) → Ex × St := fun r => ((.exit 0), zWc p0 r)
theorem z8h (k : Nat) (p0 : zb) (s2_7 : Bool) (s2_8 s2_11 : Int) (x : (Bool × Int × Int) ⊕ (Bool × Int × Int)) (h : zad k p0 s2_7 s2_8 s2_11 = some x) : zL TE 16 (blk TE 16 0) (fun s : (Bool × Int × Int) => zpm p0 s.1 s.2.1 s.2.2) (zwm p0) (s2_7, s2_8, s2_11) x := by
 unfold zad at h
 refine zo h (fun h401 g1 => ?_) (fun h401 g1 => ?_)
 ·refine zk g1 (fun v402 h403 g2 => ?_)
  refine zk g2 (fun v404 h405 g3 => ?_)
  exact zqn (v404, v402.Day, (w64 (s2_11 + 1))) [] [(16, 5, 0, .q (xb true)), (16, 6, 0, .q (.d (.pin (za v402))))] [(16, 1000007, (.nor, zAb p0 s2_7 s2_8 s2_11 v402 v404))] g3 (ob (o_b h401) (ob (o_ia (e := za) 6 h403 rfl) (ob (zbm k p0 s2_7 s2_8 s2_11 v402 _ h405) ob0))) (by kernel_rfl)
 ·exact zqo [(16, 5, 0, .q (xb false))] [] g1 (ob (o_b h401) ob0) (by kernel_rfl)
noncomputable def zzu (p0 : zb) (r : Bool) (v3 : zt4) (s5_15 : Int) (v1002 : (SL Int)) : TM := zk4 p0 r ++ [(6, (xi v3.2.1)), (39, (.d (dl za p0.Letters.1 p0.Letters.2))), (40, (xi (p0.Letters.1.length : Int))), (41, (xi v3.2.2)), (42, (xb false)), (83, (.d (dl (eL eI) p0.Far.1 p0.Far.2))), (84, (xi (p0.Far.1.length : Int))), (85, (xi s5_15)), (86, (xb true)), (9, (xi s5_15)), (10, (.d (dl eI v1002.1 v1002.2)))]
noncomputable def zne (p0 : zb) (v3 : zt4) (s5_7 : Bool) (s5_15 : Int) (v1002 : (SL Int)) (r : Bool) : St := ⟨(zzu p0 r v3 s5_15 v1002), ⟨[(zc 1 (zd p0))], []⟩, []⟩
noncomputable def zTv (p0 : zb) (s5_7 : Bool) (v3 : zt4) (s5_15 : Int) (v1002 : (SL Int)) : TM := zk5 p0 ++ [(5, (xb s5_7)), (6, (xi v3.2.1)), (39, (.d (dl za p0.Letters.1 p0.Letters.2))), (40, (xi (p0.Letters.1.length : Int))), (41, (xi v3.2.2)), (42, (xb false)), (83, (.d (dl (eL eI) p0.Far.1 p0.Far.2))), (84, (xi (p0.Far.1.length : Int))), (85, (xi s5_15)), (86, (xb true)), (9, (xi s5_15)), (10, (.d (dl eI v1002.1 v1002.2)))]
theorem z9k (k : Nat) (p0 : zb) (v3 : zt4) (s5_7 : Bool) (s5_15 : Int) (v1002 : (SL Int)) (r : Bool) (h : zSe k p0 v3 s5_7 s5_15 v1002 = some r) : ev TE 16 (rgn TE 16 13) ⟨(zTv p0 s5_7 v3 s5_15 v1002), ⟨[(zc 1 (zd p0))], []⟩, []⟩ = some (.nor, zne p0 v3 s5_7 s5_15 v1002 r) := by
 unfold zSe at h
 refine zo h (fun h1101 g1 => ?_) (fun h1101 g1 => ?_)
 ·exact zw (g := fun r => (Ex.nor, zne p0 v3 s5_7 s5_15 v1002 r)) g1 (zqe [(16, 13, 1, .q (xb true)), (16, 13, 3, .q (xi (v1002.1.length : Int)))] [] (ob (o_b h1101) (ob (zq eI v1002.1) ob0)) (by kernel_rfl))
 ·exact zw (g := fun r => (Ex.nor, zne p0 v3 s5_7 s5_15 v1002 r)) g1 (zqe [(16, 13, 1, .q (xb false))] [] (ob (o_b h1101) ob0) (by kernel_rfl))
noncomputable def z5v (p0 : zb) (r : Bool) (v3 : zt4) (s5_15 : Int) (v1002 : (SL Int)) (s11_21 v1302 : Int) : TM := zzu p0 r v3 s5_15 v1002 ++ [(97, (.d (dl eI v1002.1 v1002.2))), (98, (xi (v1002.1.length : Int))), (99, (xi s11_21)), (100, (xb true)), (11, (xi s11_21)), (12, (xi v1302))]
noncomputable def zpc (p0 : zb) (v3 : zt4) (s5_15 : Int) (v1002 : (SL Int)) (s11_7 : Bool) (s11_21 v1302 : Int) (r : Bool) : St := ⟨(z5v p0 r v3 s5_15 v1002 s11_21 v1302), ⟨[(zc 1 (zd p0))], []⟩, []⟩
noncomputable def zew (p0 : zb) (s11_7 : Bool) (v3 : zt4) (s5_15 : Int) (v1002 : (SL Int)) (s11_21 v1302 : Int) : TM := zk5 p0 ++ [(5, (xb s11_7)), (6, (xi v3.2.1)), (39, (.d (dl za p0.Letters.1 p0.Letters.2))), (40, (xi (p0.Letters.1.length : Int))), (41, (xi v3.2.2)), (42, (xb false)), (83, (.d (dl (eL eI) p0.Far.1 p0.Far.2))), (84, (xi (p0.Far.1.length : Int))), (85, (xi s5_15)), (86, (xb true)), (9, (xi s5_15)), (10, (.d (dl eI v1002.1 v1002.2))), (97, (.d (dl eI v1002.1 v1002.2))), (98, (xi (v1002.1.length : Int))), (99, (xi s11_21)), (100, (xb true)), (11, (xi s11_21)), (12, (xi v1302))]
theorem zfl (k : Nat) (p0 : zb) (v3 : zt4) (s5_15 : Int) (v1002 : (SL Int)) (s11_7 : Bool) (s11_21 v1302 : Int) (r : Bool) (h : zWe k p0 v3 s5_15 v1002 s11_7 s11_21 v1302 = some r) : ev TE 16 (rgn TE 16 17) ⟨(zew p0 s11_7 v3 s5_15 v1002 s11_21 v1302), ⟨[(zc 1 (zd p0))], []⟩, []⟩ = some (.nor, zpc p0 v3 s5_15 v1002 s11_7 s11_21 v1302 r) := by
 unfold zWe at h
 refine zo h (fun h1401 g1 => ?_) (fun h1401 g1 => ?_)
 ·refine zk g1 (fun v1402 h1403 g2 => ?_)
  refine zo g2 (fun h1404 g3 => ?_) (fun h1404 g3 => ?_)
  ·refine zo g3 (fun h1405 g4 => ?_) (fun h1405 g4 => ?_)
   ·exact zw (g := fun r => (Ex.nor, zpc p0 v3 s5_15 v1002 s11_7 s11_21 v1302 r)) g4 (zqe [(16, 17, 1, .q (xb true)), (16, 17, 3, .c (db v1402)), (16, 17, 5, .q (xb true)), (16, 17, 9, .q (xb true))] [] (ob (o_b h1401) (ob (zu k v1302 0 400 _ h1403) (ob (o_b h1404) (ob (o_b h1405) ob0)))) (by kernel_rfl))
   ·exact zw (g := fun r => (Ex.nor, zpc p0 v3 s5_15 v1002 s11_7 s11_21 v1302 r)) g4 (zqe [(16, 17, 1, .q (xb true)), (16, 17, 3, .c (db v1402)), (16, 17, 5, .q (xb true)), (16, 17, 9, .q (xb false))] [] (ob (o_b h1401) (ob (zu k v1302 0 400 _ h1403) (ob (o_b h1404) (ob (o_b h1405) ob0)))) (by kernel_rfl))
  ·exact zw (g := fun r => (Ex.nor, zpc p0 v3 s5_15 v1002 s11_7 s11_21 v1302 r)) g3 (zqe [(16, 17, 1, .q (xb true)), (16, 17, 3, .c (db v1402)), (16, 17, 5, .q (xb false))] [] (ob (o_b h1401) (ob (zu k v1302 0 400 _ h1403) (ob (o_b h1404) ob0))) (by kernel_rfl))
 ·exact zw (g := fun r => (Ex.nor, zpc p0 v3 s5_15 v1002 s11_7 s11_21 v1302 r)) g1 (zqe [(16, 17, 1, .q (xb false))] [] (ob (o_b h1401) ob0) (by kernel_rfl))
noncomputable def zAw (p0 : zb) (s11_7 : Bool) (v3 : zt4) (s5_15 : Int) (v1002 : (SL Int)) (s11_21 : Int) : TM := zk5 p0 ++ [(5, (xb s11_7)), (6, (xi v3.2.1)), (39, (.d (dl za p0.Letters.1 p0.Letters.2))), (40, (xi (p0.Letters.1.length : Int))), (41, (xi v3.2.2)), (42, (xb false)), (83, (.d (dl (eL eI) p0.Far.1 p0.Far.2))), (84, (xi (p0.Far.1.length : Int))), (85, (xi s5_15)), (86, (xb true)), (9, (xi s5_15)), (10, (.d (dl eI v1002.1 v1002.2))), (97, (.d (dl eI v1002.1 v1002.2))), (98, (xi (v1002.1.length : Int))), (99, (xi s11_21))]
noncomputable def zNl (p0 : zb) (v3 : zt4) (s5_15 : Int) (v1002 : (SL Int)) (s11_7 : Bool) (s11_21 : Int) : St := ⟨(zAw p0 s11_7 v3 s5_15 v1002 s11_21), ⟨[(zc 1 (zd p0))], []⟩, []⟩
noncomputable def zgw (p0 : zb) (r : zt1) (v3 : zt4) (s5_15 : Int) (v1002 : (SL Int)) : TM := zk5 p0 ++ [(5, (xb r.1)), (6, (xi v3.2.1)), (39, (.d (dl za p0.Letters.1 p0.Letters.2))), (40, (xi (p0.Letters.1.length : Int))), (41, (xi v3.2.2)), (42, (xb false)), (83, (.d (dl (eL eI) p0.Far.1 p0.Far.2))), (84, (xi (p0.Far.1.length : Int))), (85, (xi s5_15)), (86, (xb true)), (9, (xi s5_15)), (10, (.d (dl eI v1002.1 v1002.2))), (97, (.d (dl eI v1002.1 v1002.2))), (98, (xi (v1002.1.length : Int))), (99, (xi r.2)), (100, (xb false))]
noncomputable def znf (p0 : zb) (v3 : zt4) (s5_15 : Int) (v1002 : (SL Int)) (r : zt1) : St := ⟨(zgw p0 r v3 s5_15 v1002), ⟨[(zc 1 (zd p0))], []⟩, []⟩
noncomputable def z1l (p0 : zb) (v3 : zt4) (s5_15 : Int) (v1002 : (SL Int)) : (Bool × Int) → Ex × St := fun r => ((.exit 4), znf p0 v3 s5_15 v1002 r)
theorem z7k (k : Nat) (p0 : zb) (v3 : zt4) (s5_15 : Int) (v1002 : (SL Int)) (s11_7 : Bool) (s11_21 : Int) (x : (Bool × Int) ⊕ (Bool × Int)) (h : zRd k p0 v3 s5_15 v1002 s11_7 s11_21 = some x) : zL TE 16 (blk TE 16 4) (fun s : (Bool × Int) => zNl p0 v3 s5_15 v1002 s.1 s.2) (z1l p0 v3 s5_15 v1002) (s11_7, s11_21) x := by
 unfold zRd at h
 refine zo h (fun h1301 g1 => ?_) (fun h1301 g1 => ?_)
 ·refine zk g1 (fun v1302 h1303 g2 => ?_)
  refine zk g2 (fun v1304 h1305 g3 => ?_)
  exact zqn (v1304, (w64 (s11_21 + 1))) [] [(16, 15, 0, .q (xb true)), (16, 16, 1, .q (.d (.pin [(di v1302)])))] [(16, 1000017, (.nor, zpc p0 v3 s5_15 v1002 s11_7 s11_21 v1302 v1304))] g3 (ob (o_b h1301) (ob (o_ia (e := eI) 1 h1303 rfl) (ob (zfl k p0 v3 s5_15 v1002 s11_7 s11_21 v1302 _ h1305) ob0))) (by kernel_rfl)
 ·exact zqo [(16, 15, 0, .q (xb false))] [] g1 (ob (o_b h1301) ob0) (by kernel_rfl)
noncomputable def zUv (p0 : zb) (s5_7 : Bool) (v3 : zt4) (s5_15 : Int) : TM := zk5 p0 ++ [(5, (xb s5_7)), (6, (xi v3.2.1)), (39, (.d (dl za p0.Letters.1 p0.Letters.2))), (40, (xi (p0.Letters.1.length : Int))), (41, (xi v3.2.2)), (42, (xb false)), (83, (.d (dl (eL eI) p0.Far.1 p0.Far.2))), (84, (xi (p0.Far.1.length : Int))), (85, (xi s5_15))]
noncomputable def zvm (p0 : zb) (v3 : zt4) (s5_7 : Bool) (s5_15 : Int) : St := ⟨(zUv p0 s5_7 v3 s5_15), ⟨[(zc 1 (zd p0))], []⟩, []⟩
noncomputable def zNw (p0 : zb) (r : zt1) (v3 : zt4) : TM := zk5 p0 ++ [(5, (xb r.1)), (6, (xi v3.2.1)), (39, (.d (dl za p0.Letters.1 p0.Letters.2))), (40, (xi (p0.Letters.1.length : Int))), (41, (xi v3.2.2)), (42, (xb false)), (83, (.d (dl (eL eI) p0.Far.1 p0.Far.2))), (84, (xi (p0.Far.1.length : Int))), (85, (xi r.2)), (86, (xb false))]
noncomputable def z0c (p0 : zb) (v3 : zt4) (r : zt1) : St := ⟨(zNw p0 r v3), ⟨[(zc 1 (zd p0))], []⟩, []⟩
noncomputable def zmm (p0 : zb) (v3 : zt4) : (Bool × Int) → Ex × St := fun r => ((.exit 2), z0c p0 v3 r)
theorem z2h (k : Nat) (p0 : zb) (v3 : zt4) (s5_7 : Bool) (s5_15 : Int) (x : (Bool × Int) ⊕ (Bool × Int)) (h : zcd k p0 v3 s5_7 s5_15 = some x) : zL TE 16 (blk TE 16 2) (fun s : (Bool × Int) => zvm p0 v3 s.1 s.2) (zmm p0 v3) (s5_7, s5_15) x := by
 unfold zcd at h
 refine zo h (fun h1001 g1 => ?_) (fun h1001 g1 => ?_)
 ·refine zk g1 (fun v1002 h1003 g2 => ?_)
  refine zk g2 (fun v1004 h1005 g3 => ?_)
  refine zk g3 (fun v1006 h1007 g4 => ?_)
  exact zqn (v1006.1, (w64 (s5_15 + 1))) [] [(16, 11, 0, .q (xb true)), (16, 12, 1, .q (.d (.pin [(dl eI v1002.1 v1002.2)]))), (16, 14, 1, .q (xi (v1002.1.length : Int)))] [(16, 1000013, (.nor, zne p0 v3 s5_7 s5_15 v1002 v1004)), (16, 4, (.nor, znf p0 v3 s5_15 v1002 v1006))] g4 (ob (o_b h1001) (ob (o_ia (e := (eL eI)) 1 h1003 rfl) (ob (z9k k p0 v3 s5_7 s5_15 v1002 _ h1005) (ob (zq eI v1002.1) (ob (zC (id := 4) (r' := (.nor, znf p0 v3 s5_15 v1002 v1006)) (zHc (z7k k p0 v3 s5_15 v1002) k _ _ h1007) rfl) ob0))))) (by kernel_rfl)
 ·exact zqo [(16, 11, 0, .q (xb false))] [] g1 (ob (o_b h1001) ob0) (by kernel_rfl)
noncomputable def zWv (p0 : zb) (r : Bool) (v3 : zt4) (v5 : zt1) (s14_19 : Int) : TM := zk4 p0 r ++ [(6, (xi v3.2.1)), (39, (.d (dl za p0.Letters.1 p0.Letters.2))), (40, (xi (p0.Letters.1.length : Int))), (41, (xi v3.2.2)), (42, (xb false)), (83, (.d (dl (eL eI) p0.Far.1 p0.Far.2))), (84, (xi (p0.Far.1.length : Int))), (85, (xi v5.2)), (86, (xb false)), (121, (.d (dl (aI 2) p0.Apart.1 p0.Apart.2))), (122, (xi (p0.Apart.1.length : Int))), (123, (xi s14_19)), (124, (xb true)), (zsp 14), (13, (xi s14_19))]
noncomputable def znc (p0 : zb) (v3 : zt4) (v5 : zt1) (s14_7 : Bool) (s14_19 : Int) (v1602 : zt6) (r : Bool) : St := ⟨(zWv p0 r v3 v5 s14_19), ⟨[(zc 1 (zd p0)), (zc 14 (aI 2 v1602))], []⟩, []⟩
noncomputable def z3w (p0 : zb) (s14_7 : Bool) (v3 : zt4) (v5 : zt1) (s14_19 : Int) : TM := zk5 p0 ++ [(5, (xb s14_7)), (6, (xi v3.2.1)), (39, (.d (dl za p0.Letters.1 p0.Letters.2))), (40, (xi (p0.Letters.1.length : Int))), (41, (xi v3.2.2)), (42, (xb false)), (83, (.d (dl (eL eI) p0.Far.1 p0.Far.2))), (84, (xi (p0.Far.1.length : Int))), (85, (xi v5.2)), (86, (xb false)), (121, (.d (dl (aI 2) p0.Apart.1 p0.Apart.2))), (122, (xi (p0.Apart.1.length : Int))), (123, (xi s14_19)), (124, (xb true)), (zsp 14), (13, (xi s14_19))]
theorem zel (k : Nat) (p0 : zb) (v3 : zt4) (v5 : zt1) (s14_7 : Bool) (s14_19 : Int) (v1602 : zt6) (r : Bool) (h : zYe k p0 v3 v5 s14_7 s14_19 v1602 = some r) : ev TE 16 (rgn TE 16 23) ⟨(z3w p0 s14_7 v3 v5 s14_19), ⟨[(zc 1 (zd p0)), (zc 14 (aI 2 v1602))], []⟩, []⟩ = some (.nor, znc p0 v3 v5 s14_7 s14_19 v1602 r) := by
 unfold zYe at h
 refine zo h (fun h1701 g1 => ?_) (fun h1701 g1 => ?_)
 ·refine zk g1 (fun v1702 h1703 g2 => ?_)
  refine zo g2 (fun h1704 g3 => ?_) (fun h1704 g3 => ?_)
  ·refine zo g3 (fun h1705 g4 => ?_) (fun h1705 g4 => ?_)
   ·refine zDb g4 (fun h1706 g5 => ?_)
    refine zk g5 (fun v1707 h1708 g6 => ?_)
    exact zw (g := fun r => (Ex.nor, znc p0 v3 v5 s14_7 s14_19 v1602 r)) g6 (zqe [(16, 23, 1, .q (xb true)), (16, 23, 7, .c (db v1702)), (16, 23, 9, .q (xb true)), (16, 23, 15, .q (xb true)), (16, 23, 19, .q (.d (dl (aI 2) (p0.Apart.1.take s14_19.toNat) (pcap p0.Apart.2 (s14_19 == (p0.Apart.1.length : Int)))))), (16, 23, 21, .c (db v1707))] [] (ob (o_b h1701) (ob (zu k (v1602 0) 0 (w64 ((v1602 1) - 1)) _ h1703) (ob (o_b h1704) (ob (o_b h1705) (ob (zCq (e := (aI 2)) (z := 2) (n := s14_19) p0.Apart.1 p0.Apart.2 h1706) (ob (zWh k ((p0.Apart.1.take s14_19.toNat), (pcap p0.Apart.2 (s14_19 == (p0.Apart.1.length : Int)))) v1602 _ h1708) ob0)))))) (by kernel_rfl))
   ·exact zw (g := fun r => (Ex.nor, znc p0 v3 v5 s14_7 s14_19 v1602 r)) g4 (zqe [(16, 23, 1, .q (xb true)), (16, 23, 7, .c (db v1702)), (16, 23, 9, .q (xb true)), (16, 23, 15, .q (xb false))] [] (ob (o_b h1701) (ob (zu k (v1602 0) 0 (w64 ((v1602 1) - 1)) _ h1703) (ob (o_b h1704) (ob (o_b h1705) ob0)))) (by kernel_rfl))
  ·exact zw (g := fun r => (Ex.nor, znc p0 v3 v5 s14_7 s14_19 v1602 r)) g3 (zqe [(16, 23, 1, .q (xb true)), (16, 23, 7, .c (db v1702)), (16, 23, 9, .q (xb false))] [] (ob (o_b h1701) (ob (zu k (v1602 0) 0 (w64 ((v1602 1) - 1)) _ h1703) (ob (o_b h1704) ob0))) (by kernel_rfl))
 ·exact zw (g := fun r => (Ex.nor, znc p0 v3 v5 s14_7 s14_19 v1602 r)) g1 (zqe [(16, 23, 1, .q (xb false))] [] (ob (o_b h1701) ob0) (by kernel_rfl))
noncomputable def zvw (p0 : zb) (s14_7 : Bool) (v3 : zt4) (v5 : zt1) (s14_19 : Int) : TM := zk5 p0 ++ [(5, (xb s14_7)), (6, (xi v3.2.1)), (39, (.d (dl za p0.Letters.1 p0.Letters.2))), (40, (xi (p0.Letters.1.length : Int))), (41, (xi v3.2.2)), (42, (xb false)), (83, (.d (dl (eL eI) p0.Far.1 p0.Far.2))), (84, (xi (p0.Far.1.length : Int))), (85, (xi v5.2)), (86, (xb false)), (121, (.d (dl (aI 2) p0.Apart.1 p0.Apart.2))), (122, (xi (p0.Apart.1.length : Int))), (123, (xi s14_19))]
noncomputable def zDl (p0 : zb) (v3 : zt4) (v5 : zt1) (s14_7 : Bool) (s14_19 : Int) : St := ⟨(zvw p0 s14_7 v3 v5 s14_19), ⟨[(zc 1 (zd p0))], []⟩, []⟩
noncomputable def zaw (p0 : zb) (r : zt1) (v3 : zt4) (v5 : zt1) : TM := zk5 p0 ++ [(5, (xb r.1)), (6, (xi v3.2.1)), (39, (.d (dl za p0.Letters.1 p0.Letters.2))), (40, (xi (p0.Letters.1.length : Int))), (41, (xi v3.2.2)), (42, (xb false)), (83, (.d (dl (eL eI) p0.Far.1 p0.Far.2))), (84, (xi (p0.Far.1.length : Int))), (85, (xi v5.2)), (86, (xb false)), (121, (.d (dl (aI 2) p0.Apart.1 p0.Apart.2))), (122, (xi (p0.Apart.1.length : Int))), (123, (xi r.2)), (124, (xb false))]
noncomputable def zKc (p0 : zb) (v3 : zt4) (v5 r : zt1) : St := ⟨(zaw p0 r v3 v5), ⟨[(zc 1 (zd p0))], []⟩, []⟩
noncomputable def zUl (p0 : zb) (v3 : zt4) (v5 : zt1) : (Bool × Int) → Ex × St := fun r => ((.exit 6), zKc p0 v3 v5 r)
theorem zNh (k : Nat) (p0 : zb) (v3 : zt4) (v5 : zt1) (s14_7 : Bool) (s14_19 : Int) (x : (Bool × Int) ⊕ (Bool × Int)) (h : zOc k p0 v3 v5 s14_7 s14_19 = some x) : zL TE 16 (blk TE 16 6) (fun s : (Bool × Int) => zDl p0 v3 v5 s.1 s.2) (zUl p0 v3 v5) (s14_7, s14_19) x := by
 unfold zOc at h
 refine zo h (fun h1601 g1 => ?_) (fun h1601 g1 => ?_)
 ·refine zk g1 (fun v1602 h1603 g2 => ?_)
  refine zk g2 (fun v1604 h1605 g3 => ?_)
  exact zqn (v1604, (w64 (s14_19 + 1))) [] [(16, 21, 0, .q (xb true)), (16, 22, 1, .q (.d (.pin (aI 2 v1602))))] [(16, 1000023, (.nor, znc p0 v3 v5 s14_7 s14_19 v1602 v1604))] g3 (ob (o_b h1601) (ob (o_ia (e := (aI 2)) 2 h1603 rfl) (ob (zel k p0 v3 v5 s14_7 s14_19 v1602 _ h1605) ob0))) (by kernel_rfl)
 ·exact zqo [(16, 21, 0, .q (xb false))] [] g1 (ob (o_b h1601) ob0) (by kernel_rfl)
theorem zF (k : Nat) (p0 : zb) (r : Int) (h : zCb k p0 = some r) : zB TE (ev TE) 16 [(.agg (zd p0))] = some (zrh r) := by
 unfold zCb at h
 refine zk h (fun v1 h2 g1 => ?_)
 refine zk g1 (fun v3 h4 g2 => ?_)
 refine zk g2 (fun v5 h6 g3 => ?_)
 refine zk g3 (fun v7 h8 g4 => ?_)
 refine zo g4 (fun h9 g5 => ?_) (fun h9 g5 => ?_)
 ·exact zr (g := zrh) g5 (zqc [(16, 1, 2, .q (xi (p0.Letters.1.length : Int))), (16, 1, 5, .q (xi (p0.Far.1.length : Int))), (16, 4, 2, .q (xi (p0.Letters.1.length : Int))), (16, 10, 2, .q (xi (p0.Far.1.length : Int))), (16, 20, 2, .q (xi (p0.Apart.1.length : Int))), (16, 25, 1, .q (xb true))] [(16, 1000002, (.nor, z2b p0 v1)), (16, 0, (.nor, zWc p0 v3)), (16, 2, (.nor, z0c p0 v3 v5)), (16, 6, (.nor, zKc p0 v3 v5 v7))] (ob (zq za p0.Letters.1) (ob (zq (eL eI) p0.Far.1) (ob (zei k p0 _ h2) (ob (zq za p0.Letters.1) (ob (zC (id := 0) (r' := (.nor, zWc p0 v3)) (zGm (z8h k p0) k _ _ h4) rfl) (ob (zq (eL eI) p0.Far.1) (ob (zC (id := 2) (r' := (.nor, z0c p0 v3 v5)) (zHc (z2h k p0 v3) k _ _ h6) rfl) (ob (zq (aI 2) p0.Apart.1) (ob (zC (id := 6) (r' := (.nor, zKc p0 v3 v5 v7)) (zHc (zNh k p0 v3 v5) k _ _ h8) rfl) (ob (o_b h9) ob0)))))))))) (by kernel_rfl))
 ·exact zr (g := zrh) g5 (zqc [(16, 1, 2, .q (xi (p0.Letters.1.length : Int))), (16, 1, 5, .q (xi (p0.Far.1.length : Int))), (16, 4, 2, .q (xi (p0.Letters.1.length : Int))), (16, 10, 2, .q (xi (p0.Far.1.length : Int))), (16, 20, 2, .q (xi (p0.Apart.1.length : Int))), (16, 25, 1, .q (xb false))] [(16, 1000002, (.nor, z2b p0 v1)), (16, 0, (.nor, zWc p0 v3)), (16, 2, (.nor, z0c p0 v3 v5)), (16, 6, (.nor, zKc p0 v3 v5 v7))] (ob (zq za p0.Letters.1) (ob (zq (eL eI) p0.Far.1) (ob (zei k p0 _ h2) (ob (zq za p0.Letters.1) (ob (zC (id := 0) (r' := (.nor, zWc p0 v3)) (zGm (z8h k p0) k _ _ h4) rfl) (ob (zq (eL eI) p0.Far.1) (ob (zC (id := 2) (r' := (.nor, z0c p0 v3 v5)) (zHc (z2h k p0 v3) k _ _ h6) rfl) (ob (zq (aI 2) p0.Apart.1) (ob (zC (id := 6) (r' := (.nor, zKc p0 v3 v5 v7)) (zHc (zNh k p0 v3 v5) k _ _ h8) rfl) (ob (o_b h9) ob0)))))))))) (by kernel_rfl))
theorem zH (k : Nat) (p0 p1 p2 : Int) (r : Bool) (h : zT k p0 p1 p2 = some r) : zB TE (ev TE) 40 [(di p0), (di p1), (di p2)] = some (zsf r) := by
 unfold zT at h
 refine zo h (fun h1 g1 => ?_) (fun h1 g1 => ?_)
 ·exact zr (g := zsf) g1 (zqc [(40, 1, 3, .q (xb true))] [] (ob (o_b h1) ob0) (by kernel_rfl))
 ·exact zr (g := zsf) g1 (zqc [(40, 1, 3, .q (xb false))] [] (ob (o_b h1) ob0) (by kernel_rfl))
theorem zwk (k : Nat) (p0 : zUb) (p1 p2 : Int) (r : Bool) (h : z7c k p0 p1 p2 = some r) : zB TE (ev TE) 56 [(.agg [(di p0.Low), (di p0.High)]), (di p1), (di p2)] = some (zBd r) := by
 unfold z7c at h
 refine zo h (fun h1 g1 => ?_) (fun h1 g1 => ?_)
 ·refine zo g1 (fun h2 g2 => ?_) (fun h2 g2 => ?_)
  ·exact zr (g := zBd) g2 (zqc [(56, 1, 4, .q (xb true)), (56, 1, 11, .q (xb true))] [] (ob (o_b h1) (ob (o_b h2) ob0)) (by kernel_rfl))
  ·exact zr (g := zBd) g2 (zqc [(56, 1, 4, .q (xb true)), (56, 1, 11, .q (xb false))] [] (ob (o_b h1) (ob (o_b h2) ob0)) (by kernel_rfl))
 ·exact zr (g := zBd) g1 (zqc [(56, 1, 4, .q (xb false))] [] (ob (o_b h1) ob0) (by kernel_rfl))
noncomputable def z3s (p0 : zb) (r : Bool) : TM := [(0, (.d (.agg (zd p0)))), (zsp 1), (2, (xb false)), (3, (xb r))]
noncomputable def zmb (p0 : zb) (r : Bool) : St := ⟨(z3s p0 r), ⟨[(zc 1 (zd p0))], []⟩, []⟩
theorem zLj (k : Nat) (p0 : zb) (r : Bool) (h : zCd k p0 = some r) : ev TE 37 (rgn TE 37 1) ⟨[(0, (.d (.agg (zd p0)))), (zsp 1), (2, (xb false))], ⟨[(zc 1 (zd p0))], []⟩, []⟩ = some (.nor, zmb p0 r) := by
 unfold zCd at h
 refine zk h (fun v201 h202 g1 => ?_)
 refine zo g1 (fun h203 g2 => ?_) (fun h203 g2 => ?_)
 ·refine zk g2 (fun v204 h205 g3 => ?_)
  refine zo g3 (fun h206 g4 => ?_) (fun h206 g4 => ?_)
  ·refine zk g4 (fun v207 h208 g5 => ?_)
   refine zo g5 (fun h209 g6 => ?_) (fun h209 g6 => ?_)
   ·refine zo g6 (fun h210 g7 => ?_) (fun h210 g7 => ?_)
    ·refine zk g7 (fun v211 h212 g8 => ?_)
     exact zw (g := fun r => (Ex.nor, zmb p0 r)) g8 (zqe [(37, 1, 1, .c (di v201)), (37, 1, 3, .q (xb true)), (37, 1, 6, .q (xi (p0.Letters.1.length : Int))), (37, 1, 7, .c (db v204)), (37, 1, 9, .q (xb true)), (37, 1, 12, .q (xi (p0.Far.1.length : Int))), (37, 1, 13, .c (db v207)), (37, 1, 15, .q (xb true)), (37, 1, 18, .q (xi (p0.Apart.1.length : Int))), (37, 1, 21, .q (xb true)), (37, 1, 24, .c (db v211))] [] (ob (zF k p0 _ h202) (ob (o_b h203) (ob (zq za p0.Letters.1) (ob (zH k (p0.Letters.1.length : Int) 1 8 _ h205) (ob (o_b h206) (ob (zq (eL eI) p0.Far.1) (ob (zH k (p0.Far.1.length : Int) 1 6 _ h208) (ob (o_b h209) (ob (zq (aI 2) p0.Apart.1) (ob (o_b h210) (ob (zH k p0.Most 1 8 _ h212) ob0))))))))))) (by kernel_rfl))
    ·exact zw (g := fun r => (Ex.nor, zmb p0 r)) g7 (zqe [(37, 1, 1, .c (di v201)), (37, 1, 3, .q (xb true)), (37, 1, 6, .q (xi (p0.Letters.1.length : Int))), (37, 1, 7, .c (db v204)), (37, 1, 9, .q (xb true)), (37, 1, 12, .q (xi (p0.Far.1.length : Int))), (37, 1, 13, .c (db v207)), (37, 1, 15, .q (xb true)), (37, 1, 18, .q (xi (p0.Apart.1.length : Int))), (37, 1, 21, .q (xb false))] [] (ob (zF k p0 _ h202) (ob (o_b h203) (ob (zq za p0.Letters.1) (ob (zH k (p0.Letters.1.length : Int) 1 8 _ h205) (ob (o_b h206) (ob (zq (eL eI) p0.Far.1) (ob (zH k (p0.Far.1.length : Int) 1 6 _ h208) (ob (o_b h209) (ob (zq (aI 2) p0.Apart.1) (ob (o_b h210) ob0)))))))))) (by kernel_rfl))
   ·exact zw (g := fun r => (Ex.nor, zmb p0 r)) g6 (zqe [(37, 1, 1, .c (di v201)), (37, 1, 3, .q (xb true)), (37, 1, 6, .q (xi (p0.Letters.1.length : Int))), (37, 1, 7, .c (db v204)), (37, 1, 9, .q (xb true)), (37, 1, 12, .q (xi (p0.Far.1.length : Int))), (37, 1, 13, .c (db v207)), (37, 1, 15, .q (xb false))] [] (ob (zF k p0 _ h202) (ob (o_b h203) (ob (zq za p0.Letters.1) (ob (zH k (p0.Letters.1.length : Int) 1 8 _ h205) (ob (o_b h206) (ob (zq (eL eI) p0.Far.1) (ob (zH k (p0.Far.1.length : Int) 1 6 _ h208) (ob (o_b h209) ob0)))))))) (by kernel_rfl))
  ·exact zw (g := fun r => (Ex.nor, zmb p0 r)) g4 (zqe [(37, 1, 1, .c (di v201)), (37, 1, 3, .q (xb true)), (37, 1, 6, .q (xi (p0.Letters.1.length : Int))), (37, 1, 7, .c (db v204)), (37, 1, 9, .q (xb false))] [] (ob (zF k p0 _ h202) (ob (o_b h203) (ob (zq za p0.Letters.1) (ob (zH k (p0.Letters.1.length : Int) 1 8 _ h205) (ob (o_b h206) ob0))))) (by kernel_rfl))
 ·exact zw (g := fun r => (Ex.nor, zmb p0 r)) g2 (zqe [(37, 1, 1, .c (di v201)), (37, 1, 3, .q (xb false))] [] (ob (zF k p0 _ h202) (ob (o_b h203) ob0)) (by kernel_rfl))
noncomputable def zYw (p0 : zb) (s2_5 : Bool) (s2_6 : Int) (r : Bool) : TM := [(0, (.d (.agg (zd p0)))), (zsp 1), (2, (xb false)), (3, (xb s2_5)), (4, (xi s2_6)), (42, (xb r))]
noncomputable def zlc (p0 : zb) (s2_5 : Bool) (s2_6 : Int) (r : Bool) : St := ⟨(zYw p0 s2_5 s2_6 r), ⟨[(zc 1 (zd p0))], []⟩, []⟩
noncomputable def zCu (p0 : zb) (s2_5 : Bool) (s2_6 : Int) : TM := [(0, (.d (.agg (zd p0)))), (zsp 1), (2, (xb false)), (3, (xb s2_5)), (4, (xi s2_6))]
theorem ztg (k : Nat) (p0 : zb) (s2_5 : Bool) (s2_6 : Int) (r : Bool) (h : z0b k p0 s2_5 s2_6 = some r) : ev TE 37 (rgn TE 37 3) ⟨(zCu p0 s2_5 s2_6), ⟨[(zc 1 (zd p0))], []⟩, []⟩ = some (.nor, zlc p0 s2_5 s2_6 r) := by
 unfold z0b at h
 refine zo h (fun h801 g1 => ?_) (fun h801 g1 => ?_)
 ·exact zw (g := fun r => (Ex.nor, zlc p0 s2_5 s2_6 r)) g1 (zqe [(37, 3, 1, .q (xb true)), (37, 3, 5, .q (xi (p0.Far.1.length : Int)))] [] (ob (o_b h801) (ob (zq (eL eI) p0.Far.1) ob0)) (by kernel_rfl))
 ·exact zw (g := fun r => (Ex.nor, zlc p0 s2_5 s2_6 r)) g1 (zqe [(37, 3, 1, .q (xb false))] [] (ob (o_b h801) ob0) (by kernel_rfl))
noncomputable def zSv (p0 : zb) (s8_5 : Bool) (s2_6 s8_8 : Int) (r : Bool) : TM := [(0, (.d (.agg (zd p0)))), (zsp 1), (2, (xb false)), (3, (xb s8_5)), (4, (xi s2_6)), (42, (xb true)), (5, (xi s8_8)), (65, (xb r))]
noncomputable def z4b (p0 : zb) (s2_6 : Int) (s8_5 : Bool) (s8_8 : Int) (r : Bool) : St := ⟨(zSv p0 s8_5 s2_6 s8_8 r), ⟨[(zc 1 (zd p0))], []⟩, []⟩
noncomputable def zou (p0 : zb) (s8_5 : Bool) (s2_6 s8_8 : Int) : TM := [(0, (.d (.agg (zd p0)))), (zsp 1), (2, (xb false)), (3, (xb s8_5)), (4, (xi s2_6)), (42, (xb true)), (5, (xi s8_8))]
theorem z3f (k : Nat) (p0 : zb) (s2_6 : Int) (s8_5 : Bool) (s8_8 : Int) (r : Bool) (h : zLb k p0 s2_6 s8_5 s8_8 = some r) : ev TE 37 (rgn TE 37 7) ⟨(zou p0 s8_5 s2_6 s8_8), ⟨[(zc 1 (zd p0))], []⟩, []⟩ = some (.nor, z4b p0 s2_6 s8_5 s8_8 r) := by
 unfold zLb at h
 refine zo h (fun h1101 g1 => ?_) (fun h1101 g1 => ?_)
 ·refine zk g1 (fun v1102 h1103 g2 => ?_)
  exact zw (g := fun r => (Ex.nor, z4b p0 s2_6 s8_5 s8_8 r)) g2 (zqe [(37, 7, 1, .q (xb true)), (37, 7, 6, .q (.d (.pin [(dl eI v1102.1 v1102.2)]))), (37, 7, 8, .q (xi (v1102.1.length : Int)))] [] (ob (o_b h1101) (ob (o_ia (e := (eL eI)) 1 h1103 rfl) (ob (zq eI v1102.1) ob0))) (by kernel_rfl))
 ·exact zw (g := fun r => (Ex.nor, z4b p0 s2_6 s8_5 s8_8 r)) g1 (zqe [(37, 7, 1, .q (xb false))] [] (ob (o_b h1101) ob0) (by kernel_rfl))
noncomputable def zlk (p0 : zb) (s2_6 : Int) (s8_5 : Bool) (s8_8 : Int) : St := ⟨(zou p0 s8_5 s2_6 s8_8), ⟨[(zc 1 (zd p0))], []⟩, []⟩
noncomputable def zBw (p0 : zb) (r : zt1) (s2_6 : Int) : TM := [(0, (.d (.agg (zd p0)))), (zsp 1), (2, (xb false)), (3, (xb r.1)), (4, (xi s2_6)), (42, (xb true)), (5, (xi r.2)), (65, (xb false))]
noncomputable def zke (p0 : zb) (s2_6 : Int) (r : zt1) : St := ⟨(zBw p0 r s2_6), ⟨[(zc 1 (zd p0))], []⟩, []⟩
noncomputable def zXj (p0 : zb) (s2_6 : Int) : (Bool × Int) → Ex × St := fun r => ((.exit 2), zke p0 s2_6 r)
theorem zyj (k : Nat) (p0 : zb) (s2_6 : Int) (s8_5 : Bool) (s8_8 : Int) (x : (Bool × Int) ⊕ (Bool × Int)) (h : zZb k p0 s2_6 s8_5 s8_8 = some x) : zL TE 37 (blk TE 37 2) (fun s : (Bool × Int) => zlk p0 s2_6 s.1 s.2) (zXj p0 s2_6) (s8_5, s8_8) x := by
 unfold zZb at h
 refine zk h (fun v1001 h1002 g1 => ?_)
 refine zo g1 (fun h1003 g2 => ?_) (fun h1003 g2 => ?_)
 ·subst h1003
  refine zk g2 (fun v1004 h1005 g3 => ?_)
  refine zk g3 (fun v1006 h1007 g4 => ?_)
  refine zk g4 (fun v1008 h1009 g5 => ?_)
  exact zqn (v1008, (w64 (s8_8 + 1))) [] [(37, 9, 3, .q (.d (.pin [(dl eI v1004.1 v1004.2)]))), (37, 9, 6, .q (.d (.pin [(di v1006)]))), (37, 9, 8, .c (db v1008))] [(37, 1000007, (.nor, z4b p0 s2_6 s8_5 s8_8 true))] g5 (ob (z3f k p0 s2_6 s8_5 s8_8 _ h1002) (ob (o_ia (e := (eL eI)) 1 h1005 rfl) (ob (o_ia (e := eI) 1 h1007 rfl) (ob (zH k v1006 0 400 _ h1009) ob0)))) (by kernel_rfl)
 ·subst h1003
  exact zqo [] [(37, 1000007, (.nor, z4b p0 s2_6 s8_5 s8_8 false))] g2 (ob (z3f k p0 s2_6 s8_5 s8_8 _ h1002) ob0) (by kernel_rfl)
noncomputable def zkk (p0 : zb) (s2_5 : Bool) (s2_6 : Int) : St := ⟨(zCu p0 s2_5 s2_6), ⟨[(zc 1 (zd p0))], []⟩, []⟩
noncomputable def zZv (p0 : zb) (r : zt1) : TM := [(0, (.d (.agg (zd p0)))), (zsp 1), (2, (xb false)), (3, (xb r.1)), (4, (xi r.2)), (42, (xb false))]
noncomputable def zge (p0 : zb) (r : zt1) : St := ⟨(zZv p0 r), ⟨[(zc 1 (zd p0))], []⟩, []⟩
noncomputable def zrk (p0 : zb) : (Bool × Int) → Ex × St := fun r => ((.exit 0), zge p0 r)
theorem zBj (k : Nat) (p0 : zb) (s2_5 : Bool) (s2_6 : Int) (x : (Bool × Int) ⊕ (Bool × Int)) (h : zXb k p0 s2_5 s2_6 = some x) : zL TE 37 (blk TE 37 0) (fun s : (Bool × Int) => zkk p0 s.1 s.2) (zrk p0) (s2_5, s2_6) x := by
 unfold zXb at h
 refine zk h (fun v701 h702 g1 => ?_)
 refine zo g1 (fun h703 g2 => ?_) (fun h703 g2 => ?_)
 ·subst h703
  refine zk g2 (fun v704 h705 g3 => ?_)
  refine zk g3 (fun v706 h707 g4 => ?_)
  exact zqn (v706.1, (w64 (s2_6 + 1))) [] [(37, 5, 3, .q (.d (.pin [(dl eI v704.1 v704.2)]))), (37, 5, 5, .q (xi (v704.1.length : Int))), (37, 5, 8, .q (xi (p0.Far.1.length : Int)))] [(37, 1000003, (.nor, zlc p0 s2_5 s2_6 true)), (37, 2, (.nor, zke p0 s2_6 v706))] g4 (ob (ztg k p0 s2_5 s2_6 _ h702) (ob (o_ia (e := (eL eI)) 1 h705 rfl) (ob (zq eI v704.1) (ob (zq (eL eI) p0.Far.1) (ob (zC (id := 2) (r' := (.nor, zke p0 s2_6 v706)) (zHc (zyj k p0 s2_6) k _ _ h707) rfl) ob0))))) (by kernel_rfl)
 ·subst h703
  exact zqo [] [(37, 1000003, (.nor, zlc p0 s2_5 s2_6 false))] g2 (ob (ztg k p0 s2_5 s2_6 _ h702) ob0) (by kernel_rfl)
noncomputable def zDw (p0 : zb) (s11_5 : Bool) (v3 : zt1) (s11_8 : Int) (r : Bool) : TM := [(0, (.d (.agg (zd p0)))), (zsp 1), (2, (xb false)), (3, (xb s11_5)), (4, (xi v3.2)), (42, (xb false)), (6, (xi s11_8)), (84, (xb r))]
noncomputable def z8b (p0 : zb) (v3 : zt1) (s11_5 : Bool) (s11_8 : Int) (r : Bool) : St := ⟨(zDw p0 s11_5 v3 s11_8 r), ⟨[(zc 1 (zd p0))], []⟩, []⟩
noncomputable def zCt (p0 : zb) (s11_5 : Bool) (v3 : zt1) (s11_8 : Int) : TM := [(0, (.d (.agg (zd p0)))), (zsp 1), (2, (xb false)), (3, (xb s11_5)), (4, (xi v3.2)), (42, (xb false)), (6, (xi s11_8))]
theorem z2f (k : Nat) (p0 : zb) (v3 : zt1) (s11_5 : Bool) (s11_8 : Int) (r : Bool) (h : zNb k p0 v3 s11_5 s11_8 = some r) : ev TE 37 (rgn TE 37 11) ⟨(zCt p0 s11_5 v3 s11_8), ⟨[(zc 1 (zd p0))], []⟩, []⟩ = some (.nor, z8b p0 v3 s11_5 s11_8 r) := by
 unfold zNb at h
 refine zo h (fun h1501 g1 => ?_) (fun h1501 g1 => ?_)
 ·exact zw (g := fun r => (Ex.nor, z8b p0 v3 s11_5 s11_8 r)) g1 (zqe [(37, 11, 1, .q (xb true)), (37, 11, 5, .q (xi (p0.Letters.1.length : Int)))] [] (ob (o_b h1501) (ob (zq za p0.Letters.1) ob0)) (by kernel_rfl))
 ·exact zw (g := fun r => (Ex.nor, z8b p0 v3 s11_5 s11_8 r)) g1 (zqe [(37, 11, 1, .q (xb false))] [] (ob (o_b h1501) ob0) (by kernel_rfl))
noncomputable def z4w (p0 : zb) (r : Bool) (v3 : zt1) (s11_8 : Int) : TM := z3s p0 r ++ [(4, (xi v3.2)), (42, (xb false)), (6, (xi s11_8)), (84, (xb true)), (zsp 7)]
noncomputable def z5b (p0 : zb) (v3 : zt1) (s11_5 : Bool) (s11_8 : Int) (v1404 : zm) (r : Bool) : St := ⟨(z4w p0 r v3 s11_8), ⟨[(zc 1 (zd p0)), (zc 7 (za v1404))], []⟩, []⟩
theorem zcj (k : Nat) (p0 : zb) (v3 : zt1) (s11_5 : Bool) (s11_8 : Int) (v1404 : zm) (r : Bool) (h : zhd k p0 v3 s11_5 s11_8 v1404 = some r) : ev TE 37 (rgn TE 37 14) ⟨(zCt p0 s11_5 v3 s11_8 ++ [(84, (xb true)), (zsp 7)]), ⟨[(zc 1 (zd p0)), (zc 7 (za v1404))], []⟩, []⟩ = some (.nor, z5b p0 v3 s11_5 s11_8 v1404 r) := by
 unfold zhd at h
 refine zk h (fun v1601 h1602 g1 => ?_)
 refine zo g1 (fun h1603 g2 => ?_) (fun h1603 g2 => ?_)
 ·refine zk g2 (fun v1604 h1605 g3 => ?_)
  refine zo g3 (fun h1606 g4 => ?_) (fun h1606 g4 => ?_)
  ·refine zk g4 (fun v1607 h1608 g5 => ?_)
   exact zw (g := fun r => (Ex.nor, z5b p0 v3 s11_5 s11_8 v1404 r)) g5 (zqe [(37, 14, 2, .c (db v1601)), (37, 14, 3, .q (xb true)), (37, 14, 8, .q (xi (p0.Far.1.length : Int))), (37, 14, 10, .c (db v1604)), (37, 14, 12, .q (xb true)), (37, 14, 15, .c (db v1607))] [] (ob (zH k v1404.Day 0 20000 _ h1602) (ob (o_b h1603) (ob (zq (eL eI) p0.Far.1) (ob (zH k v1404.Place 0 (w64 ((p0.Far.1.length : Int) - 1)) _ h1605) (ob (o_b h1606) (ob (zwk k v1404.Born 0 200 _ h1608) ob0)))))) (by kernel_rfl))
  ·exact zw (g := fun r => (Ex.nor, z5b p0 v3 s11_5 s11_8 v1404 r)) g4 (zqe [(37, 14, 2, .c (db v1601)), (37, 14, 3, .q (xb true)), (37, 14, 8, .q (xi (p0.Far.1.length : Int))), (37, 14, 10, .c (db v1604)), (37, 14, 12, .q (xb false))] [] (ob (zH k v1404.Day 0 20000 _ h1602) (ob (o_b h1603) (ob (zq (eL eI) p0.Far.1) (ob (zH k v1404.Place 0 (w64 ((p0.Far.1.length : Int) - 1)) _ h1605) (ob (o_b h1606) ob0))))) (by kernel_rfl))
 ·exact zw (g := fun r => (Ex.nor, z5b p0 v3 s11_5 s11_8 v1404 r)) g2 (zqe [(37, 14, 2, .c (db v1601)), (37, 14, 3, .q (xb false))] [] (ob (zH k v1404.Day 0 20000 _ h1602) (ob (o_b h1603) ob0)) (by kernel_rfl))
noncomputable def zxj (p0 : zb) (v3 : zt1) (s11_5 : Bool) (s11_8 : Int) : St := ⟨(zCt p0 s11_5 v3 s11_8), ⟨[(zc 1 (zd p0))], []⟩, []⟩
noncomputable def z4v (p0 : zb) (r v3 : zt1) : TM := [(0, (.d (.agg (zd p0)))), (zsp 1), (2, (xb false)), (3, (xb r.1)), (4, (xi v3.2)), (42, (xb false)), (6, (xi r.2)), (84, (xb false))]
noncomputable def z2d (p0 : zb) (v3 r : zt1) : St := ⟨(z4v p0 r v3), ⟨[(zc 1 (zd p0))], []⟩, []⟩
noncomputable def zvj (p0 : zb) (v3 : zt1) : (Bool × Int) → Ex × St := fun r => ((.exit 4), z2d p0 v3 r)
theorem zfj (k : Nat) (p0 : zb) (v3 : zt1) (s11_5 : Bool) (s11_8 : Int) (x : (Bool × Int) ⊕ (Bool × Int)) (h : zOb k p0 v3 s11_5 s11_8 = some x) : zL TE 37 (blk TE 37 4) (fun s : (Bool × Int) => zxj p0 v3 s.1 s.2) (zvj p0 v3) (s11_5, s11_8) x := by
 unfold zOb at h
 refine zk h (fun v1401 h1402 g1 => ?_)
 refine zo g1 (fun h1403 g2 => ?_) (fun h1403 g2 => ?_)
 ·subst h1403
  refine zk g2 (fun v1404 h1405 g3 => ?_)
  refine zk g3 (fun v1406 h1407 g4 => ?_)
  exact zqn (v1406, (w64 (s11_8 + 1))) [] [(37, 13, 3, .q (.d (.pin (za v1404))))] [(37, 1000011, (.nor, z8b p0 v3 s11_5 s11_8 true)), (37, 1000014, (.nor, z5b p0 v3 s11_5 s11_8 v1404 v1406))] g4 (ob (z2f k p0 v3 s11_5 s11_8 _ h1402) (ob (o_ia (e := za) 6 h1405 rfl) (ob (zcj k p0 v3 s11_5 s11_8 v1404 _ h1407) ob0))) (by kernel_rfl)
 ·subst h1403
  exact zqo [] [(37, 1000011, (.nor, z8b p0 v3 s11_5 s11_8 false))] g2 (ob (z2f k p0 v3 s11_5 s11_8 _ h1402) ob0) (by kernel_rfl)
noncomputable def ztw (p0 : zb) (s16_5 : Bool) (v3 v5 : zt1) (s16_10 : Int) (r : Bool) : TM := [(0, (.d (.agg (zd p0)))), (zsp 1), (2, (xb false)), (3, (xb s16_5)), (4, (xi v3.2)), (42, (xb false)), (6, (xi v5.2)), (84, (xb false)), (8, (xi s16_10)), (116, (xb r))]
noncomputable def z7b (p0 : zb) (v3 v5 : zt1) (s16_5 : Bool) (s16_10 : Int) (r : Bool) : St := ⟨(ztw p0 s16_5 v3 v5 s16_10 r), ⟨[(zc 1 (zd p0))], []⟩, []⟩
noncomputable def zYs (p0 : zb) (s16_5 : Bool) (v3 v5 : zt1) (s16_10 : Int) : TM := [(0, (.d (.agg (zd p0)))), (zsp 1), (2, (xb false)), (3, (xb s16_5)), (4, (xi v3.2)), (42, (xb false)), (6, (xi v5.2)), (84, (xb false)), (8, (xi s16_10))]
theorem z5f (k : Nat) (p0 : zb) (v3 v5 : zt1) (s16_5 : Bool) (s16_10 : Int) (r : Bool) (h : zKb k p0 v3 v5 s16_5 s16_10 = some r) : ev TE 37 (rgn TE 37 16) ⟨(zYs p0 s16_5 v3 v5 s16_10), ⟨[(zc 1 (zd p0))], []⟩, []⟩ = some (.nor, z7b p0 v3 v5 s16_5 s16_10 r) := by
 unfold zKb at h
 refine zo h (fun h2001 g1 => ?_) (fun h2001 g1 => ?_)
 ·exact zw (g := fun r => (Ex.nor, z7b p0 v3 v5 s16_5 s16_10 r)) g1 (zqe [(37, 16, 1, .q (xb true)), (37, 16, 5, .q (xi (p0.Apart.1.length : Int)))] [] (ob (o_b h2001) (ob (zq (aI 2) p0.Apart.1) ob0)) (by kernel_rfl))
 ·exact zw (g := fun r => (Ex.nor, z7b p0 v3 v5 s16_5 s16_10 r)) g1 (zqe [(37, 16, 1, .q (xb false))] [] (ob (o_b h2001) ob0) (by kernel_rfl))
noncomputable def ziw (p0 : zb) (r : Bool) (v3 v5 : zt1) (s16_10 : Int) : TM := z3s p0 r ++ [(4, (xi v3.2)), (42, (xb false)), (6, (xi v5.2)), (84, (xb false)), (8, (xi s16_10)), (116, (xb true))]
noncomputable def zUc (p0 : zb) (v3 v5 : zt1) (s16_5 : Bool) (s16_10 : Int) (r : Bool) : St := ⟨(ziw p0 r v3 v5 s16_10), ⟨[(zc 1 (zd p0))], []⟩, []⟩
theorem zmj (k : Nat) (p0 : zb) (v3 v5 : zt1) (s16_5 : Bool) (s16_10 : Int) (r : Bool) (h : zid k p0 v3 v5 s16_5 s16_10 = some r) : ev TE 37 (rgn TE 37 18) ⟨(zYs p0 s16_5 v3 v5 s16_10 ++ [(116, (xb true))]), ⟨[(zc 1 (zd p0))], []⟩, []⟩ = some (.nor, zUc p0 v3 v5 s16_5 s16_10 r) := by
 unfold zid at h
 refine zk h (fun v2101 h2102 g1 => ?_)
 refine zk g1 (fun v2103 h2104 g2 => ?_)
 refine zo g2 (fun h2105 g3 => ?_) (fun h2105 g3 => ?_)
 ·refine zk g3 (fun v2106 h2107 g4 => ?_)
  refine zk g4 (fun v2108 h2109 g5 => ?_)
  exact zw (g := fun r => (Ex.nor, zUc p0 v3 v5 s16_5 s16_10 r)) g5 (zqe [(37, 18, 3, .q (.d (.pin (aI 2 v2101)))), (37, 18, 8, .q (xi (p0.Letters.1.length : Int))), (37, 18, 10, .c (db v2103)), (37, 18, 11, .q (xb true)), (37, 18, 15, .q (.d (.pin (aI 2 v2106)))), (37, 18, 20, .q (xi (p0.Letters.1.length : Int))), (37, 18, 22, .c (db v2108))] [] (ob (o_ia (e := (aI 2)) 2 h2102 rfl) (ob (zq za p0.Letters.1) (ob (zH k (v2101 0) 0 (w64 ((p0.Letters.1.length : Int) - 1)) _ h2104) (ob (o_b h2105) (ob (o_ia (e := (aI 2)) 2 h2107 rfl) (ob (zq za p0.Letters.1) (ob (zH k (v2106 1) 0 (w64 ((p0.Letters.1.length : Int) - 1)) _ h2109) ob0))))))) (by kernel_rfl))
 ·exact zw (g := fun r => (Ex.nor, zUc p0 v3 v5 s16_5 s16_10 r)) g3 (zqe [(37, 18, 3, .q (.d (.pin (aI 2 v2101)))), (37, 18, 8, .q (xi (p0.Letters.1.length : Int))), (37, 18, 10, .c (db v2103)), (37, 18, 11, .q (xb false))] [] (ob (o_ia (e := (aI 2)) 2 h2102 rfl) (ob (zq za p0.Letters.1) (ob (zH k (v2101 0) 0 (w64 ((p0.Letters.1.length : Int) - 1)) _ h2104) (ob (o_b h2105) ob0)))) (by kernel_rfl))
noncomputable def zEj (p0 : zb) (v3 v5 : zt1) (s16_5 : Bool) (s16_10 : Int) : St := ⟨(zYs p0 s16_5 v3 v5 s16_10), ⟨[(zc 1 (zd p0))], []⟩, []⟩
noncomputable def zhw (p0 : zb) (r v3 v5 : zt1) : TM := [(0, (.d (.agg (zd p0)))), (zsp 1), (2, (xb false)), (3, (xb r.1)), (4, (xi v3.2)), (42, (xb false)), (6, (xi v5.2)), (84, (xb false)), (8, (xi r.2)), (116, (xb false))]
noncomputable def zXd (p0 : zb) (v3 v5 r : zt1) : St := ⟨(zhw p0 r v3 v5), ⟨[(zc 1 (zd p0))], []⟩, []⟩
noncomputable def zCj (p0 : zb) (v3 v5 : zt1) : (Bool × Int) → Ex × St := fun r => ((.exit 6), zXd p0 v3 v5 r)
theorem zij (k : Nat) (p0 : zb) (v3 v5 : zt1) (s16_5 : Bool) (s16_10 : Int) (x : (Bool × Int) ⊕ (Bool × Int)) (h : zMb k p0 v3 v5 s16_5 s16_10 = some x) : zL TE 37 (blk TE 37 6) (fun s : (Bool × Int) => zEj p0 v3 v5 s.1 s.2) (zCj p0 v3 v5) (s16_5, s16_10) x := by
 unfold zMb at h
 refine zk h (fun v1901 h1902 g1 => ?_)
 refine zo g1 (fun h1903 g2 => ?_) (fun h1903 g2 => ?_)
 ·subst h1903
  refine zk g2 (fun v1904 h1905 g3 => ?_)
  exact zqn (v1904, (w64 (s16_10 + 1))) [] [] [(37, 1000016, (.nor, z7b p0 v3 v5 s16_5 s16_10 true)), (37, 1000018, (.nor, zUc p0 v3 v5 s16_5 s16_10 v1904))] g3 (ob (z5f k p0 v3 v5 s16_5 s16_10 _ h1902) (ob (zmj k p0 v3 v5 s16_5 s16_10 _ h1905) ob0)) (by kernel_rfl)
 ·subst h1903
  exact zqo [] [(37, 1000016, (.nor, z7b p0 v3 v5 s16_5 s16_10 false))] g2 (ob (z5f k p0 v3 v5 s16_5 s16_10 _ h1902) ob0) (by kernel_rfl)
theorem z9g (k : Nat) (p0 : zb) (r : Bool) (h : zrd k p0 = some r) : zB TE (ev TE) 37 [(.agg (zd p0))] = some (zIh r) := by
 unfold zrd at h
 refine zk h (fun v1 h2 g1 => ?_)
 refine zk g1 (fun v3 h4 g2 => ?_)
 refine zk g2 (fun v5 h6 g3 => ?_)
 refine zk g3 (fun v7 h8 g4 => ?_)
 exact zr (g := zIh) g4 (zqc [] [(37, 1000001, (.nor, zmb p0 v1)), (37, 0, (.nor, zge p0 v3)), (37, 4, (.nor, z2d p0 v3 v5)), (37, 6, (.nor, zXd p0 v3 v5 v7))] (ob (zLj k p0 _ h2) (ob (zC (id := 0) (r' := (.nor, zge p0 v3)) (zHc (zBj k p0) k _ _ h4) rfl) (ob (zC (id := 4) (r' := (.nor, z2d p0 v3 v5)) (zHc (zfj k p0 v3) k _ _ h6) rfl) (ob (zC (id := 6) (r' := (.nor, zXd p0 v3 v5 v7)) (zHc (zij k p0 v3 v5) k _ _ h8) rfl) ob0)))) (by kernel_rfl))
theorem zlm (k : Nat) (p0 p1 : Int) (r : zUb) (h : zxh k p0 p1 = some r) : zB TE (ev TE) 46 [(di p0), (di p1)] = some (z4i r) := by
 unfold zxh at h
 exact zr (g := z4i) h (zqc [] [] ob0 (by kernel_rfl))
theorem zsc (k : Nat) (p0 p1 p2 p3 p4 : Int) (r : zm) (h : zRb k p0 p1 p2 p3 p4 = some r) : zB TE (ev TE) 81 [(di p0), (di p1), (di p2), (di p3), (di p4)] = some (zeh r) := by
 unfold zRb at h
 refine zk h (fun v1 h2 g1 => ?_)
 exact zr (g := zeh) g1 (zqc [(81, 1, 4, .c (.agg [(di v1.Low), (di v1.High)]))] [] (ob (zlm k p2 p3 _ h2) ob0) (by kernel_rfl))
theorem zj (k : Nat) (p0 : Int) (r : zb) (h : z8 k p0 = some r) : zB TE (ev TE) 50 [(di p0)] = some (z9h r) := by
 unfold z8 at h
 refine zk h (fun v1 h2 g1 => ?_)
 refine zk g1 (fun v3 h4 g2 => ?_)
 refine zk g2 (fun v5 h6 g3 => ?_)
 refine zk g3 (fun v7 h8 g4 => ?_)
 refine zk g4 (fun v9 h10 g5 => ?_)
 refine zk g5 (fun v11 h12 g6 => ?_)
 exact zr (g := z9h) g6 (zqr [(50, 1, 0, .c (.agg (za v1))), (50, 1, 1, .c (.agg (za v3))), (50, 1, 2, .c (.agg (za v5))), (50, 1, 3, .c (.agg (za v7))), (50, 1, 4, .c (.agg (za v9))), (50, 2, 2, .q (.rp 0 9 ([v1, v3, v5, v7, v9] : List zm).length (4 : Int).toNat 0)), (50, 2, 3, .q (.rp 0 9 ([v1, v3, v5, v7, v9] : List zm).length (4 : Int).toNat 4)), (50, 2, 4, .rs (rowO false 6 za (([v1, v3, v5, v7, v9] : List zm).set (4 : Int).toNat (⟨v11.Day, v11.Place, v11.Born, true, v11.Account⟩ : zm)) true)), (50, 2, 999, .nm [] [(3, 0, (([v1, v3, v5, v7, v9] : List zm).set (4 : Int).toNat (⟨v11.Day, v11.Place, v11.Born, true, v11.Account⟩ : zm)).length)])] [] [(.agg [(dl za (([v1, v3, v5, v7, v9] : List zm).set (4 : Int).toNat (⟨v11.Day, v11.Place, v11.Born, true, v11.Account⟩ : zm)) (rcap false (([v1, v3, v5, v7, v9] : List zm).set (4 : Int).toNat (⟨v11.Day, v11.Place, v11.Born, true, v11.Account⟩ : zm)))), (.sl [[(.sl [[(di 0)], [(di 5)]] .ex)], [(.sl [[(di 5)], [(di 0)]] .ex)]] .ex), (.sl [] .nil), (di p0)])] (ob (zsc k 10 0 50 60 7 _ h2) (ob (zsc k 12 1 40 55 0 _ h4) (ob (zsc k 20 0 56 70 0 _ h6) (ob (zsc k 30 1 50 58 7 _ h8) (ob (zsc k 40 0 30 45 0 _ h10) (ob (zqa 22 48 0 9 4 false 6 za ([v1, v3, v5, v7, v9] : List zm) true (by kernel_rfl) (by kernel_rfl) h12) (ob (zqf 60 (4, 1, false) 0 9 0 3 4 false 6 za ([v1, v3, v5, v7, v9] : List zm) true (by kernel_rfl) (by decide) h12) (ob (o_rs (b := false) (z := 6) (e := za) (l := ([v1, v3, v5, v7, v9] : List zm)) (o := 4) (n := 1) (ds := [(db true)]) (i := 4) (y' := (⟨v11.Day, v11.Place, v11.Born, true, v11.Account⟩ : zm)) h12 (Nat.le_of_ble_eq_true rfl) rfl) (ob (show ([v1, v3, v5, v7, v9] : List zm).length = (([v1, v3, v5, v7, v9] : List zm).set (4 : Int).toNat (⟨v11.Day, v11.Place, v11.Born, true, v11.Account⟩ : zm)).length by simp) (ob (show zmc ⟨[(9, (rowO false 6 za (([v1, v3, v5, v7, v9] : List zm).set (4 : Int).toNat (⟨v11.Day, v11.Place, v11.Born, true, v11.Account⟩ : zm)) true))], []⟩ _ = _ from (o_s1 (x := (.agg [(.row 0 9 (([v1, v3, v5, v7, v9] : List zm).set (4 : Int).toNat (⟨v11.Day, v11.Place, v11.Born, true, v11.Account⟩ : zm)).length), (.d (.sl [[(.sl [[(di 0)], [(di 5)]] .ex)], [(.sl [[(di 5)], [(di 0)]] .ex)]] .ex)), (.d (.sl [] .nil)), (xi p0)])) (z6r (o_c1 (z5l false 6 za (([v1, v3, v5, v7, v9] : List zm).set (4 : Int).toNat (⟨v11.Day, v11.Place, v11.Born, true, v11.Account⟩ : zm)) true rfl) (o_cd (o_cd (o_cd o_c0))))) o_s0)) ob0)))))))))) (by kernel_rfl))
noncomputable def zXv (p0 : zb) (s1_6 : Int) : TM := [(0, (.d (.agg (zd p0)))), (zsp 1), (zsp 2), (zsp 3), (10, (.d (dl (aI 2) p0.Apart.1 p0.Apart.2))), (11, (xi (p0.Apart.1.length : Int))), (12, (xi s1_6))]
noncomputable def z3l (p0 : zb) (s1_6 : Int) (s1_16 : (List (zl × Bool))) : St := ⟨(zXv p0 s1_6), ⟨[(zc 1 (zd p0)), (2, (.cells [(.d (.sl [] .nil)), (.d (.sl [] .nil)), (.d (.sl [] .nil)), (xi 0), (.d (.mp []))])), (7, (.map (em (fun k => D.agg (zh k)) (fun b => D.b b) s1_16))), (3, (.cells (((zd p0).map .d) ++ [(.map 0 7)])))], []⟩, []⟩
noncomputable def zKw (p0 : zb) (r : (Int × (List (zl × Bool)))) : TM := [(0, (.d (.agg (zd p0)))), (zsp 1), (zsp 2), (zsp 3), (10, (.d (dl (aI 2) p0.Apart.1 p0.Apart.2))), (11, (xi (p0.Apart.1.length : Int))), (12, (xi r.1)), (13, (xb false))]
noncomputable def zrf (p0 : zb) (r : (Int × (List (zl × Bool)))) : St := ⟨(zKw p0 r), ⟨[(zc 1 (zd p0)), (2, (.cells [(.d (.sl [] .nil)), (.d (.sl [] .nil)), (.d (.sl [] .nil)), (xi 0), (.d (.mp []))])), (7, (.map (em (fun k => D.agg (zh k)) (fun b => D.b b) r.2))), (3, (.cells (((zd p0).map .d) ++ [(.map 0 7)])))], []⟩, []⟩
noncomputable def zXl (p0 : zb) : (Int × (List (zl × Bool))) → Ex × St := fun r => ((.exit 0), zrf p0 r)
theorem zul (k : Nat) (p0 : zb) (s1_6 : Int) (s1_16 : (List (zl × Bool))) (x : (Int × (List (zl × Bool))) ⊕ (Int × (List (zl × Bool)))) (h : zId k p0 s1_6 s1_16 = some x) : zL TE 52 (blk TE 52 0) (fun s : (Int × (List (zl × Bool))) => z3l p0 s.1 s.2) (zXl p0) (s1_6, s1_16) x := by
 unfold zId at h
 refine zo h (fun h201 g1 => ?_) (fun h201 g1 => ?_)
 ·refine zk g1 (fun v202 h203 g2 => ?_)
  exact zqn ((w64 (s1_6 + 1)), (mset zp (⟨(v202 0), (v202 1)⟩ : zl) true s1_16)) [] [(52, 3, 0, .q (xb true)), (52, 4, 0, .q (.d (.pin (aI 2 v202)))), (52, 5, 7, .mp (em (fun k => D.agg (zh k)) (fun b => D.b b) (mset zp (⟨(v202 0), (v202 1)⟩ : zl) true s1_16)))] [] g2 (ob (o_b h201) (ob (o_ia (e := (aI 2)) 2 h203 rfl) (ob (znq (ek := (fun k => D.agg (zh k))) (evl := (fun b => D.b b)) (q := zp) (fun _ _ => rfl) (⟨(v202 0), (v202 1)⟩ : zl) true s1_16) ob0))) (by kernel_rfl)
 ·exact zqo [(52, 3, 0, .q (xb false))] [] g1 (ob (o_b h201) ob0) (by kernel_rfl)
theorem zjb (k : Nat) (p0 : zb) (r : zi) (h : zHb k p0 = some r) : zB TE (ev TE) 52 [(.agg (zd p0))] = some (zqj r) := by
 unfold zHb at h
 refine zk h (fun v1 h2 g1 => ?_)
 exact zr (g := zqj) g1 (zqc [(52, 2, 2, .q (xi (p0.Apart.1.length : Int)))] [(52, 0, (.nor, zrf p0 v1))] (ob (zq (aI 2) p0.Apart.1) (ob (zC (id := 0) (r' := (.nor, zrf p0 v1)) (zHc (zul k p0) k _ _ h2) rfl) ob0)) (by kernel_rfl))
theorem zTc (k : Nat) (r : zt2) (h : zig k = some r) : zB TE (ev TE) 82 [] = some (zoj r) := by
 unfold zig at h
 exact zr (g := zoj) h (zqc [] [] ob0 (by kernel_rfl))
noncomputable def z3v (p0 : zt2) (s1_5 : (List Int)) (s1_3 : Int) : TM := [(0, (.d (.agg (aB 8 p0)))), (zsp 1), (2, (.d (.sl [] .nil))), (3, (.row 0 3 s1_5.length)), (6, (.d (.agg (aB 8 p0)))), (7, (xi s1_3))]
noncomputable def zej (p0 : zt2) (s1_3 : Int) (s1_5 : (List Int)) : St := ⟨(z3v p0 s1_5 s1_3), ⟨[(zc 1 (aB 8 p0)), (3, (rowO true 1 eI s1_5 true))], []⟩, []⟩
noncomputable def z1v (p0 : zt2) (r : (Int × (List Int))) : TM := [(0, (.d (.agg (aB 8 p0)))), (zsp 1), (2, (.d (.sl [] .nil))), (3, (.row 0 3 r.2.length)), (6, (.d (.agg (aB 8 p0)))), (7, (xi r.1)), (8, (xb false))]
noncomputable def zLd (p0 : zt2) (r : (Int × (List Int))) : St := ⟨(z1v p0 r), ⟨[(zc 1 (aB 8 p0)), (3, (rowO true 1 eI r.2 true))], []⟩, []⟩
noncomputable def zaj (p0 : zt2) : (Int × (List Int)) → Ex × St := fun r => ((.exit 0), zLd p0 r)
theorem zWi (k : Nat) (p0 : zt2) (s1_3 : Int) (s1_5 : (List Int)) (x : (Int × (List Int)) ⊕ (Int × (List Int))) (h : zfc k p0 s1_3 s1_5 = some x) : zL TE 110 (blk TE 110 0) (fun s : (Int × (List Int)) => zej p0 s.1 s.2) (zaj p0) (s1_3, s1_5) x := by
 unfold zfc at h
 refine zo h (fun h301 g1 => ?_) (fun h301 g1 => ?_)
 ·refine zDb g1 (fun h302 g2 => ?_)
  refine zo g2 (fun h303 g3 => ?_) (fun h303 g3 => ?_)
  ·refine zDb g3 (fun h304 g4 => ?_)
   exact zqn ((w64 (s1_3 + 1)), (s1_5 ++ [s1_3])) [3] [(110, 3, 0, .q (xb true)), (110, 4, 1, .q (xb (p0 s1_3.toNat))), (110, 5, 0, .q (xb true)), (110, 6, 3, .ap (s1_5 ++ [s1_3]).length (rowO true 1 eI (s1_5 ++ [s1_3]) true))] [] g4 (ob (o_b h301) (ob (zLt 8 p0 s1_3 h302) (ob (o_b h303) (ob (o_ap (b := true) (z := 1) (e := eI) (l := s1_5) (w := true) s1_3 (fun _ => rfl) h304) (ob (zmg true 1 eI (s1_5 ++ [s1_3]) true) ob0))))) (by kernel_rfl)
  ·exact zqn ((w64 (s1_3 + 1)), s1_5) [3] [(110, 3, 0, .q (xb true)), (110, 4, 1, .q (xb (p0 s1_3.toNat))), (110, 5, 0, .q (xb false))] [] g3 (ob (o_b h301) (ob (zLt 8 p0 s1_3 h302) (ob (o_b h303) (ob (zmg true 1 eI s1_5 true) ob0)))) (by kernel_rfl)
 ·exact zqo [(110, 3, 0, .q (xb false))] [] g1 (ob (o_b h301) ob0) (by kernel_rfl)
theorem z9c (k : Nat) (p0 : zt2) (r : (SL Int)) (h : zGb k p0 = some r) : zB TE (ev TE) 110 [(.agg (aB 8 p0))] = some (z3g r) := by
 unfold zGb at h
 refine zk h (fun v1 h2 g1 => ?_)
 exact zr (g := z3g) g1 (zqr [] [(110, 0, (.nor, zLd p0 v1))] [(dl eI v1.2 (rcap true v1.2))] (ob (zC (id := 0) (r' := (.nor, zLd p0 v1)) (zHc (zWi k p0) k _ _ h2) rfl) (ob (show zmc ⟨[(3, (rowO true 1 eI v1.2 true))], []⟩ _ = _ from (o_s1 (x := (.row 0 3 v1.2.length)) (zmp true 1 eI v1.2 true rfl) o_s0)) ob0)) (by kernel_rfl))
noncomputable def zMw (s1_0 : Int) (p1 : (SL Int)) (s1_5 : Int) : TM := [(0, (xi s1_0)), (1, (.d (dl eI p1.1 p1.2))), (4, (xi 0)), (7, (.d (dl eI p1.1 p1.2))), (8, (xi (p1.1.length : Int))), (9, (xi s1_5))]
noncomputable def zgj (p1 : (SL Int)) (s1_0 s1_5 : Int) : St := ⟨(zMw s1_0 p1 s1_5), ⟨[], []⟩, []⟩
noncomputable def zww (r : zt7) (p1 : (SL Int)) : TM := [(0, (xi r.1)), (1, (.d (dl eI p1.1 p1.2))), (4, (xi 0)), (7, (.d (dl eI p1.1 p1.2))), (8, (xi (p1.1.length : Int))), (9, (xi r.2)), (10, (xb false))]
noncomputable def zGd (p1 : (SL Int)) (r : zt7) : St := ⟨(zww r p1), ⟨[], []⟩, []⟩
noncomputable def zdj (p1 : (SL Int)) : (Int × Int) → Ex × St := fun r => ((.exit 0), zGd p1 r)
theorem zTi (k : Nat) (p1 : (SL Int)) (s1_0 s1_5 : Int) (x : (Int × Int) ⊕ (Int × Int)) (h : zlb k p1 s1_0 s1_5 = some x) : zL TE 76 (blk TE 76 0) (fun s : (Int × Int) => zgj p1 s.1 s.2) (zdj p1) (s1_0, s1_5) x := by
 unfold zlb at h
 refine zo h (fun h201 g1 => ?_) (fun h201 g1 => ?_)
 ·refine zk g1 (fun v202 h203 g2 => ?_)
  exact zqn ((if v202 > s1_0 then v202 else s1_0), (w64 (s1_5 + 1))) [] [(76, 2, 0, .q (xb true)), (76, 3, 0, .q (.d (.pin [(di v202)])))] [] g2 (ob (o_b h201) (ob (o_ia (e := eI) 1 h203 rfl) ob0)) (by kernel_rfl)
 ·exact zqo [(76, 2, 0, .q (xb false))] [] g1 (ob (o_b h201) ob0) (by kernel_rfl)
theorem z2c (k : Nat) (p0 : Int) (p1 : (SL Int)) (r : Int) (h : zqb k p0 p1 = some r) : zB TE (ev TE) 76 [(di p0), (dl eI p1.1 p1.2)] = some (z2g r) := by
 unfold zqb at h
 refine zk h (fun v1 h2 g1 => ?_)
 exact zr (g := z2g) g1 (zqc [(76, 1, 1, .q (xi (p1.1.length : Int)))] [(76, 0, (.nor, zGd p1 v1))] (ob (zq eI p1.1) (ob (zC (id := 0) (r' := (.nor, zGd p1 v1)) (zHc (zTi k p1) k _ _ h2) rfl) ob0)) (by kernel_rfl))
noncomputable def zRw (p0 : zi) (p1 : zt2) (p2 : Int) (v3 : (SL Int)) (s1_10 : Int) : TM := [(0, (.d (.agg (zn p0)))), (1, (.d (.agg (aB 8 p1)))), (2, (xi p2)), (zsp 3), (zsp 4), (6, (xb false)), (zsp 7), (19, (.d (dl eI v3.1 v3.2))), (20, (xi (v3.1.length : Int))), (21, (xi s1_10))]
noncomputable def zBk (p0 : zi) (p1 : zt2) (p2 : Int) (v3 : (SL Int)) (s1_10 s1_17 s1_18 : Int) : St := ⟨(zRw p0 p1 p2 v3 s1_10), ⟨[(zc 3 (zn p0)), (zc 4 (aB 8 p1)), (7, (.cells [(xi s1_17), (xi s1_18)]))], []⟩, []⟩
noncomputable def zfw (p0 : zi) (p1 : zt2) (p2 : Int) (v3 : (SL Int)) (r : (Int × Int × Int)) : TM := [(0, (.d (.agg (zn p0)))), (1, (.d (.agg (aB 8 p1)))), (2, (xi p2)), (zsp 3), (zsp 4), (6, (xb false)), (zsp 7), (19, (.d (dl eI v3.1 v3.2))), (20, (xi (v3.1.length : Int))), (21, (xi r.1)), (22, (xb false))]
noncomputable def zCe (p0 : zi) (p1 : zt2) (p2 : Int) (v3 : (SL Int)) (r : (Int × Int × Int)) : St := ⟨(zfw p0 p1 p2 v3 r), ⟨[(zc 3 (zn p0)), (zc 4 (aB 8 p1)), (7, (.cells [(xi r.2.1), (xi r.2.2)]))], []⟩, []⟩
noncomputable def zzk (p0 : zi) (p1 : zt2) (p2 : Int) (v3 : (SL Int)) : (Int × Int × Int) → Ex × St := fun r => ((.exit 0), zCe p0 p1 p2 v3 r)
theorem z2j (k : Nat) (p0 : zi) (p1 : zt2) (p2 : Int) (v3 : (SL Int)) (s1_10 s1_17 s1_18 : Int) (x : (Int × Int × Int) ⊕ (Int × Int × Int)) (h : zNc k p0 p1 p2 v3 s1_10 s1_17 s1_18 = some x) : zL TE 112 (blk TE 112 0) (fun s : (Int × Int × Int) => zBk p0 p1 p2 v3 s.1 s.2.1 s.2.2) (zzk p0 p1 p2 v3) (s1_10, s1_17, s1_18) x := by
 unfold zNc at h
 refine zo h (fun h201 g1 => ?_) (fun h201 g1 => ?_)
 ·refine zk g1 (fun v202 h203 g2 => ?_)
  refine zk g2 (fun v204 h205 g3 => ?_)
  refine zk g3 (fun v206 h207 g4 => ?_)
  refine zk g4 (fun v208 h209 g5 => ?_)
  exact zqn ((w64 (s1_10 + 1)), v206, (w64 (0 - v208))) [] [(112, 3, 0, .q (xb true)), (112, 4, 0, .q (.d (.pin [(di v202)]))), (112, 5, 4, .q (.d (.pin (za v204)))), (112, 6, 5, .c (di v206)), (112, 6, 13, .c (di v208))] [] g5 (ob (o_b h201) (ob (o_ia (e := eI) 1 h203 rfl) (ob (o_ia (e := za) 6 h205 rfl) (ob (z2c k s1_17 ([v204.Born.Low], .ex) _ h207) (ob (z2c k (w64 (0 - s1_18)) ([(w64 (0 - v204.Born.High))], .ex) _ h209) ob0))))) (by kernel_rfl)
 ·exact zqo [(112, 3, 0, .q (xb false))] [] g1 (ob (o_b h201) ob0) (by kernel_rfl)
theorem zHh (k : Nat) (p0 : zi) (p1 : zt2) (p2 : Int) (r : Bool) (h : zMd k p0 p1 p2 = some r) : zB TE (ev TE) 112 [(.agg (zn p0)), (.agg (aB 8 p1)), (di p2)] = some (zfi r) := by
 unfold zMd at h
 refine zk h (fun v1 h2 g1 => ?_)
 refine zk g1 (fun v3 h4 g2 => ?_)
 refine zk g2 (fun v5 h6 g3 => ?_)
 exact zr (g := zfi) g3 (zqc [(112, 1, 4, .q (.d (.pin (za v1)))), (112, 2, 1, .c (dl eI v3.1 v3.2)), (112, 2, 2, .q (xi (v3.1.length : Int)))] [(112, 0, (.nor, zCe p0 p1 p2 v3 v5))] (ob (o_ia (e := za) 6 h2 rfl) (ob (z9c k p1 _ h4) (ob (zq eI v3.1) (ob (zC (id := 0) (r' := (.nor, zCe p0 p1 p2 v3 v5)) (zGm (z2j k p0 p1 p2 v3) k _ _ h6) rfl) ob0)))) (by kernel_rfl))
theorem zCh (k : Nat) (p0 : zi) (p1 : zt2) (r : Int) (h : zJc k p0 p1 = some r) : zB TE (ev TE) 116 [(.agg (zn p0)), (.agg (aB 8 p1))] = some (z4h r) := by
 unfold zJc at h
 refine zk h (fun v1 h2 g1 => ?_)
 refine zk g1 (fun v3 h4 g2 => ?_)
 exact zr (g := z4h) g2 (zqc [(116, 1, 1, .c (dl eI v1.1 v1.2)), (116, 2, 2, .q (xi (v1.1.length : Int))), (116, 2, 4, .q (.d (.pin [(di v3)])))] [] (ob (z9c k p1 _ h2) (ob (zq eI v1.1) (ob (o_ia (e := eI) 1 h4 rfl) ob0))) (by kernel_rfl))
theorem zOh (k : Nat) (p0 : zi) (p1 : zt2) (p2 : Int) (r : Bool) (h : z7d k p0 p1 p2 = some r) : zB TE (ev TE) 113 [(.agg (zn p0)), (.agg (aB 8 p1)), (di p2)] = some (zui r) := by
 unfold z7d at h
 refine zk h (fun v1 h2 g1 => ?_)
 refine zk g1 (fun v3 h4 g2 => ?_)
 refine zk g2 (fun v5 h6 g3 => ?_)
 refine zk g3 (fun v7 h8 g4 => ?_)
 refine zk g4 (fun v9 h10 g5 => ?_)
 exact zr (g := zui) g5 (zqc [(113, 1, 5, .c (di v1)), (113, 1, 6, .q (.d (.pin (za v3)))), (113, 1, 12, .q (.d (.pin (za v5)))), (113, 2, 10, .q (.d (.pin [(dl eI v7.1 v7.2)]))), (113, 2, 14, .q (.d (.pin [(di v9)])))] [] (ob (zCh k p0 p1 _ h2) (ob (o_ia (e := za) 6 h4 rfl) (ob (o_ia (e := za) 6 h6 rfl) (ob (o_ia (e := (eL eI)) 1 h8 rfl) (ob (o_ia (e := eI) 1 h10 rfl) ob0))))) (by kernel_rfl))
theorem zdh (k : Nat) (p0 : zi) (p1 : zt2) (p2 : Int) (r : Bool) (h : zmd k p0 p1 p2 = some r) : zB TE (ev TE) 114 [(.agg (zn p0)), (.agg (aB 8 p1)), (di p2)] = some (zJh r) := by
 unfold zmd at h
 refine zk h (fun v1 h2 g1 => ?_)
 refine zk g1 (fun v3 h4 g2 => ?_)
 exact zr (g := zJh) g2 (zqc [(114, 1, 5, .c (di v1)), (114, 1, 6, .q (.d (.pin (za v3))))] [] (ob (zCh k p0 p1 _ h2) (ob (o_ia (e := za) 6 h4 rfl) ob0)) (by kernel_rfl))
noncomputable def zdw (p0 : zi) (p1 : zt2) (p2 : Int) (v1 : (SL Int)) (s1_10 : Int) : TM := [(0, (.d (.agg (zn p0)))), (1, (.d (.agg (aB 8 p1)))), (2, (xi p2)), (zsp 3), (zsp 4), (6, (xb false)), (10, (.d (dl eI v1.1 v1.2))), (11, (xi (v1.1.length : Int))), (12, (xi s1_10))]
noncomputable def zak (p0 : zi) (p1 : zt2) (p2 : Int) (v1 : (SL Int)) (s1_10 : Int) : St := ⟨(zdw p0 p1 p2 v1 s1_10), ⟨[(zc 3 (zn p0)), (zc 4 (aB 8 p1))], []⟩, []⟩
noncomputable def zVv (p0 : zi) (p1 : zt2) (p2 : Int) (v1 : (SL Int)) (r : zt7) : TM := [(0, (.d (.agg (zn p0)))), (1, (.d (.agg (aB 8 p1)))), (2, (xi p2)), (zsp 3), (zsp 4), (6, (xb false)), (10, (.d (dl eI v1.1 v1.2))), (11, (xi (v1.1.length : Int))), (12, (xi r.1)), (13, (xb true)), (8, (xi r.2)), (21, (xb true))]
noncomputable def zre (p0 : zi) (p1 : zt2) (p2 : Int) (v1 : (SL Int)) (r : zt7) : St := ⟨(zVv p0 p1 p2 v1 r), ⟨[(zc 3 (zn p0)), (zc 4 (aB 8 p1))], []⟩, []⟩
noncomputable def zIw (p0 : zi) (p1 : zt2) (p2 : Int) (v1 : (SL Int)) (r : Int) : TM := [(0, (.d (.agg (zn p0)))), (1, (.d (.agg (aB 8 p1)))), (2, (xi p2)), (zsp 3), (zsp 4), (6, (xb false)), (10, (.d (dl eI v1.1 v1.2))), (11, (xi (v1.1.length : Int))), (12, (xi r)), (13, (xb false))]
noncomputable def zhe (p0 : zi) (p1 : zt2) (p2 : Int) (v1 : (SL Int)) (r : Int) : St := ⟨(zIw p0 p1 p2 v1 r), ⟨[(zc 3 (zn p0)), (zc 4 (aB 8 p1))], []⟩, []⟩
noncomputable def z3j (p0 : zi) (p1 : zt2) (p2 : Int) (v1 : (SL Int)) : ((Int × Int) ⊕ Int) → Ex × St := Sum.elim (fun r => (.ret, zre p0 p1 p2 v1 r)) (fun r => ((.exit 0), zhe p0 p1 p2 v1 r))
theorem zhg (k : Nat) (p0 : zi) (p1 : zt2) (p2 : Int) (v1 : (SL Int)) (s1_10 : Int) (x : Int ⊕ ((Int × Int) ⊕ Int)) (h : zGc k p0 p1 p2 v1 s1_10 = some x) : zL TE 115 (blk TE 115 0) (fun s : Int => zak p0 p1 p2 v1 s) (z3j p0 p1 p2 v1) s1_10 x := by
 unfold zGc at h
 refine zo h (fun h201 g1 => ?_) (fun h201 g1 => ?_)
 ·refine zk g1 (fun v202 h203 g2 => ?_)
  refine zo g2 (fun h204 g3 => ?_) (fun h204 g3 => ?_)
  ·exact zqo [(115, 2, 0, .q (xb true)), (115, 3, 0, .q (.d (.pin [(di v202)]))), (115, 4, 5, .q (xb true))] [] g3 (ob (o_b h201) (ob (o_ia (e := eI) 1 h203 rfl) (ob (o_tr (z0j (ek := (fun k => D.agg (zh k))) (evl := (fun b => D.b b)) (q := zp) (fun _ _ => rfl) (⟨v202, p2⟩ : zl) p0.apart false) h204) ob0))) (by kernel_rfl)
  ·exact zqn (w64 (s1_10 + 1)) [] [(115, 2, 0, .q (xb true)), (115, 3, 0, .q (.d (.pin [(di v202)]))), (115, 4, 5, .q (xb false))] [] g3 (ob (o_b h201) (ob (o_ia (e := eI) 1 h203 rfl) (ob (o_tr (z0j (ek := (fun k => D.agg (zh k))) (evl := (fun b => D.b b)) (q := zp) (fun _ _ => rfl) (⟨v202, p2⟩ : zl) p0.apart false) h204) ob0))) (by kernel_rfl)
 ·exact zqo [(115, 2, 0, .q (xb false))] [] g1 (ob (o_b h201) ob0) (by kernel_rfl)
theorem zbh (k : Nat) (p0 : zi) (p1 : zt2) (p2 : Int) (r : Bool) (h : znd k p0 p1 p2 = some r) : zB TE (ev TE) 115 [(.agg (zn p0)), (.agg (aB 8 p1)), (di p2)] = some (zwf r) := by
 unfold znd at h
 refine zk h (fun v1 h2 g1 => ?_)
 refine zk g1 (fun v3 h4 g2 => ?_)
 refine zqd g2 (fun v6 hh g3_0 => ?_) (fun v6 hh g3_0 => ?_)
 ·subst hh
  exact zr (g := zwf) g3_0 (zqc [(115, 1, 1, .c (dl eI v1.1 v1.2)), (115, 1, 2, .q (xi (v1.1.length : Int)))] [(115, 0, (.ret, zre p0 p1 p2 v1 v6))] (ob (z9c k p1 _ h2) (ob (zq eI v1.1) (ob (zC (id := 0) (r' := (.ret, zre p0 p1 p2 v1 v6)) (zYd (zhg k p0 p1 p2 v1) k _ _ h4) rfl) ob0))) (by kernel_rfl))
 ·subst hh
  exact zr (g := zwf) g3_0 (zqc [(115, 1, 1, .c (dl eI v1.1 v1.2)), (115, 1, 2, .q (xi (v1.1.length : Int)))] [(115, 0, (.nor, zhe p0 p1 p2 v1 v6))] (ob (z9c k p1 _ h2) (ob (zq eI v1.1) (ob (zC (id := 0) (r' := (.nor, zhe p0 p1 p2 v1 v6)) (zYd (zhg k p0 p1 p2 v1) k _ _ h4) rfl) ob0))) (by kernel_rfl))
noncomputable def zpw (p0 : zi) (p1 : zt2) (p2 s1_9 : Int) : TM := [(0, (.d (.agg (zn p0)))), (1, (.d (.agg (aB 8 p1)))), (2, (xi p2)), (zsp 3), (zsp 4), (6, (xb false)), (11, (xb false)), (12, (.d (.agg [(.fn 112 [] []), (.fn 113 [] []), (.fn 114 [] []), (.fn 115 [] [])]))), (13, (xi s1_9))]
noncomputable def zVk (p0 : zi) (p1 : zt2) (p2 s1_9 : Int) : St := ⟨(zpw p0 p1 p2 s1_9), ⟨[(zc 3 (zn p0)), (zc 4 (aB 8 p1))], []⟩, []⟩
noncomputable def zmw (p0 : zi) (p1 : zt2) (p2 r : Int) : TM := [(0, (.d (.agg (zn p0)))), (1, (.d (.agg (aB 8 p1)))), (2, (xi p2)), (zsp 3), (zsp 4), (6, (xb false)), (11, (xb false)), (12, (.d (.agg [(.fn 112 [] []), (.fn 113 [] []), (.fn 114 [] []), (.fn 115 [] [])]))), (13, (xi r)), (14, (xb true)), (8, (.d (.fn 112 [] []))), (21, (xb true))]
noncomputable def zMe (p0 : zi) (p1 : zt2) (p2 r : Int) : St := ⟨(zmw p0 p1 p2 r), ⟨[(zc 3 (zn p0)), (zc 4 (aB 8 p1))], []⟩, []⟩
noncomputable def zWw (p0 : zi) (p1 : zt2) (p2 r : Int) : TM := [(0, (.d (.agg (zn p0)))), (1, (.d (.agg (aB 8 p1)))), (2, (xi p2)), (zsp 3), (zsp 4), (6, (xb false)), (11, (xb false)), (12, (.d (.agg [(.fn 112 [] []), (.fn 113 [] []), (.fn 114 [] []), (.fn 115 [] [])]))), (13, (xi r)), (14, (xb true)), (8, (.d (.fn 113 [] []))), (21, (xb true))]
noncomputable def zNe (p0 : zi) (p1 : zt2) (p2 r : Int) : St := ⟨(zWw p0 p1 p2 r), ⟨[(zc 3 (zn p0)), (zc 4 (aB 8 p1))], []⟩, []⟩
noncomputable def z2w (p0 : zi) (p1 : zt2) (p2 r : Int) : TM := [(0, (.d (.agg (zn p0)))), (1, (.d (.agg (aB 8 p1)))), (2, (xi p2)), (zsp 3), (zsp 4), (6, (xb false)), (11, (xb false)), (12, (.d (.agg [(.fn 112 [] []), (.fn 113 [] []), (.fn 114 [] []), (.fn 115 [] [])]))), (13, (xi r)), (14, (xb true)), (8, (.d (.fn 114 [] []))), (21, (xb true))]
noncomputable def zKe (p0 : zi) (p1 : zt2) (p2 r : Int) : St := ⟨(z2w p0 p1 p2 r), ⟨[(zc 3 (zn p0)), (zc 4 (aB 8 p1))], []⟩, []⟩
noncomputable def z0v (p0 : zi) (p1 : zt2) (p2 r : Int) : TM := [(0, (.d (.agg (zn p0)))), (1, (.d (.agg (aB 8 p1)))), (2, (xi p2)), (zsp 3), (zsp 4), (6, (xb false)), (11, (xb false)), (12, (.d (.agg [(.fn 112 [] []), (.fn 113 [] []), (.fn 114 [] []), (.fn 115 [] [])]))), (13, (xi r)), (14, (xb true)), (8, (.d (.fn 115 [] []))), (21, (xb true))]
noncomputable def zJe (p0 : zi) (p1 : zt2) (p2 r : Int) : St := ⟨(z0v p0 p1 p2 r), ⟨[(zc 3 (zn p0)), (zc 4 (aB 8 p1))], []⟩, []⟩
noncomputable def z0w (p0 : zi) (p1 : zt2) (p2 r : Int) : TM := [(0, (.d (.agg (zn p0)))), (1, (.d (.agg (aB 8 p1)))), (2, (xi p2)), (zsp 3), (zsp 4), (6, (xb false)), (11, (xb false)), (12, (.d (.agg [(.fn 112 [] []), (.fn 113 [] []), (.fn 114 [] []), (.fn 115 [] [])]))), (13, (xi r)), (14, (xb false))]
noncomputable def zHe (p0 : zi) (p1 : zt2) (p2 r : Int) : St := ⟨(z0w p0 p1 p2 r), ⟨[(zc 3 (zn p0)), (zc 4 (aB 8 p1))], []⟩, []⟩
noncomputable def zZk (p0 : zi) (p1 : zt2) (p2 : Int) : (Int ⊕ (Int ⊕ (Int ⊕ (Int ⊕ Int)))) → Ex × St := Sum.elim (fun r => (.ret, zMe p0 p1 p2 r)) (Sum.elim (fun r => (.ret, zNe p0 p1 p2 r)) (Sum.elim (fun r => (.ret, zKe p0 p1 p2 r)) (Sum.elim (fun r => (.ret, zJe p0 p1 p2 r)) (fun r => ((.exit 0), zHe p0 p1 p2 r)))))
theorem ztc (k : Nat) (p0 : zi) (p1 : zt2) (p2 s1_9 : Int) (x : Int ⊕ (Int ⊕ (Int ⊕ (Int ⊕ (Int ⊕ Int))))) (h : zle k p0 p1 p2 s1_9 = some x) : zL TE 53 (blk TE 53 0) (fun s : Int => zVk p0 p1 p2 s) (zZk p0 p1 p2) s1_9 x := by
 unfold zle at h
 refine zo h (fun h201 g1 => ?_) (fun h201 g1 => ?_)
 ·refine zo g1 (fun h202 g2 => ?_) (fun h202 g2 => ?_)
  ·refine zk g2 (fun v203 h204 g3 => ?_)
   refine zo g3 (fun h205 g4 => ?_) (fun h205 g4 => ?_)
   ·exact zqo [(53, 4, 0, .q (xb true)), (53, 5, 0, .q (.d (.fn 112 [] []))), (53, 6, 4, .c (db v203)), (53, 6, 5, .q (xb true))] [] g4 (ob (o_b h201) (ob (zLk [(.fn 112 [] []), (.fn 113 [] []), (.fn 114 [] []), (.fn 115 [] [])] 4 1 false (j := 0) (eq_of_beq h202) (by decide)) (ob (zHh k p0 p1 p2 _ h204) (ob (o_b h205) ob0)))) (by kernel_rfl)
   ·exact zqn (w64 (s1_9 + 1)) [] [(53, 4, 0, .q (xb true)), (53, 5, 0, .q (.d (.fn 112 [] []))), (53, 6, 4, .c (db v203)), (53, 6, 5, .q (xb false))] [] g4 (ob (o_b h201) (ob (zLk [(.fn 112 [] []), (.fn 113 [] []), (.fn 114 [] []), (.fn 115 [] [])] 4 1 false (j := 0) (eq_of_beq h202) (by decide)) (ob (zHh k p0 p1 p2 _ h204) (ob (o_b h205) ob0)))) (by kernel_rfl)
  ·refine zo g2 (fun h203 g3 => ?_) (fun h203 g3 => ?_)
   ·refine zk g3 (fun v204 h205 g4 => ?_)
    refine zo g4 (fun h206 g5 => ?_) (fun h206 g5 => ?_)
    ·exact zqo [(53, 4, 0, .q (xb true)), (53, 5, 0, .q (.d (.fn 113 [] []))), (53, 6, 4, .c (db v204)), (53, 6, 5, .q (xb true))] [] g5 (ob (o_b h201) (ob (zLk [(.fn 112 [] []), (.fn 113 [] []), (.fn 114 [] []), (.fn 115 [] [])] 4 1 false (j := 1) (eq_of_beq h203) (by decide)) (ob (zOh k p0 p1 p2 _ h205) (ob (o_b h206) ob0)))) (by kernel_rfl)
    ·exact zqn (w64 (s1_9 + 1)) [] [(53, 4, 0, .q (xb true)), (53, 5, 0, .q (.d (.fn 113 [] []))), (53, 6, 4, .c (db v204)), (53, 6, 5, .q (xb false))] [] g5 (ob (o_b h201) (ob (zLk [(.fn 112 [] []), (.fn 113 [] []), (.fn 114 [] []), (.fn 115 [] [])] 4 1 false (j := 1) (eq_of_beq h203) (by decide)) (ob (zOh k p0 p1 p2 _ h205) (ob (o_b h206) ob0)))) (by kernel_rfl)
   ·refine zo g3 (fun h204 g4 => ?_) (fun h204 g4 => ?_)
    ·refine zk g4 (fun v205 h206 g5 => ?_)
     refine zo g5 (fun h207 g6 => ?_) (fun h207 g6 => ?_)
     ·exact zqo [(53, 4, 0, .q (xb true)), (53, 5, 0, .q (.d (.fn 114 [] []))), (53, 6, 4, .c (db v205)), (53, 6, 5, .q (xb true))] [] g6 (ob (o_b h201) (ob (zLk [(.fn 112 [] []), (.fn 113 [] []), (.fn 114 [] []), (.fn 115 [] [])] 4 1 false (j := 2) (eq_of_beq h204) (by decide)) (ob (zdh k p0 p1 p2 _ h206) (ob (o_b h207) ob0)))) (by kernel_rfl)
     ·exact zqn (w64 (s1_9 + 1)) [] [(53, 4, 0, .q (xb true)), (53, 5, 0, .q (.d (.fn 114 [] []))), (53, 6, 4, .c (db v205)), (53, 6, 5, .q (xb false))] [] g6 (ob (o_b h201) (ob (zLk [(.fn 112 [] []), (.fn 113 [] []), (.fn 114 [] []), (.fn 115 [] [])] 4 1 false (j := 2) (eq_of_beq h204) (by decide)) (ob (zdh k p0 p1 p2 _ h206) (ob (o_b h207) ob0)))) (by kernel_rfl)
    ·refine zo g4 (fun h205 g5 => ?_) (fun h205 g5 => ?_)
     ·refine zk g5 (fun v206 h207 g6 => ?_)
      refine zo g6 (fun h208 g7 => ?_) (fun h208 g7 => ?_)
      ·exact zqo [(53, 4, 0, .q (xb true)), (53, 5, 0, .q (.d (.fn 115 [] []))), (53, 6, 4, .c (db v206)), (53, 6, 5, .q (xb true))] [] g7 (ob (o_b h201) (ob (zLk [(.fn 112 [] []), (.fn 113 [] []), (.fn 114 [] []), (.fn 115 [] [])] 4 1 false (j := 3) (eq_of_beq h205) (by decide)) (ob (zbh k p0 p1 p2 _ h207) (ob (o_b h208) ob0)))) (by kernel_rfl)
      ·exact zqn (w64 (s1_9 + 1)) [] [(53, 4, 0, .q (xb true)), (53, 5, 0, .q (.d (.fn 115 [] []))), (53, 6, 4, .c (db v206)), (53, 6, 5, .q (xb false))] [] g7 (ob (o_b h201) (ob (zLk [(.fn 112 [] []), (.fn 113 [] []), (.fn 114 [] []), (.fn 115 [] [])] 4 1 false (j := 3) (eq_of_beq h205) (by decide)) (ob (zbh k p0 p1 p2 _ h207) (ob (o_b h208) ob0)))) (by kernel_rfl)
     ·cases g5
 ·exact zqo [(53, 4, 0, .q (xb false))] [] g1 (ob (o_b h201) ob0) (by kernel_rfl)
theorem zTb (k : Nat) (p0 : zi) (p1 : zt2) (p2 : Int) (r : Bool) (h : zgb k p0 p1 p2 = some r) : zB TE (ev TE) 53 [(.agg (zn p0)), (.agg (aB 8 p1)), (di p2)] = some (z3b r) := by
 unfold zgb at h
 refine zk h (fun v1 h2 g1 => ?_)
 refine zo g1 (fun h3 g2 => ?_) (fun h3 g2 => ?_)
 ·exact zr (g := z3b) g2 (zqc [(53, 1, 1, .c (.agg (aB 8 v1))), (53, 1, 2, .q (xb true))] [] (ob (zTc k _ h2) (ob (o_b h3) ob0)) (by kernel_rfl))
 ·refine zk g2 (fun v4 h5 g3 => ?_)
  refine zqd g3 (fun v7 hh g4_0 => ?_) (fun w3_0 hh g4_0 => ?_)
  ·subst hh
   exact zr (g := z3b) g4_0 (zqc [(53, 1, 1, .c (.agg (aB 8 v1))), (53, 1, 2, .q (xb false))] [(53, 0, (.ret, zMe p0 p1 p2 v7))] (ob (zTc k _ h2) (ob (o_b h3) (ob (zC (id := 0) (r' := (.ret, zMe p0 p1 p2 v7)) (zYd (ztc k p0 p1 p2) k _ _ h5) rfl) ob0))) (by kernel_rfl))
  ·subst hh
   refine zqd g4_0 (fun v7 hh g4_1 => ?_) (fun w3_1 hh g4_1 => ?_)
   ·subst hh
    exact zr (g := z3b) g4_1 (zqc [(53, 1, 1, .c (.agg (aB 8 v1))), (53, 1, 2, .q (xb false))] [(53, 0, (.ret, zNe p0 p1 p2 v7))] (ob (zTc k _ h2) (ob (o_b h3) (ob (zC (id := 0) (r' := (.ret, zNe p0 p1 p2 v7)) (zYd (ztc k p0 p1 p2) k _ _ h5) rfl) ob0))) (by kernel_rfl))
   ·subst hh
    refine zqd g4_1 (fun v7 hh g4_2 => ?_) (fun w3_2 hh g4_2 => ?_)
    ·subst hh
     exact zr (g := z3b) g4_2 (zqc [(53, 1, 1, .c (.agg (aB 8 v1))), (53, 1, 2, .q (xb false))] [(53, 0, (.ret, zKe p0 p1 p2 v7))] (ob (zTc k _ h2) (ob (o_b h3) (ob (zC (id := 0) (r' := (.ret, zKe p0 p1 p2 v7)) (zYd (ztc k p0 p1 p2) k _ _ h5) rfl) ob0))) (by kernel_rfl))
    ·subst hh
     refine zqd g4_2 (fun v7 hh g4_3 => ?_) (fun v7 hh g4_3 => ?_)
     ·subst hh
      exact zr (g := z3b) g4_3 (zqc [(53, 1, 1, .c (.agg (aB 8 v1))), (53, 1, 2, .q (xb false))] [(53, 0, (.ret, zJe p0 p1 p2 v7))] (ob (zTc k _ h2) (ob (o_b h3) (ob (zC (id := 0) (r' := (.ret, zJe p0 p1 p2 v7)) (zYd (ztc k p0 p1 p2) k _ _ h5) rfl) ob0))) (by kernel_rfl))
     ·subst hh
      exact zr (g := z3b) g4_3 (zqc [(53, 1, 1, .c (.agg (aB 8 v1))), (53, 1, 2, .q (xb false))] [(53, 0, (.nor, zHe p0 p1 p2 v7))] (ob (zTc k _ h2) (ob (o_b h3) (ob (zC (id := 0) (r' := (.nor, zHe p0 p1 p2 v7)) (zYd (ztc k p0 p1 p2) k _ _ h5) rfl) ob0))) (by kernel_rfl))
noncomputable def zUw (p0 : zb) (p1 : (SL Int)) (v1 s1_9 s1_12 : Int) : TM := [(0, (.d (.agg (zd p0)))), (1, (.d (dl eI p1.1 p1.2))), (zsp 2), (4, (xb false)), (5, (xi 0)), (6, (xi v1)), (17, (xb false)), (7, (xi s1_9)), (19, (.d (dl eI p1.1 p1.2))), (20, (xi (p1.1.length : Int))), (21, (xi s1_12))]
noncomputable def zCm (p0 : zb) (p1 : (SL Int)) (v1 s1_9 s1_12 : Int) : St := ⟨(zUw p0 p1 v1 s1_9 s1_12), ⟨[(zc 2 (zd p0))], []⟩, []⟩
noncomputable def zSw (p0 : zb) (p1 : (SL Int)) (v1 : Int) (r : (Int × Int × Int)) : TM := [(0, (.d (.agg (zd p0)))), (1, (.d (dl eI p1.1 p1.2))), (zsp 2), (4, (xb false)), (5, (xi 81)), (6, (xi v1)), (17, (xb false)), (7, (xi r.1)), (19, (.d (dl eI p1.1 p1.2))), (20, (xi (p1.1.length : Int))), (21, (xi r.2.1)), (22, (xb true)), (9, (xi r.2.2)), (33, (xb true))]
noncomputable def zYf (p0 : zb) (p1 : (SL Int)) (v1 : Int) (r : (Int × Int × Int)) : St := ⟨(zSw p0 p1 v1 r), ⟨[(zc 2 (zd p0))], []⟩, []⟩
noncomputable def zyw (p0 : zb) (p1 : (SL Int)) (v1 : Int) (r : zt7) : TM := [(0, (.d (.agg (zd p0)))), (1, (.d (dl eI p1.1 p1.2))), (zsp 2), (4, (xb false)), (5, (xi 0)), (6, (xi v1)), (17, (xb false)), (7, (xi r.1)), (19, (.d (dl eI p1.1 p1.2))), (20, (xi (p1.1.length : Int))), (21, (xi r.2)), (22, (xb false))]
noncomputable def zVb (p0 : zb) (p1 : (SL Int)) (v1 : Int) (r : zt7) : St := ⟨(zyw p0 p1 v1 r), ⟨[(zc 2 (zd p0))], []⟩, []⟩
noncomputable def zxm (p0 : zb) (p1 : (SL Int)) (v1 : Int) : ((Int × Int × Int) ⊕ (Int × Int)) → Ex × St := Sum.elim (fun r => (.ret, zYf p0 p1 v1 r)) (fun r => ((.exit 0), zVb p0 p1 v1 r))
theorem zee (k : Nat) (p0 : zb) (p1 : (SL Int)) (v1 s1_9 s1_12 : Int) (x : (Int × Int) ⊕ ((Int × Int × Int) ⊕ (Int × Int))) (h : z6g k p0 p1 v1 s1_9 s1_12 = some x) : zL TE 14 (blk TE 14 0) (fun s : (Int × Int) => zCm p0 p1 v1 s.1 s.2) (zxm p0 p1 v1) (s1_9, s1_12) x := by
 unfold z6g at h
 refine zo h (fun h201 g1 => ?_) (fun h201 g1 => ?_)
 ·refine zk g1 (fun v202 h203 g2 => ?_)
  refine zk g2 (fun v204 h205 g3 => ?_)
  refine zo g3 (fun h206 g4 => ?_) (fun h206 g4 => ?_)
  ·exact zqo [(14, 6, 0, .q (xb true)), (14, 7, 0, .q (.d (.pin [(di v202)]))), (14, 8, 5, .q (xi (p0.Letters.1.length : Int))), (14, 8, 7, .c (db v204)), (14, 8, 8, .q (xb true))] [] g4 (ob (o_b h201) (ob (o_ia (e := eI) 1 h203 rfl) (ob (zq za p0.Letters.1) (ob (zu k v202 (w64 (s1_9 + 1)) (w64 ((p0.Letters.1.length : Int) - 1)) _ h205) (ob (o_b h206) ob0))))) (by kernel_rfl)
  ·exact zqn (v202, (w64 (s1_12 + 1))) [] [(14, 6, 0, .q (xb true)), (14, 7, 0, .q (.d (.pin [(di v202)]))), (14, 8, 5, .q (xi (p0.Letters.1.length : Int))), (14, 8, 7, .c (db v204)), (14, 8, 8, .q (xb false))] [] g4 (ob (o_b h201) (ob (o_ia (e := eI) 1 h203 rfl) (ob (zq za p0.Letters.1) (ob (zu k v202 (w64 (s1_9 + 1)) (w64 ((p0.Letters.1.length : Int) - 1)) _ h205) (ob (o_b h206) ob0))))) (by kernel_rfl)
 ·exact zqo [(14, 6, 0, .q (xb false))] [] g1 (ob (o_b h201) ob0) (by kernel_rfl)
noncomputable def zbw (p0 : zb) (p1 : (SL Int)) (v1 : Int) (v7 : zt7) (s2_17 : Int) : TM := [(0, (.d (.agg (zd p0)))), (1, (.d (dl eI p1.1 p1.2))), (zsp 2), (4, (xb false)), (5, (xi 0)), (6, (xi v1)), (17, (xb false)), (7, (xi v7.1)), (19, (.d (dl eI p1.1 p1.2))), (20, (xi (p1.1.length : Int))), (21, (xi v7.2)), (22, (xb false)), (38, (xb false)), (zsp 10), (zsp 11), (41, (.d (dl eI p1.1 p1.2))), (42, (xi (p1.1.length : Int))), (43, (xi s2_17))]
noncomputable def zzm (p0 : zb) (p1 : (SL Int)) (v1 : Int) (v7 : zt7) (v9 : zi) (s2_17 : Int) (s2_27 : zt2) : St := ⟨(zbw p0 p1 v1 v7 s2_17), ⟨[(zc 2 (zd p0)), (zc 10 (zn v9)), (zc 11 (aB 8 s2_27))], []⟩, []⟩
noncomputable def zlw (p0 : zb) (p1 : (SL Int)) (v1 : Int) (v7 : zt7) (r : (Int × Int × (Nat → Bool))) : TM := [(0, (.d (.agg (zd p0)))), (1, (.d (dl eI p1.1 p1.2))), (zsp 2), (4, (xb false)), (5, (xi 0)), (6, (xi v1)), (17, (xb false)), (7, (xi v7.1)), (19, (.d (dl eI p1.1 p1.2))), (20, (xi (p1.1.length : Int))), (21, (xi v7.2)), (22, (xb false)), (38, (xb false)), (zsp 10), (zsp 11), (41, (.d (dl eI p1.1 p1.2))), (42, (xi (p1.1.length : Int))), (43, (xi r.1)), (44, (xb true)), (13, (xi r.2.1)), (51, (xb true))]
noncomputable def zUf (p0 : zb) (p1 : (SL Int)) (v1 : Int) (v7 : zt7) (v9 : zi) (r : (Int × Int × (Nat → Bool))) : St := ⟨(zlw p0 p1 v1 v7 r), ⟨[(zc 2 (zd p0)), (zc 10 (zn v9)), (zc 11 (aB 8 r.2.2))], []⟩, []⟩
noncomputable def z2v (p0 : zb) (p1 : (SL Int)) (v1 : Int) (v7 : zt7) (r : (Int × (Nat → Bool))) : TM := [(0, (.d (.agg (zd p0)))), (1, (.d (dl eI p1.1 p1.2))), (zsp 2), (4, (xb false)), (5, (xi 0)), (6, (xi v1)), (17, (xb false)), (7, (xi v7.1)), (19, (.d (dl eI p1.1 p1.2))), (20, (xi (p1.1.length : Int))), (21, (xi v7.2)), (22, (xb false)), (38, (xb false)), (zsp 10), (zsp 11), (41, (.d (dl eI p1.1 p1.2))), (42, (xi (p1.1.length : Int))), (43, (xi r.1)), (44, (xb false))]
noncomputable def zZf (p0 : zb) (p1 : (SL Int)) (v1 : Int) (v7 : zt7) (v9 : zi) (r : (Int × (Nat → Bool))) : St := ⟨(z2v p0 p1 v1 v7 r), ⟨[(zc 2 (zd p0)), (zc 10 (zn v9)), (zc 11 (aB 8 r.2))], []⟩, []⟩
noncomputable def zjm (p0 : zb) (p1 : (SL Int)) (v1 : Int) (v7 : zt7) (v9 : zi) : ((Int × Int × (Nat → Bool)) ⊕ (Int × (Nat → Bool))) → Ex × St := Sum.elim (fun r => (.ret, zUf p0 p1 v1 v7 v9 r)) (fun r => ((.exit 2), zZf p0 p1 v1 v7 v9 r))
theorem zai (k : Nat) (p0 : zb) (p1 : (SL Int)) (v1 : Int) (v7 : zt7) (v9 : zi) (s2_17 : Int) (s2_27 : zt2) (x : (Int × (Nat → Bool)) ⊕ ((Int × Int × (Nat → Bool)) ⊕ (Int × (Nat → Bool)))) (h : z5g k p0 p1 v1 v7 v9 s2_17 s2_27 = some x) : zL TE 14 (blk TE 14 2) (fun s : (Int × (Nat → Bool)) => zzm p0 p1 v1 v7 v9 s.1 s.2) (zjm p0 p1 v1 v7 v9) (s2_17, s2_27) x := by
 unfold z5g at h
 refine zo h (fun h301 g1 => ?_) (fun h301 g1 => ?_)
 ·refine zk g1 (fun v302 h303 g2 => ?_)
  refine zk g2 (fun v304 h305 g3 => ?_)
  refine zo g3 (fun h306 g4 => ?_) (fun h306 g4 => ?_)
  ·exact zqo [(14, 17, 0, .q (xb true)), (14, 18, 0, .q (.d (.pin [(di v302)]))), (14, 19, 3, .c (db v304)), (14, 19, 4, .q (xb true))] [] g4 (ob (o_b h301) (ob (o_ia (e := eI) 1 h303 rfl) (ob (zTb k v9 s2_27 v302 _ h305) (ob (o_b h306) ob0)))) (by kernel_rfl)
  ·refine zDb g4 (fun h307 g5 => ?_)
   exact zqn ((w64 (s2_17 + 1)), (upd s2_27 v302.toNat true)) [] [(14, 17, 0, .q (xb true)), (14, 18, 0, .q (.d (.pin [(di v302)]))), (14, 19, 3, .c (db v304)), (14, 19, 4, .q (xb false)), (14, 21, 1, .q (.ptr 0 11 (v302.toNat))), (14, 21, 2, .st ((aB 8 (upd s2_27 v302.toNat true)).map .d))] [] g5 (ob (o_b h301) (ob (o_ia (e := eI) 1 h303 rfl) (ob (zTb k v9 s2_27 v302 _ h305) (ob (o_b h306) (ob (z7m (m := 8) 0 11 0 1 v302.toNat h307 (by omega)) (ob (zYr 8 s2_27 v302.toNat true (by have := h307; simp only [Bool.and_eq_true, decide_eq_true_eq] at this; omega)) ob0)))))) (by kernel_rfl)
 ·exact zqo [(14, 17, 0, .q (xb false))] [] g1 (ob (o_b h301) ob0) (by kernel_rfl)
theorem z6 (k : Nat) (p0 : zb) (p1 : (SL Int)) (r : zt1) (h : zyi k p0 p1 = some r) : zB TE (ev TE) 14 [(.agg (zd p0)), (dl eI p1.1 p1.2)] = some (ztd r) := by
 unfold zyi at h
 refine zk h (fun v1 h2 g1 => ?_)
 refine zo g1 (fun h3 g2 => ?_) (fun h3 g2 => ?_)
 ·exact zr (g := ztd) g2 (zqc [(14, 1, 1, .c (di v1)), (14, 2, 1, .q (xb true))] [] (ob (zF k p0 _ h2) (ob (o_b h3) ob0)) (by kernel_rfl))
 ·refine zk g2 (fun v4 h5 g3 => ?_)
  refine zqd g3 (fun v7 hh g4_0 => ?_) (fun v7 hh g4_0 => ?_)
  ·subst hh
   exact zr (g := ztd) g4_0 (zqc [(14, 1, 1, .c (di v1)), (14, 2, 1, .q (xb false)), (14, 5, 1, .q (xi (p1.1.length : Int)))] [(14, 0, (.ret, zYf p0 p1 v1 v7))] (ob (zF k p0 _ h2) (ob (o_b h3) (ob (zq eI p1.1) (ob (zC (id := 0) (r' := (.ret, zYf p0 p1 v1 v7)) (zHc (zee k p0 p1 v1) k _ _ h5) rfl) ob0)))) (by kernel_rfl))
  ·subst hh
   refine zo g4_0 (fun h8 g5 => ?_) (fun h8 g5 => ?_)
   ·exact zr (g := ztd) g5 (zqc [(14, 1, 1, .c (di v1)), (14, 2, 1, .q (xb false)), (14, 5, 1, .q (xi (p1.1.length : Int))), (14, 12, 1, .q (xi (p1.1.length : Int))), (14, 12, 2, .q (xb true))] [(14, 0, (.nor, zVb p0 p1 v1 v7))] (ob (zF k p0 _ h2) (ob (o_b h3) (ob (zq eI p1.1) (ob (zC (id := 0) (r' := (.nor, zVb p0 p1 v1 v7)) (zHc (zee k p0 p1 v1) k _ _ h5) rfl) (ob (zq eI p1.1) (ob (o_b h8) ob0)))))) (by kernel_rfl))
   ·refine zk g5 (fun v9 h10 g6 => ?_)
    refine zk g6 (fun v11 h12 g7 => ?_)
    refine zqd g7 (fun v14 hh g8_0 => ?_) (fun v14 hh g8_0 => ?_)
    ·subst hh
     exact zr (g := ztd) g8_0 (zqc [(14, 1, 1, .c (di v1)), (14, 2, 1, .q (xb false)), (14, 5, 1, .q (xi (p1.1.length : Int))), (14, 12, 1, .q (xi (p1.1.length : Int))), (14, 12, 2, .q (xb false)), (14, 14, 1, .c (.agg (zn v9))), (14, 16, 1, .q (xi (p1.1.length : Int)))] [(14, 0, (.nor, zVb p0 p1 v1 v7)), (14, 2, (.ret, zUf p0 p1 v1 v7 v9 v14))] (ob (zF k p0 _ h2) (ob (o_b h3) (ob (zq eI p1.1) (ob (zC (id := 0) (r' := (.nor, zVb p0 p1 v1 v7)) (zHc (zee k p0 p1 v1) k _ _ h5) rfl) (ob (zq eI p1.1) (ob (o_b h8) (ob (zjb k p0 _ h10) (ob (zq eI p1.1) (ob (zC (id := 2) (r' := (.ret, zUf p0 p1 v1 v7 v9 v14)) (zHc (zai k p0 p1 v1 v7 v9) k _ _ h12) rfl) ob0))))))))) (by kernel_rfl))
    ·subst hh
     exact zr (g := ztd) g8_0 (zqc [(14, 1, 1, .c (di v1)), (14, 2, 1, .q (xb false)), (14, 5, 1, .q (xi (p1.1.length : Int))), (14, 12, 1, .q (xi (p1.1.length : Int))), (14, 12, 2, .q (xb false)), (14, 14, 1, .c (.agg (zn v9))), (14, 16, 1, .q (xi (p1.1.length : Int)))] [(14, 0, (.nor, zVb p0 p1 v1 v7)), (14, 2, (.nor, zZf p0 p1 v1 v7 v9 v14))] (ob (zF k p0 _ h2) (ob (o_b h3) (ob (zq eI p1.1) (ob (zC (id := 0) (r' := (.nor, zVb p0 p1 v1 v7)) (zHc (zee k p0 p1 v1) k _ _ h5) rfl) (ob (zq eI p1.1) (ob (o_b h8) (ob (zjb k p0 _ h10) (ob (zq eI p1.1) (ob (zC (id := 2) (r' := (.nor, zZf p0 p1 v1 v7 v9 v14)) (zHc (zai k p0 p1 v1 v7 v9) k _ _ h12) rfl) ob0))))))))) (by kernel_rfl))
noncomputable def zZw (p0 : (SL Int)) (s1_2 s1_5 : Int) : TM := [(0, (.d (dl eI p0.1 p0.2))), (2, (xi 0)), (3, (xi s1_2)), (6, (.d (dl eI p0.1 p0.2))), (7, (xi (p0.1.length : Int))), (8, (xi s1_5))]
noncomputable def zVm (p0 : (SL Int)) (s1_2 s1_5 : Int) : St := ⟨(zZw p0 s1_2 s1_5), ⟨[], []⟩, []⟩
noncomputable def znw (p0 : (SL Int)) (r : zt7) : TM := [(0, (.d (dl eI p0.1 p0.2))), (2, (xi 0)), (3, (xi r.1)), (6, (.d (dl eI p0.1 p0.2))), (7, (xi (p0.1.length : Int))), (8, (xi r.2)), (9, (xb false))]
noncomputable def zeg (p0 : (SL Int)) (r : zt7) : St := ⟨(znw p0 r), ⟨[], []⟩, []⟩
noncomputable def z3m (p0 : (SL Int)) : (Int × Int) → Ex × St := fun r => ((.exit 0), zeg p0 r)
theorem zym (k : Nat) (p0 : (SL Int)) (s1_2 s1_5 : Int) (x : (Int × Int) ⊕ (Int × Int)) (h : zve k p0 s1_2 s1_5 = some x) : zL TE 61 (blk TE 61 0) (fun s : (Int × Int) => zVm p0 s.1 s.2) (z3m p0) (s1_2, s1_5) x := by
 unfold zve at h
 refine zo h (fun h201 g1 => ?_) (fun h201 g1 => ?_)
 ·refine zk g1 (fun v202 h203 g2 => ?_)
  refine zk g2 (fun v204 h205 g3 => ?_)
  exact zqn (v204, (w64 (s1_5 + 1))) [] [(61, 3, 0, .q (xb true)), (61, 4, 0, .q (.d (.pin [(di v202)]))), (61, 5, 4, .c (di v204))] [] g3 (ob (o_b h201) (ob (o_ia (e := eI) 1 h203 rfl) (ob (z2c k s1_2 ([(w64 (v202 + 1))], .ex) _ h205) ob0))) (by kernel_rfl)
 ·exact zqo [(61, 3, 0, .q (xb false))] [] g1 (ob (o_b h201) ob0) (by kernel_rfl)
theorem zP (k : Nat) (p0 : (SL Int)) (r : Int) (h : ztb k p0 = some r) : zB TE (ev TE) 61 [(dl eI p0.1 p0.2)] = some (zMk r) := by
 unfold ztb at h
 refine zk h (fun v1 h2 g1 => ?_)
 exact zr (g := zMk) g1 (zqc [(61, 2, 1, .q (xi (p0.1.length : Int)))] [(61, 0, (.nor, zeg p0 v1))] (ob (zq eI p0.1) (ob (zC (id := 0) (r' := (.nor, zeg p0 v1)) (zHc (zym k p0) k _ _ h2) rfl) ob0)) (by kernel_rfl))
noncomputable def zHw (p0 : zi) (p1 : (SL Int)) (p2 p3 s1_11 v402 : Int) (r : Bool) : TM := [(0, (.d (.agg (zn p0)))), (1, (.d (dl eI p1.1 p1.2))), (2, (xi p2)), (3, (xi p3)), (zsp 4), (8, (xb false)), (12, (.d (dl eI p1.1 p1.2))), (13, (xi (p1.1.length : Int))), (14, (xi s1_11)), (15, (xb true)), (9, (xi s1_11)), (10, (xi v402)), (11, (xb r))]
noncomputable def zjc (p0 : zi) (p1 : (SL Int)) (p2 p3 s1_11 v402 : Int) (r : Bool) : St := ⟨(zHw p0 p1 p2 p3 s1_11 v402 r), ⟨[(zc 4 (zn p0))], []⟩, []⟩
noncomputable def zbt (p0 : zi) (p1 : (SL Int)) (p2 p3 s1_11 v402 : Int) : TM := [(0, (.d (.agg (zn p0)))), (1, (.d (dl eI p1.1 p1.2))), (2, (xi p2)), (3, (xi p3)), (zsp 4), (8, (xb false)), (12, (.d (dl eI p1.1 p1.2))), (13, (xi (p1.1.length : Int))), (14, (xi s1_11)), (15, (xb true)), (9, (xi s1_11)), (10, (xi v402))]
theorem zsg (k : Nat) (p0 : zi) (p1 : (SL Int)) (p2 p3 s1_11 v402 : Int) (r : Bool) (h : zAd k p0 p1 p2 p3 s1_11 v402 = some r) : ev TE 85 (rgn TE 85 4) ⟨(zbt p0 p1 p2 p3 s1_11 v402), ⟨[(zc 4 (zn p0))], []⟩, []⟩ = some (.nor, zjc p0 p1 p2 p3 s1_11 v402 r) := by
 unfold zAd at h
 refine zk h (fun v501 h502 g1 => ?_)
 refine zo g1 (fun h503 g2 => ?_) (fun h503 g2 => ?_)
 ·refine zk g2 (fun v504 h505 g3 => ?_)
  refine zk g3 (fun v506 h507 g4 => ?_)
  exact zw (g := fun r => (Ex.nor, zjc p0 p1 p2 p3 s1_11 v402 r)) g4 (zqe [(85, 4, 4, .q (.d (.pin (za v501)))), (85, 4, 8, .q (xb true)), (85, 4, 13, .q (.d (.pin (za v504)))), (85, 4, 20, .q (.d (.pin (za v506))))] [] (ob (o_ia (e := za) 6 h502 rfl) (ob (o_b h503) (ob (o_ia (e := za) 6 h505 rfl) (ob (o_ia (e := za) 6 h507 rfl) ob0)))) (by kernel_rfl))
 ·exact zw (g := fun r => (Ex.nor, zjc p0 p1 p2 p3 s1_11 v402 r)) g2 (zqe [(85, 4, 4, .q (.d (.pin (za v501)))), (85, 4, 8, .q (xb false))] [] (ob (o_ia (e := za) 6 h502 rfl) (ob (o_b h503) ob0)) (by kernel_rfl))
noncomputable def zgc (p0 : zi) (p1 : (SL Int)) (p2 p3 s1_11 v402 : Int) (v404 r : Bool) : St := ⟨(zbt p0 p1 p2 p3 s1_11 v402 ++ [(11, (xb v404)), (49, (xb r))]), ⟨[(zc 4 (zn p0))], []⟩, []⟩
theorem zog (k : Nat) (p0 : zi) (p1 : (SL Int)) (p2 p3 s1_11 v402 : Int) (v404 r : Bool) (h : zyd k p0 p1 p2 p3 s1_11 v402 v404 = some r) : ev TE 85 (rgn TE 85 5) ⟨(zbt p0 p1 p2 p3 s1_11 v402 ++ [(11, (xb v404))]), ⟨[(zc 4 (zn p0))], []⟩, []⟩ = some (.nor, zgc p0 p1 p2 p3 s1_11 v402 v404 r) := by
 unfold zyd at h
 refine zo h (fun h601 g1 => ?_) (fun h601 g1 => ?_)
 ·exact zw (g := fun r => (Ex.nor, zgc p0 p1 p2 p3 s1_11 v402 v404 r)) g1 (zqe [(85, 5, 1, .q (xb true))] [] (ob (o_b h601) ob0) (by kernel_rfl))
 ·exact zw (g := fun r => (Ex.nor, zgc p0 p1 p2 p3 s1_11 v402 v404 r)) g1 (zqe [(85, 5, 1, .q (xb false))] [] (ob (o_b h601) ob0) (by kernel_rfl))
noncomputable def zQw (p0 : zi) (p1 : (SL Int)) (p2 p3 s1_11 : Int) : TM := [(0, (.d (.agg (zn p0)))), (1, (.d (dl eI p1.1 p1.2))), (2, (xi p2)), (3, (xi p3)), (zsp 4), (8, (xb false)), (12, (.d (dl eI p1.1 p1.2))), (13, (xi (p1.1.length : Int))), (14, (xi s1_11))]
noncomputable def z8j (p0 : zi) (p1 : (SL Int)) (p2 p3 s1_11 : Int) : St := ⟨(zQw p0 p1 p2 p3 s1_11), ⟨[(zc 4 (zn p0))], []⟩, []⟩
noncomputable def zFw (p0 : zi) (p1 : (SL Int)) (p2 p3 : Int) (r : (Int × Int × Bool)) : TM := [(0, (.d (.agg (zn p0)))), (1, (.d (dl eI p1.1 p1.2))), (2, (xi p2)), (3, (xi p3)), (zsp 4), (8, (xb false)), (12, (.d (dl eI p1.1 p1.2))), (13, (xi (p1.1.length : Int))), (14, (xi r.1)), (15, (xb true)), (9, (xi r.1)), (10, (xi r.2.1)), (11, (xb r.2.2)), (49, (xb true))]
noncomputable def zme (p0 : zi) (p1 : (SL Int)) (p2 p3 : Int) (r : (Int × Int × Bool)) : St := ⟨(zFw p0 p1 p2 p3 r), ⟨[(zc 4 (zn p0))], []⟩, []⟩
noncomputable def zXw (p0 : zi) (p1 : (SL Int)) (p2 p3 r : Int) : TM := [(0, (.d (.agg (zn p0)))), (1, (.d (dl eI p1.1 p1.2))), (2, (xi p2)), (3, (xi p3)), (zsp 4), (8, (xb false)), (12, (.d (dl eI p1.1 p1.2))), (13, (xi (p1.1.length : Int))), (14, (xi r)), (15, (xb false))]
noncomputable def zpe (p0 : zi) (p1 : (SL Int)) (p2 p3 r : Int) : St := ⟨(zXw p0 p1 p2 p3 r), ⟨[(zc 4 (zn p0))], []⟩, []⟩
noncomputable def zjk (p0 : zi) (p1 : (SL Int)) (p2 p3 : Int) : ((Int × Int × Bool) ⊕ Int) → Ex × St := Sum.elim (fun r => (.ret, zme p0 p1 p2 p3 r)) (fun r => ((.exit 0), zpe p0 p1 p2 p3 r))
theorem zjg (k : Nat) (p0 : zi) (p1 : (SL Int)) (p2 p3 s1_11 : Int) (x : Int ⊕ ((Int × Int × Bool) ⊕ Int)) (h : zDc k p0 p1 p2 p3 s1_11 = some x) : zL TE 85 (blk TE 85 0) (fun s : Int => z8j p0 p1 p2 p3 s) (zjk p0 p1 p2 p3) s1_11 x := by
 unfold zDc at h
 refine zo h (fun h401 g1 => ?_) (fun h401 g1 => ?_)
 ·refine zk g1 (fun v402 h403 g2 => ?_)
  refine zk g2 (fun v404 h405 g3 => ?_)
  refine zk g3 (fun v406 h407 g4 => ?_)
  refine zo g4 (fun h408 g5 => ?_) (fun h408 g5 => ?_)
  ·subst h408
   exact zqo [(85, 2, 0, .q (xb true)), (85, 3, 1, .q (.d (.pin [(di v402)])))] [(85, 1000004, (.nor, zjc p0 p1 p2 p3 s1_11 v402 v404)), (85, 1000005, (.nor, zgc p0 p1 p2 p3 s1_11 v402 v404 true))] g5 (ob (o_b h401) (ob (o_ia (e := eI) 1 h403 rfl) (ob (zsg k p0 p1 p2 p3 s1_11 v402 _ h405) (ob (zog k p0 p1 p2 p3 s1_11 v402 v404 _ h407) ob0)))) (by kernel_rfl)
  ·subst h408
   exact zqn (w64 (s1_11 + 1)) [] [(85, 2, 0, .q (xb true)), (85, 3, 1, .q (.d (.pin [(di v402)])))] [(85, 1000004, (.nor, zjc p0 p1 p2 p3 s1_11 v402 v404)), (85, 1000005, (.nor, zgc p0 p1 p2 p3 s1_11 v402 v404 false))] g5 (ob (o_b h401) (ob (o_ia (e := eI) 1 h403 rfl) (ob (zsg k p0 p1 p2 p3 s1_11 v402 _ h405) (ob (zog k p0 p1 p2 p3 s1_11 v402 v404 _ h407) ob0)))) (by kernel_rfl)
 ·exact zqo [(85, 2, 0, .q (xb false))] [] g1 (ob (o_b h401) ob0) (by kernel_rfl)
theorem zU (k : Nat) (p0 : zi) (p1 : (SL Int)) (p2 p3 : Int) (r : Bool) (h : zbb k p0 p1 p2 p3 = some r) : zB TE (ev TE) 85 [(.agg (zn p0)), (dl eI p1.1 p1.2), (di p2), (di p3)] = some (zFf r) := by
 unfold zbb at h
 refine zk h (fun v1 h2 g1 => ?_)
 refine zqd g1 (fun v4 hh g2_0 => ?_) (fun v4 hh g2_0 => ?_)
 ·subst hh
  exact zr (g := zFf) g2_0 (zqc [(85, 1, 1, .q (xi (p1.1.length : Int)))] [(85, 0, (.ret, zme p0 p1 p2 p3 v4))] (ob (zq eI p1.1) (ob (zC (id := 0) (r' := (.ret, zme p0 p1 p2 p3 v4)) (zYd (zjg k p0 p1 p2 p3) k _ _ h2) rfl) ob0)) (by kernel_rfl))
 ·subst hh
  exact zr (g := zFf) g2_0 (zqc [(85, 1, 1, .q (xi (p1.1.length : Int)))] [(85, 0, (.nor, zpe p0 p1 p2 p3 v4))] (ob (zq eI p1.1) (ob (zC (id := 0) (r' := (.nor, zpe p0 p1 p2 p3 v4)) (zYd (zjg k p0 p1 p2 p3) k _ _ h2) rfl) ob0)) (by kernel_rfl))
noncomputable def zCw (p0 : (SL Int)) (p1 s1_4 : Int) : TM := [(0, (.d (dl eI p0.1 p0.2))), (1, (xi p1)), (zsp 4), (zsp 5), (8, (.d (dl eI p0.1 p0.2))), (9, (xi (p0.1.length : Int))), (10, (xi s1_4))]
noncomputable def zqm (p0 : (SL Int)) (p1 s1_4 : Int) (s1_6 : zt2) : St := ⟨(zCw p0 p1 s1_4), ⟨[(zc 4 (aB 8 (fun _ => false))), (zc 5 (aB 8 s1_6))], []⟩, []⟩
noncomputable def zEw (p0 : (SL Int)) (p1 : Int) (r : (Int × (Nat → Bool))) : TM := [(0, (.d (dl eI p0.1 p0.2))), (1, (xi p1)), (zsp 4), (zsp 5), (8, (.d (dl eI p0.1 p0.2))), (9, (xi (p0.1.length : Int))), (10, (xi r.1)), (11, (xb false))]
noncomputable def zPf (p0 : (SL Int)) (p1 : Int) (r : (Int × (Nat → Bool))) : St := ⟨(zEw p0 p1 r), ⟨[(zc 4 (aB 8 (fun _ => false))), (zc 5 (aB 8 r.2))], []⟩, []⟩
noncomputable def znm (p0 : (SL Int)) (p1 : Int) : (Int × (Nat → Bool)) → Ex × St := fun r => ((.exit 0), zPf p0 p1 r)
theorem zIl (k : Nat) (p0 : (SL Int)) (p1 s1_4 : Int) (s1_6 : zt2) (x : (Int × (Nat → Bool)) ⊕ (Int × (Nat → Bool))) (h : z6d k p0 p1 s1_4 s1_6 = some x) : zL TE 86 (blk TE 86 0) (fun s : (Int × (Nat → Bool)) => zqm p0 p1 s.1 s.2) (znm p0 p1) (s1_4, s1_6) x := by
 unfold z6d at h
 refine zo h (fun h201 g1 => ?_) (fun h201 g1 => ?_)
 ·refine zk g1 (fun v202 h203 g2 => ?_)
  refine zDb g2 (fun h204 g3 => ?_)
  exact zqn ((w64 (s1_4 + 1)), (upd s1_6 s1_4.toNat (v202 == p1))) [] [(86, 3, 0, .q (xb true)), (86, 4, 1, .q (.d (.pin [(di v202)]))), (86, 5, 4, .q (.ptr 0 5 (s1_4.toNat))), (86, 5, 5, .st ((aB 8 (upd s1_6 s1_4.toNat (v202 == p1))).map .d))] [] g3 (ob (o_b h201) (ob (o_ia (e := eI) 1 h203 rfl) (ob (z7m (m := 8) 0 5 0 1 s1_4.toNat h204 (by omega)) (ob (zYr 8 s1_6 s1_4.toNat (v202 == p1) (by have := h204; simp only [Bool.and_eq_true, decide_eq_true_eq] at this; omega)) ob0)))) (by kernel_rfl)
 ·exact zqo [(86, 3, 0, .q (xb false))] [] g1 (ob (o_b h201) ob0) (by kernel_rfl)
theorem z9d (k : Nat) (p0 : (SL Int)) (p1 : Int) (r : zt2) (h : zYb k p0 p1 = some r) : zB TE (ev TE) 86 [(dl eI p0.1 p0.2), (di p1)] = some (z9j r) := by
 unfold zYb at h
 refine zk h (fun v1 h2 g1 => ?_)
 exact zr (g := z9j) g1 (zqc [(86, 2, 1, .q (xi (p0.1.length : Int)))] [(86, 0, (.nor, zPf p0 p1 v1))] (ob (zq eI p0.1) (ob (zC (id := 0) (r' := (.nor, zPf p0 p1 v1)) (zHc (zIl k p0 p1) k _ _ h2) rfl) ob0)) (by kernel_rfl))
noncomputable def zcw (p0 : zi) (p1 : (SL Int)) (s1_10 v302 : Int) (r : Bool) : TM := [(0, (.d (.agg (zn p0)))), (1, (.d (dl eI p1.1 p1.2))), (zsp 2), (4, (xb false)), (14, (xb false)), (15, (.d (dl eI p1.1 p1.2))), (16, (xi (p1.1.length : Int))), (17, (xi s1_10)), (18, (xb true)), (5, (xi s1_10)), (6, (xi v302)), (7, (.d (dl eI (p1.1.take s1_10.toNat) (pcap p1.2 (s1_10 == (p1.1.length : Int)))))), (51, (xb r))]
noncomputable def zsb (p0 : zi) (p1 : (SL Int)) (s1_10 v302 : Int) (r : Bool) : St := ⟨(zcw p0 p1 s1_10 v302 r), ⟨[(zc 2 (zn p0))], []⟩, []⟩
noncomputable def zOw (p0 : zi) (p1 : (SL Int)) (s1_10 v302 : Int) : TM := [(0, (.d (.agg (zn p0)))), (1, (.d (dl eI p1.1 p1.2))), (zsp 2), (4, (xb false)), (14, (xb false)), (15, (.d (dl eI p1.1 p1.2))), (16, (xi (p1.1.length : Int))), (17, (xi s1_10)), (18, (xb true)), (5, (xi s1_10)), (6, (xi v302)), (7, (.d (dl eI (p1.1.take s1_10.toNat) (pcap p1.2 (s1_10 == (p1.1.length : Int))))))]
theorem zIf (k : Nat) (p0 : zi) (p1 : (SL Int)) (s1_10 v302 : Int) (r : Bool) (h : zAe k p0 p1 s1_10 v302 = some r) : ev TE 57 (rgn TE 57 7) ⟨(zOw p0 p1 s1_10 v302), ⟨[(zc 2 (zn p0))], []⟩, []⟩ = some (.nor, zsb p0 p1 s1_10 v302 r) := by
 unfold zAe at h
 refine zk h (fun v401 h402 g1 => ?_)
 refine zk g1 (fun v403 h404 g2 => ?_)
 refine zo g2 (fun h405 g3 => ?_) (fun h405 g3 => ?_)
 ·exact zw (g := fun r => (Ex.nor, zsb p0 p1 s1_10 v302 r)) g3 (zqe [(57, 7, 6, .c (di v401)), (57, 7, 8, .c (db v403)), (57, 7, 10, .q (xb true))] [] (ob (zP k ((p1.1.take s1_10.toNat), (pcap p1.2 (s1_10 == (p1.1.length : Int)))) _ h402) (ob (zu k v302 0 (if v401 < (w64 (p0.NamesakeBook.Most - 1)) then v401 else (w64 (p0.NamesakeBook.Most - 1))) _ h404) (ob (o_b h405) ob0))) (by kernel_rfl))
 ·refine zk g3 (fun v406 h407 g4 => ?_)
  refine zo g4 (fun h408 g5 => ?_) (fun h408 g5 => ?_)
  ·exact zw (g := fun r => (Ex.nor, zsb p0 p1 s1_10 v302 r)) g5 (zqe [(57, 7, 6, .c (di v401)), (57, 7, 8, .c (db v403)), (57, 7, 10, .q (xb false)), (57, 7, 15, .c (db v406)), (57, 7, 18, .q (xb true))] [] (ob (zP k ((p1.1.take s1_10.toNat), (pcap p1.2 (s1_10 == (p1.1.length : Int)))) _ h402) (ob (zu k v302 0 (if v401 < (w64 (p0.NamesakeBook.Most - 1)) then v401 else (w64 (p0.NamesakeBook.Most - 1))) _ h404) (ob (o_b h405) (ob (zU k p0 ((p1.1.take s1_10.toNat), (pcap p1.2 (s1_10 == (p1.1.length : Int)))) s1_10 v302 _ h407) (ob (o_b h408) ob0))))) (by kernel_rfl))
  ·refine zk g5 (fun v409 h410 g6 => ?_)
   refine zk g6 (fun v411 h412 g7 => ?_)
   exact zw (g := fun r => (Ex.nor, zsb p0 p1 s1_10 v302 r)) g7 (zqe [(57, 7, 6, .c (di v401)), (57, 7, 8, .c (db v403)), (57, 7, 10, .q (xb false)), (57, 7, 15, .c (db v406)), (57, 7, 18, .q (xb false)), (57, 7, 22, .c (.agg (aB 8 v409))), (57, 7, 24, .c (db v411))] [] (ob (zP k ((p1.1.take s1_10.toNat), (pcap p1.2 (s1_10 == (p1.1.length : Int)))) _ h402) (ob (zu k v302 0 (if v401 < (w64 (p0.NamesakeBook.Most - 1)) then v401 else (w64 (p0.NamesakeBook.Most - 1))) _ h404) (ob (o_b h405) (ob (zU k p0 ((p1.1.take s1_10.toNat), (pcap p1.2 (s1_10 == (p1.1.length : Int)))) s1_10 v302 _ h407) (ob (o_b h408) (ob (z9d k ((p1.1.take s1_10.toNat), (pcap p1.2 (s1_10 == (p1.1.length : Int)))) v302 _ h410) (ob (zTb k p0 v409 s1_10 _ h412) ob0))))))) (by kernel_rfl))
noncomputable def zTw (p0 : zi) (p1 : (SL Int)) (s1_10 : Int) : TM := [(0, (.d (.agg (zn p0)))), (1, (.d (dl eI p1.1 p1.2))), (zsp 2), (4, (xb false)), (14, (xb false)), (15, (.d (dl eI p1.1 p1.2))), (16, (xi (p1.1.length : Int))), (17, (xi s1_10))]
noncomputable def zjj (p0 : zi) (p1 : (SL Int)) (s1_10 : Int) : St := ⟨(zTw p0 p1 s1_10), ⟨[(zc 2 (zn p0))], []⟩, []⟩
noncomputable def zLw (p0 : zi) (p1 : (SL Int)) (r : (Int × Int × (SL Int))) : TM := [(0, (.d (.agg (zn p0)))), (1, (.d (dl eI p1.1 p1.2))), (zsp 2), (4, (xb false)), (14, (xb false)), (15, (.d (dl eI p1.1 p1.2))), (16, (xi (p1.1.length : Int))), (17, (xi r.1)), (18, (xb true)), (5, (xi r.1)), (6, (xi r.2.1)), (7, (.d (dl eI r.2.2.1 r.2.2.2))), (51, (xb true))]
noncomputable def zQd (p0 : zi) (p1 : (SL Int)) (r : (Int × Int × (SL Int))) : St := ⟨(zLw p0 p1 r), ⟨[(zc 2 (zn p0))], []⟩, []⟩
noncomputable def zGw (p0 : zi) (p1 : (SL Int)) (r : Int) : TM := [(0, (.d (.agg (zn p0)))), (1, (.d (dl eI p1.1 p1.2))), (zsp 2), (4, (xb false)), (14, (xb false)), (15, (.d (dl eI p1.1 p1.2))), (16, (xi (p1.1.length : Int))), (17, (xi r)), (18, (xb false))]
noncomputable def zDd (p0 : zi) (p1 : (SL Int)) (r : Int) : St := ⟨(zGw p0 p1 r), ⟨[(zc 2 (zn p0))], []⟩, []⟩
noncomputable def z8i (p0 : zi) (p1 : (SL Int)) : ((Int × Int × (SL Int)) ⊕ Int) → Ex × St := Sum.elim (fun r => (.ret, zQd p0 p1 r)) (fun r => ((.exit 0), zDd p0 p1 r))
theorem zGf (k : Nat) (p0 : zi) (p1 : (SL Int)) (s1_10 : Int) (x : Int ⊕ ((Int × Int × (SL Int)) ⊕ Int)) (h : zye k p0 p1 s1_10 = some x) : zL TE 57 (blk TE 57 0) (fun s : Int => zjj p0 p1 s) (z8i p0 p1) s1_10 x := by
 unfold zye at h
 refine zo h (fun h301 g1 => ?_) (fun h301 g1 => ?_)
 ·refine zk g1 (fun v302 h303 g2 => ?_)
  refine zDb g2 (fun h304 g3 => ?_)
  refine zk g3 (fun v305 h306 g4 => ?_)
  refine zo g4 (fun h307 g5 => ?_) (fun h307 g5 => ?_)
  ·subst h307
   exact zqo [(57, 4, 0, .q (xb true)), (57, 5, 1, .q (.d (.pin [(di v302)]))), (57, 6, 2, .q (.d (dl eI (p1.1.take s1_10.toNat) (pcap p1.2 (s1_10 == (p1.1.length : Int))))))] [(57, 1000007, (.nor, zsb p0 p1 s1_10 v302 true))] g5 (ob (o_b h301) (ob (o_ia (e := eI) 1 h303 rfl) (ob (zCq (e := eI) (z := 1) (n := s1_10) p1.1 p1.2 h304) (ob (zIf k p0 p1 s1_10 v302 _ h306) ob0)))) (by kernel_rfl)
  ·subst h307
   exact zqn (w64 (s1_10 + 1)) [] [(57, 4, 0, .q (xb true)), (57, 5, 1, .q (.d (.pin [(di v302)]))), (57, 6, 2, .q (.d (dl eI (p1.1.take s1_10.toNat) (pcap p1.2 (s1_10 == (p1.1.length : Int))))))] [(57, 1000007, (.nor, zsb p0 p1 s1_10 v302 false))] g5 (ob (o_b h301) (ob (o_ia (e := eI) 1 h303 rfl) (ob (zCq (e := eI) (z := 1) (n := s1_10) p1.1 p1.2 h304) (ob (zIf k p0 p1 s1_10 v302 _ h306) ob0)))) (by kernel_rfl)
 ·exact zqo [(57, 4, 0, .q (xb false))] [] g1 (ob (o_b h301) ob0) (by kernel_rfl)
theorem zck (k : Nat) (p0 : zi) (p1 : (SL Int)) (r : Bool) (h : zDf k p0 p1 = some r) : zB TE (ev TE) 57 [(.agg (zn p0)), (dl eI p1.1 p1.2)] = some (zfd r) := by
 unfold zDf at h
 refine zo h (fun h1 g1 => ?_) (fun h1 g1 => ?_)
 ·exact zr (g := zfd) g1 (zqc [(57, 1, 1, .q (xi (p1.1.length : Int))), (57, 1, 5, .q (xi (p0.NamesakeBook.Letters.1.length : Int))), (57, 1, 6, .q (xb true))] [] (ob (zq eI p1.1) (ob (zq za p0.NamesakeBook.Letters.1) (ob (o_b h1) ob0))) (by kernel_rfl))
 ·refine zk g1 (fun v2 h3 g2 => ?_)
  refine zqd g2 (fun v5 hh g3_0 => ?_) (fun v5 hh g3_0 => ?_)
  ·subst hh
   exact zr (g := zfd) g3_0 (zqc [(57, 1, 1, .q (xi (p1.1.length : Int))), (57, 1, 5, .q (xi (p0.NamesakeBook.Letters.1.length : Int))), (57, 1, 6, .q (xb false)), (57, 3, 1, .q (xi (p1.1.length : Int)))] [(57, 0, (.ret, zQd p0 p1 v5))] (ob (zq eI p1.1) (ob (zq za p0.NamesakeBook.Letters.1) (ob (o_b h1) (ob (zq eI p1.1) (ob (zC (id := 0) (r' := (.ret, zQd p0 p1 v5)) (zYd (zGf k p0 p1) k _ _ h3) rfl) ob0))))) (by kernel_rfl))
  ·subst hh
   exact zr (g := zfd) g3_0 (zqc [(57, 1, 1, .q (xi (p1.1.length : Int))), (57, 1, 5, .q (xi (p0.NamesakeBook.Letters.1.length : Int))), (57, 1, 6, .q (xb false)), (57, 3, 1, .q (xi (p1.1.length : Int)))] [(57, 0, (.nor, zDd p0 p1 v5))] (ob (zq eI p1.1) (ob (zq za p0.NamesakeBook.Letters.1) (ob (o_b h1) (ob (zq eI p1.1) (ob (zC (id := 0) (r' := (.nor, zDd p0 p1 v5)) (zYd (zGf k p0 p1) k _ _ h3) rfl) ob0))))) (by kernel_rfl))
theorem zS (k : Nat) (p0 : zb) (p1 : (SL Int)) (r : zt1) (h : zqh k p0 p1 = some r) : zB TE (ev TE) 18 [(.agg (zd p0)), (dl eI p1.1 p1.2)] = some (zFg r) := by
 unfold zqh at h
 refine zk h (fun v1 h2 g1 => ?_)
 refine zo g1 (fun h3 g2 => ?_) (fun h3 g2 => ?_)
 ·exact zr (g := zFg) g2 (zqc [(18, 1, 1, .c (di v1)), (18, 2, 1, .q (xb true))] [] (ob (zF k p0 _ h2) (ob (o_b h3) ob0)) (by kernel_rfl))
 ·refine zk g2 (fun v4 h5 g3 => ?_)
  refine zk g3 (fun v6 h7 g4 => ?_)
  exact zr (g := zFg) g4 (zqc [(18, 1, 1, .c (di v1)), (18, 2, 1, .q (xb false)), (18, 4, 1, .c (.agg (zn v4))), (18, 5, 2, .c (db v6))] [] (ob (zF k p0 _ h2) (ob (o_b h3) (ob (zjb k p0 _ h5) (ob (zck k v4 p1 _ h7) ob0)))) (by kernel_rfl))
theorem zPb (k : Nat) (p0 : zi) (r : zt0) (h : zub k p0 = some r) : zB TE (ev TE) 59 [(.agg (zn p0))] = some (zah r) := by
 unfold zub at h
 exact zr (g := zah) h (zqc [] [] ob0 (by kernel_rfl))
noncomputable def zJo (p0 : zb) (v1 : Int) (v6 : zt0) : TM := [(0, (.d (.agg (zd p0)))), (zsp 1), (2, (xi 0)), (3, (xi 0)), (4, (xi v1)), (9, (xb false)), (zsp 5), (13, (.d (.fn 88 [] [(.pin [(dl za v6.1.1 v6.1.2), (dl (eL eI) v6.2.1.1 v6.2.1.2), (dl (aI 2) v6.2.2.1.1 v6.2.2.1.2), (di v6.2.2.2.1), (.mp (em (fun k => D.agg (zh k)) (fun b => D.b b) v6.2.2.2.2))])])))]
noncomputable def zGe (p0 : zb) (v1 : Int) (v6 : zt0) : Int → D × FS × List LRec := fun r => ((db true), ⟨[(2, (.cells [(.yld 0)])), (3, (.cells [(.fn 89 [] [(.d (.pin [(dl za v6.1.1 v6.1.2), (dl (eL eI) v6.2.1.1 v6.2.1.2), (dl (aI 2) v6.2.2.1.1 v6.2.2.1.2), (di v6.2.2.2.1), (.mp (em (fun k => D.agg (zh k)) (fun b => D.b b) v6.2.2.2.2))])), (.ptr 1 2 0), (.ptr 1 3 0)])]))], [[(zc 1 (zd p0)), (5, (.cells [(xi r)]))]]⟩, [⟨(zJo p0 v1 v6), 0, rfP (blk TE 20 0), rfA (blk TE 20 0), rfB (blk TE 20 0), 20, .rdy⟩])
noncomputable def zEe (p0 : zb) (v1 : Int) (v6 : zt0) (f : Fr) (fs : List Fr) : Int → D × FS × List LRec := fun r => ((db true), ⟨f, [[(zc 1 (zd p0)), (5, (.cells [(xi r)]))], [(2, (.cells [(.yld 0)])), (3, (.cells [(.fn 89 [] [(.d (.pin [(dl za v6.1.1 v6.1.2), (dl (eL eI) v6.2.1.1 v6.2.1.2), (dl (aI 2) v6.2.2.1.1 v6.2.2.1.2), (di v6.2.2.2.1), (.mp (em (fun k => D.agg (zh k)) (fun b => D.b b) v6.2.2.2.2))])), (.ptr 1 2 0), (.ptr 1 3 0)])]))]] ++ fs⟩, [⟨(zJo p0 v1 v6), 0, rfP (blk TE 20 0), rfA (blk TE 20 0), rfB (blk TE 20 0), 20, .rdy⟩])
noncomputable def zKd (p0 : zb) (v1 : Int) (v6 : zt0) (rc : zt10) (fs : List Fr) : Prop := ∀ (f : Fr) (u1_9 : Int) (r0 : (SL Int)) (x : Int), rc u1_9 r0 = some x → zyb TE (ev TE) 89 [(.d (dl eI r0.1 r0.2)), (.d (.pin [(dl za v6.1.1 v6.1.2), (dl (eL eI) v6.2.1.1 v6.2.1.2), (dl (aI 2) v6.2.2.1.1 v6.2.2.1.2), (di v6.2.2.2.1), (.mp (em (fun k => D.agg (zh k)) (fun b => D.b b) v6.2.2.2.2))])), (.ptr 1 2 0), (.ptr 1 3 0)] ⟨f, ([[(zc 1 (zd p0)), (5, (.cells [(xi u1_9)]))], [(2, (.cells [(.yld 0)])), (3, (.cells [(.fn 89 [] [(.d (.pin [(dl za v6.1.1 v6.1.2), (dl (eL eI) v6.2.1.1 v6.2.1.2), (dl (aI 2) v6.2.2.1.1 v6.2.2.1.2), (di v6.2.2.2.1), (.mp (em (fun k => D.agg (zh k)) (fun b => D.b b) v6.2.2.2.2))])), (.ptr 1 2 0), (.ptr 1 3 0)])]))]] ++ fs)⟩ [⟨(zJo p0 v1 v6), 0, rfP (blk TE 20 0), rfA (blk TE 20 0), rfB (blk TE 20 0), 20, .rdy⟩] = some (zEe p0 v1 v6 f fs x)
noncomputable def zYv (r0 : (SL Int)) (v6 : zt0) (v202 s2_10 : Int) (r : Bool) : TM := [(0, (.d (dl eI r0.1 r0.2))), (1, (.d (.pin [(dl za v6.1.1 v6.1.2), (dl (eL eI) v6.2.1.1 v6.2.1.2), (dl (aI 2) v6.2.2.1.1 v6.2.2.1.2), (di v6.2.2.2.1), (.mp (em (fun k => D.agg (zh k)) (fun b => D.b b) v6.2.2.2.2))]))), (2, (.ptr 1 2 0)), (3, (.ptr 1 3 0)), (5, (xb false)), (6, (xi (r0.1.length : Int))), (15, (xb false)), (25, (xi (if (w64 (v202 + 1)) < v6.2.2.2.1 then (w64 (v202 + 1)) else v6.2.2.2.1))), (26, (xi s2_10)), (27, (xb true)), (7, (xi s2_10)), (43, (xb r))]
noncomputable def zEd (p0 : zb) (v1 : Int) (v6 : zt0) (r0 : (SL Int)) (v202 s2_10 s2_15 : Int) (rc : zt10) (fs : List Fr) (r : Bool) : St := ⟨(zYv r0 v6 v202 s2_10 r), ⟨[], ([[(zc 1 (zd p0)), (5, (.cells [(xi s2_15)]))], [(2, (.cells [(.yld 0)])), (3, (.cells [(.fn 89 [] [(.d (.pin [(dl za v6.1.1 v6.1.2), (dl (eL eI) v6.2.1.1 v6.2.1.2), (dl (aI 2) v6.2.2.1.1 v6.2.2.1.2), (di v6.2.2.2.1), (.mp (em (fun k => D.agg (zh k)) (fun b => D.b b) v6.2.2.2.2))])), (.ptr 1 2 0), (.ptr 1 3 0)])]))]] ++ fs)⟩, [⟨(zJo p0 v1 v6), 0, rfP (blk TE 20 0), rfA (blk TE 20 0), rfB (blk TE 20 0), 20, .rdy⟩]⟩
noncomputable def z8v (r0 : (SL Int)) (v6 : zt0) (k : Nat) (v202 s2_10 : Int) : TM := [(0, (.d (dl eI r0.1 r0.2))), (1, (.d (.pin [(dl za v6.1.1 v6.1.2), (dl (eL eI) v6.2.1.1 v6.2.1.2), (dl (aI 2) v6.2.2.1.1 v6.2.2.1.2), (di v6.2.2.2.1), (.mp (em (fun k => D.agg (zh k)) (fun b => D.b b) v6.2.2.2.2))]))), (2, (.ptr 1 2 0)), (3, (.ptr 1 3 0)), (5, (xb false)), (6, (xi (r0.1.length : Int))), (15, (xb false)), (25, (xi (if (w64 (v202 + 1)) < v6.2.2.2.1 then (w64 (v202 + 1)) else v6.2.2.2.1))), (26, (xi s2_10)), (27, (xb true)), (7, (xi s2_10))]
noncomputable def zvr (p0 : zb) (v1 : Int) (v6 : zt0) (k : Nat) : TM := [(0, (.d (.agg (zd p0)))), (zsp 1), (2, (xi 0)), (3, (xi 0)), (4, (xi v1)), (9, (xb false)), (zsp 5), (13, (.d (.fn 88 [] [(.pin [(dl za v6.1.1 v6.1.2), (dl (eL eI) v6.2.1.1 v6.2.1.2), (dl (aI 2) v6.2.2.1.1 v6.2.2.1.2), (di v6.2.2.2.1), (.mp (em (fun k => D.agg (zh k)) (fun b => D.b b) v6.2.2.2.2))])])))]
theorem zqi (k : Nat) (p0 : zb) (v1 : Int) (v6 : zt0) (r0 : (SL Int)) (v202 s2_10 s2_15 : Int) (rc : zt10) (fs : List Fr) (hfs : fs.length ≤ 8) (hrc : zKd p0 v1 v6 rc fs) (r : Bool) (h : zvh k p0 v1 v6 r0 v202 s2_10 s2_15 rc = some r) : ev TE 89 (rgn TE 89 7) ⟨(z8v r0 v6 k v202 s2_10), ⟨[], ([[(zc 1 (zd p0)), (5, (.cells [(xi s2_15)]))], [(2, (.cells [(.yld 0)])), (3, (.cells [(.fn 89 [] [(.d (.pin [(dl za v6.1.1 v6.1.2), (dl (eL eI) v6.2.1.1 v6.2.1.2), (dl (aI 2) v6.2.2.1.1 v6.2.2.1.2), (di v6.2.2.2.1), (.mp (em (fun k => D.agg (zh k)) (fun b => D.b b) v6.2.2.2.2))])), (.ptr 1 2 0), (.ptr 1 3 0)])]))]] ++ fs)⟩, [⟨(zvr p0 v1 v6 k), 0, rfP (blk TE 20 0), rfA (blk TE 20 0), rfB (blk TE 20 0), 20, .rdy⟩]⟩ = some (.nor, zEd p0 v1 v6 r0 v202 s2_10 s2_15 rc fs r) := by
 unfold zvh at h
 refine zk h (fun v501 h502 g1 => ?_)
 refine zo g1 (fun h503 g2 => ?_) (fun h503 g2 => ?_)
 ·exact zw (g := fun r => (Ex.nor, zEd p0 v1 v6 r0 v202 s2_10 s2_15 rc fs r)) g2 (zqe [(89, 7, 4, .c (db v501)), (89, 7, 6, .q (xb true))] [] (ob (zU k (⟨(⟨v6.1, v6.2.1, v6.2.2.1, v6.2.2.2.1⟩ : zb), v6.2.2.2.2⟩ : zi) r0 (r0.1.length : Int) s2_10 _ h502) (ob (o_b h503) ob0)) (by cases f8 hfs <;> kernel_rfl))
 ·refine zk g2 (fun v504 h505 g3 => ?_)
  refine zk g3 (fun v506 h507 g4 => ?_)
  exact zw (g := fun r => (Ex.nor, zEd p0 v1 v6 r0 v202 s2_10 s2_15 rc fs r)) g4 (zqe [(89, 7, 4, .c (db v501)), (89, 7, 6, .q (xb false)), (89, 7, 10, .c (.agg (aB 8 v504))), (89, 7, 12, .c (db v506))] [] (ob (zU k (⟨(⟨v6.1, v6.2.1, v6.2.2.1, v6.2.2.2.1⟩ : zb), v6.2.2.2.2⟩ : zi) r0 (r0.1.length : Int) s2_10 _ h502) (ob (o_b h503) (ob (z9d k r0 s2_10 _ h505) (ob (zTb k (⟨(⟨v6.1, v6.2.1, v6.2.2.1, v6.2.2.2.1⟩ : zb), v6.2.2.2.2⟩ : zi) v504 (r0.1.length : Int) _ h507) ob0)))) (by cases f8 hfs <;> kernel_rfl))
noncomputable def z7v (r0 : (SL Int)) (v6 : zt0) (v202 s2_10 : Int) : TM := [(0, (.d (dl eI r0.1 r0.2))), (1, (.d (.pin [(dl za v6.1.1 v6.1.2), (dl (eL eI) v6.2.1.1 v6.2.1.2), (dl (aI 2) v6.2.2.1.1 v6.2.2.1.2), (di v6.2.2.2.1), (.mp (em (fun k => D.agg (zh k)) (fun b => D.b b) v6.2.2.2.2))]))), (2, (.ptr 1 2 0)), (3, (.ptr 1 3 0)), (5, (xb false)), (6, (xi (r0.1.length : Int))), (15, (xb false)), (25, (xi (if (w64 (v202 + 1)) < v6.2.2.2.1 then (w64 (v202 + 1)) else v6.2.2.2.1))), (26, (xi s2_10))]
noncomputable def zJm (p0 : zb) (v1 : Int) (v6 : zt0) (r0 : (SL Int)) (v202 : Int) (rc : zt10) (fs : List Fr) (s2_10 s2_15 : Int) : St := ⟨(z7v r0 v6 v202 s2_10), ⟨[], ([[(zc 1 (zd p0)), (5, (.cells [(xi s2_15)]))], [(2, (.cells [(.yld 0)])), (3, (.cells [(.fn 89 [] [(.d (.pin [(dl za v6.1.1 v6.1.2), (dl (eL eI) v6.2.1.1 v6.2.1.2), (dl (aI 2) v6.2.2.1.1 v6.2.2.1.2), (di v6.2.2.2.1), (.mp (em (fun k => D.agg (zh k)) (fun b => D.b b) v6.2.2.2.2))])), (.ptr 1 2 0), (.ptr 1 3 0)])]))]] ++ fs)⟩, [⟨(zJo p0 v1 v6), 0, rfP (blk TE 20 0), rfA (blk TE 20 0), rfB (blk TE 20 0), 20, .rdy⟩]⟩
noncomputable def zow (r0 : (SL Int)) (v6 : zt0) (v202 : Int) (r : zt7) : TM := [(0, (.d (dl eI r0.1 r0.2))), (1, (.d (.pin [(dl za v6.1.1 v6.1.2), (dl (eL eI) v6.2.1.1 v6.2.1.2), (dl (aI 2) v6.2.2.1.1 v6.2.2.1.2), (di v6.2.2.2.1), (.mp (em (fun k => D.agg (zh k)) (fun b => D.b b) v6.2.2.2.2))]))), (2, (.ptr 1 2 0)), (3, (.ptr 1 3 0)), (5, (xb false)), (6, (xi (r0.1.length : Int))), (15, (xb false)), (25, (xi (if (w64 (v202 + 1)) < v6.2.2.2.1 then (w64 (v202 + 1)) else v6.2.2.2.1))), (26, (xi r.1)), (27, (xb false))]
noncomputable def zsd (p0 : zb) (v1 : Int) (v6 : zt0) (r0 : (SL Int)) (v202 : Int) (rc : zt10) (fs : List Fr) (r : zt7) : St := ⟨(zow r0 v6 v202 r), ⟨[], ([[(zc 1 (zd p0)), (5, (.cells [(xi r.2)]))], [(2, (.cells [(.yld 0)])), (3, (.cells [(.fn 89 [] [(.d (.pin [(dl za v6.1.1 v6.1.2), (dl (eL eI) v6.2.1.1 v6.2.1.2), (dl (aI 2) v6.2.2.1.1 v6.2.2.1.2), (di v6.2.2.2.1), (.mp (em (fun k => D.agg (zh k)) (fun b => D.b b) v6.2.2.2.2))])), (.ptr 1 2 0), (.ptr 1 3 0)])]))]] ++ fs)⟩, [⟨(zJo p0 v1 v6), 0, rfP (blk TE 20 0), rfA (blk TE 20 0), rfB (blk TE 20 0), 20, .rdy⟩]⟩
noncomputable def zRm (p0 : zb) (v1 : Int) (v6 : zt0) (r0 : (SL Int)) (v202 : Int) (rc : zt10) (fs : List Fr) : (Int × Int) → Ex × St := fun r => ((.exit 0), zsd p0 v1 v6 r0 v202 rc fs r)
theorem zvi (k : Nat) (p0 : zb) (v1 : Int) (v6 : zt0) (r0 : (SL Int)) (v202 : Int) (rc : zt10) (fs : List Fr) (hfs : fs.length ≤ 8) (hrc : zKd p0 v1 v6 rc fs) (s2_10 s2_15 : Int) (x : (Int × Int) ⊕ (Int × Int)) (h : zsh k p0 v1 v6 r0 v202 rc s2_10 s2_15 = some x) : zL TE 89 (blk TE 89 0) (fun s : (Int × Int) => zJm p0 v1 v6 r0 v202 rc fs s.1 s.2) (zRm p0 v1 v6 r0 v202 rc fs) (s2_10, s2_15) x := by
 unfold zsh at h
 refine zo h (fun h401 g1 => ?_) (fun h401 g1 => ?_)
 ·refine zk g1 (fun v402 h403 g2 => ?_)
  refine zo g2 (fun h404 g3 => ?_) (fun h404 g3 => ?_)
  ·subst h404
   exact zqn ((w64 (s2_10 + 1)), s2_15) [] [(89, 5, 0, .q (xb true))] [(89, 1000007, (.nor, zEd p0 v1 v6 r0 v202 s2_10 s2_15 rc fs true))] g3 (ob (o_b h401) (ob (zqi k p0 v1 v6 r0 v202 s2_10 s2_15 rc fs hfs hrc _ h403) ob0)) (by cases f8 hfs <;> kernel_rfl)
  ·subst h404
   refine zo g3 (fun h405 g4 => ?_) (fun h405 g4 => ?_)
   ·cases g4
   ·refine zDb g4 (fun h406 g5 => ?_)
    refine zk g5 (fun v407 h408 g6 => ?_)
    exact zqn ((w64 (s2_10 + 1)), v407) [] [(89, 5, 0, .q (xb true)), (89, 8, 4, .q (.d (dl eI r0.1 (ccap r0.2)))), (89, 8, 7, .q (.d (dl eI (r0.1 ++ [s2_10]) .ro))), (89, 8, 8, .i (db true) ⟨[], ([[(1, (.cells ((zd p0).map .d))), (5, (.cells [(xi v407)]))], [(2, (.cells [(.yld 0)])), (3, (.cells [(.fn 89 [] [(.d (.pin [(dl za v6.1.1 v6.1.2), (dl (eL eI) v6.2.1.1 v6.2.1.2), (dl (aI 2) v6.2.2.1.1 v6.2.2.1.2), (di v6.2.2.2.1), (.mp (em (fun k => D.agg (zh k)) (fun b => D.b b) v6.2.2.2.2))])), (.ptr 1 2 0), (.ptr 1 3 0)])]))]] ++ fs)⟩ [⟨[(0, (.d (.agg (zd p0)))), (1, (.ptr 0 1 0)), (2, (xi 0)), (3, (xi 0)), (4, (xi v1)), (9, (xb false)), (5, (.ptr 0 5 0)), (13, (.d (.fn 88 [] [(.pin [(dl za v6.1.1 v6.1.2), (dl (eL eI) v6.2.1.1 v6.2.1.2), (dl (aI 2) v6.2.2.1.1 v6.2.2.1.2), (di v6.2.2.2.1), (.mp (em (fun k => D.agg (zh k)) (fun b => D.b b) v6.2.2.2.2))])])))], 0, rfP (blk TE 20 0), rfA (blk TE 20 0), rfB (blk TE 20 0), 20, .rdy⟩])] [(89, 1000007, (.nor, zEd p0 v1 v6 r0 v202 s2_10 s2_15 rc fs false))] g6 (ob (o_b h401) (ob (zqi k p0 v1 v6 r0 v202 s2_10 s2_15 rc fs hfs hrc _ h403) (ob (zSl (e := eI) (z := 1) r0.1 r0.2) (ob (o_ad (P := TE.P) (φ := fun _ _ => none) (T := 27) (q := (1, [(di 0)])) (c := (ccap r0.2)) (e := eI) r0.1 s2_10 (by kernel_rfl) (fun _ => rfl) h405 h406) (ob (hrc ([] : Fr) s2_15 ((r0.1 ++ [s2_10]), .ro) _ h408) ob0))))) (by cases f8 hfs <;> kernel_rfl)
 ·exact zqo [(89, 5, 0, .q (xb false))] [] g1 (ob (o_b h401) ob0) (by cases f8 hfs <;> kernel_rfl)
theorem zBl (k : Nat) (p0 : zb) (v1 : Int) (v6 : zt0) (rc : zt10) (hrc : zKd p0 v1 v6 rc []) (u1_9 : Int) (r0 : (SL Int)) (x : Int) (h : zPd k p0 v1 v6 rc u1_9 r0 = some x) : zyb TE (ev TE) 89 [(.d (dl eI r0.1 r0.2)), (.d (.pin [(dl za v6.1.1 v6.1.2), (dl (eL eI) v6.2.1.1 v6.2.1.2), (dl (aI 2) v6.2.2.1.1 v6.2.2.1.2), (di v6.2.2.2.1), (.mp (em (fun k => D.agg (zh k)) (fun b => D.b b) v6.2.2.2.2))])), (.ptr 1 2 0), (.ptr 1 3 0)] ⟨[(2, (.cells [(.yld 0)])), (3, (.cells [(.fn 89 [] [(.d (.pin [(dl za v6.1.1 v6.1.2), (dl (eL eI) v6.2.1.1 v6.2.1.2), (dl (aI 2) v6.2.2.1.1 v6.2.2.1.2), (di v6.2.2.2.1), (.mp (em (fun k => D.agg (zh k)) (fun b => D.b b) v6.2.2.2.2))])), (.ptr 1 2 0), (.ptr 1 3 0)])]))], [[(zc 1 (zd p0)), (5, (.cells [(xi u1_9)]))]]⟩ [⟨(zvr p0 v1 v6 k), 0, rfP (blk TE 20 0), rfA (blk TE 20 0), rfB (blk TE 20 0), 20, .rdy⟩] = some (zGe p0 v1 v6 x) := by
 unfold zPd at h
 refine zo h (fun h201 g1 => ?_) (fun h201 g1 => ?_)
 ·exact zAc (g := zGe p0 v1 v6) g1 (zzb (n := 80) (V := [(89, 1, 1, .q (xi (r0.1.length : Int))), (89, 2, 4, .q (xi (v6.1.1.length : Int))), (89, 2, 5, .q (xb true))]) (C := []) (ob (zq eI r0.1) (ob (zq za v6.1.1) (ob (o_b h201) ob0))) (by kernel_rfl))
 ·refine zk g1 (fun v202 h203 g2 => ?_)
  refine zk g2 (fun v204 h205 g3 => ?_)
  exact zAc (g := zGe p0 v1 v6) g3 (zzb (n := 80) (V := [(89, 1, 1, .q (xi (r0.1.length : Int))), (89, 2, 4, .q (xi (v6.1.1.length : Int))), (89, 2, 5, .q (xb false)), (89, 4, 4, .c (di v202))]) (C := [(89, 0, (.nor, zsd p0 v1 v6 r0 v202 rc ([] : List Fr) v204))]) (ob (zq eI r0.1) (ob (zq za v6.1.1) (ob (o_b h201) (ob (zP k r0 _ h203) (ob (zC (id := 0) (r' := (.nor, zsd p0 v1 v6 r0 v202 rc ([] : List Fr) v204)) (zHc (zvi k p0 v1 v6 r0 v202 rc ([] : List Fr) (Nat.zero_le _) hrc) k _ _ h205) rfl) ob0))))) (by kernel_rfl))
theorem zWl (k : Nat) (p0 : zb) (v1 : Int) (v6 : zt0) (rc : zt10) (f : Fr) (fs : List Fr) (hfs : fs.length + 1 ≤ 8) (hrc : zKd p0 v1 v6 rc (fs ++ [f])) (u1_9 : Int) (r0 : (SL Int)) (x : Int) (h : zPd k p0 v1 v6 rc u1_9 r0 = some x) : zyb TE (ev TE) 89 [(.d (dl eI r0.1 r0.2)), (.d (.pin [(dl za v6.1.1 v6.1.2), (dl (eL eI) v6.2.1.1 v6.2.1.2), (dl (aI 2) v6.2.2.1.1 v6.2.2.1.2), (di v6.2.2.2.1), (.mp (em (fun k => D.agg (zh k)) (fun b => D.b b) v6.2.2.2.2))])), (.ptr 1 2 0), (.ptr 1 3 0)] ⟨f, ([[(zc 1 (zd p0)), (5, (.cells [(xi u1_9)]))], [(2, (.cells [(.yld 0)])), (3, (.cells [(.fn 89 [] [(.d (.pin [(dl za v6.1.1 v6.1.2), (dl (eL eI) v6.2.1.1 v6.2.1.2), (dl (aI 2) v6.2.2.1.1 v6.2.2.1.2), (di v6.2.2.2.1), (.mp (em (fun k => D.agg (zh k)) (fun b => D.b b) v6.2.2.2.2))])), (.ptr 1 2 0), (.ptr 1 3 0)])]))]] ++ fs)⟩ [⟨(zvr p0 v1 v6 k), 0, rfP (blk TE 20 0), rfA (blk TE 20 0), rfB (blk TE 20 0), 20, .rdy⟩] = some (zEe p0 v1 v6 f fs x) := by
 unfold zPd at h
 refine zo h (fun h201 g1 => ?_) (fun h201 g1 => ?_)
 ·exact zAc (g := zEe p0 v1 v6 f fs) g1 (zzb (n := 80) (V := [(89, 1, 1, .q (xi (r0.1.length : Int))), (89, 2, 4, .q (xi (v6.1.1.length : Int))), (89, 2, 5, .q (xb true))]) (C := []) (ob (zq eI r0.1) (ob (zq za v6.1.1) (ob (o_b h201) ob0))) (by cases f8 (Nat.le_of_succ_le hfs) <;> kernel_rfl))
 ·refine zk g1 (fun v202 h203 g2 => ?_)
  refine zk g2 (fun v204 h205 g3 => ?_)
  exact zAc (g := zEe p0 v1 v6 f fs) g3 (zzb (n := 80) (V := [(89, 1, 1, .q (xi (r0.1.length : Int))), (89, 2, 4, .q (xi (v6.1.1.length : Int))), (89, 2, 5, .q (xb false)), (89, 4, 4, .c (di v202))]) (C := [(89, 0, (.nor, zsd p0 v1 v6 r0 v202 rc (fs ++ [f]) v204))]) (ob (zq eI r0.1) (ob (zq za v6.1.1) (ob (o_b h201) (ob (zP k r0 _ h203) (ob (zC (id := 0) (r' := (.nor, zsd p0 v1 v6 r0 v202 rc (fs ++ [f]) v204)) (zHc (zvi k p0 v1 v6 r0 v202 rc (fs ++ [f]) (zYi f hfs) hrc) k _ _ h205) rfl) ob0))))) (by cases f8 (Nat.le_of_succ_le hfs) <;> kernel_rfl))
theorem zhi (k : Nat) (p0 : zb) (v1 : Int) (v6 : zt0) : ∀ (n : Nat) (fs : List Fr), fs.length + n ≤ 8 → zKd p0 v1 v6 (zFe k p0 v1 v6 n) fs
 | 0, fs, hfs => fun f u1_9 r0 x h => by cases h
 | n + 1, fs, hfs => fun f u1_9 r0 x h => zWl k p0 v1 v6 _ f fs (by omega) (zhi k p0 v1 v6 n (fs ++ [f]) (by simp; omega)) u1_9 r0 x h
theorem zrm (k : Nat) (p0 : zb) (v1 : Int) (v6 : zt0) (u1_9 : Int) (r0 : (SL Int)) (x : Int) (h : zFe k p0 v1 v6 9 u1_9 r0 = some x) : zyb TE (ev TE) 89 [(.d (dl eI r0.1 r0.2)), (.d (.pin [(dl za v6.1.1 v6.1.2), (dl (eL eI) v6.2.1.1 v6.2.1.2), (dl (aI 2) v6.2.2.1.1 v6.2.2.1.2), (di v6.2.2.2.1), (.mp (em (fun k => D.agg (zh k)) (fun b => D.b b) v6.2.2.2.2))])), (.ptr 1 2 0), (.ptr 1 3 0)] ⟨[(2, (.cells [(.yld 0)])), (3, (.cells [(.fn 89 [] [(.d (.pin [(dl za v6.1.1 v6.1.2), (dl (eL eI) v6.2.1.1 v6.2.1.2), (dl (aI 2) v6.2.2.1.1 v6.2.2.1.2), (di v6.2.2.2.1), (.mp (em (fun k => D.agg (zh k)) (fun b => D.b b) v6.2.2.2.2))])), (.ptr 1 2 0), (.ptr 1 3 0)])]))], [[(zc 1 (zd p0)), (5, (.cells [(xi u1_9)]))]]⟩ [⟨(zvr p0 v1 v6 k), 0, rfP (blk TE 20 0), rfA (blk TE 20 0), rfB (blk TE 20 0), 20, .rdy⟩] = some (zGe p0 v1 v6 x) := zBl k p0 v1 v6 _ (zhi k p0 v1 v6 8 [] (by decide)) u1_9 r0 x h
theorem zeb (k : Nat) (p0 : zb) (r : zt7) (h : zlj k p0 = some r) : zB TE (ev TE) 20 [(.agg (zd p0))] = some (zVh r) := by
 unfold zlj at h
 refine zk h (fun v1 h2 g1 => ?_)
 refine zo g1 (fun h3 g2 => ?_) (fun h3 g2 => ?_)
 ·exact zr (g := zVh) g2 (zqc [(20, 1, 1, .c (di v1)), (20, 2, 1, .q (xb true))] [] (ob (zF k p0 _ h2) (ob (o_b h3) ob0)) (by kernel_rfl))
 ·refine zk g2 (fun v4 h5 g3 => ?_)
  refine zk g3 (fun v6 h7 g4 => ?_)
  refine zk g4 (fun v8 h9 g5 => ?_)
  exact zr (g := zVh) g5 (zqc [(20, 1, 1, .c (di v1)), (20, 2, 1, .q (xb false)), (20, 5, 1, .c (.agg (zn v4))), (20, 5, 2, .c (.fn 88 [] [(.pin [(dl za v6.1.1 v6.1.2), (dl (eL eI) v6.2.1.1 v6.2.1.2), (dl (aI 2) v6.2.2.1.1 v6.2.2.1.2), (di v6.2.2.2.1), (.mp (em (fun k => D.agg (zh k)) (fun b => D.b b) v6.2.2.2.2))])])), (88, 3, 1, .i (db true) ⟨[(2, (.cells [(.yld 0)])), (3, (.cells [(.fn 89 [] [(.d (.pin [(dl za v6.1.1 v6.1.2), (dl (eL eI) v6.2.1.1 v6.2.1.2), (dl (aI 2) v6.2.2.1.1 v6.2.2.1.2), (di v6.2.2.2.1), (.mp (em (fun k => D.agg (zh k)) (fun b => D.b b) v6.2.2.2.2))])), (.ptr 1 2 0), (.ptr 1 3 0)])]))], [[(1, (.cells ((zd p0).map .d))), (5, (.cells [(xi v8)]))]]⟩ [⟨[(0, (.d (.agg (zd p0)))), (1, (.ptr 0 1 0)), (2, (xi 0)), (3, (xi 0)), (4, (xi v1)), (9, (xb false)), (5, (.ptr 0 5 0)), (13, (.d (.fn 88 [] [(.pin [(dl za v6.1.1 v6.1.2), (dl (eL eI) v6.2.1.1 v6.2.1.2), (dl (aI 2) v6.2.2.1.1 v6.2.2.1.2), (di v6.2.2.2.1), (.mp (em (fun k => D.agg (zh k)) (fun b => D.b b) v6.2.2.2.2))])])))], 0, rfP (blk TE 20 0), rfA (blk TE 20 0), rfB (blk TE 20 0), 20, .rdy⟩])] [] (ob (zF k p0 _ h2) (ob (o_b h3) (ob (zjb k p0 _ h5) (ob (zPb k v4 _ h7) (ob (zrm k p0 v1 v6 0 ([], Cap.nil) _ h9) ob0))))) (by kernel_rfl))
theorem znj (k : Nat) (r : Unit) (h : zWg k = some r) : zB TE (ev TE) 63 [] = some (zYj r) := by
 unfold zWg at h
 exact zr (g := zYj) h (zqc [] [] ob0 (by kernel_rfl))
theorem zsk (k : Nat) (p0 r : (SL Int)) (h : zYc k p0 = some r) : zB TE (ev TE) 64 [(dl eI p0.1 p0.2)] = some (zff r) := by
 unfold zYc at h
 refine zo h (fun h1 g1 => ?_) (fun h1 g1 => ?_)
 ·exact zr (g := zff) g1 (zqc [(64, 1, 1, .q (xb true))] [] (ob (o_b h1) ob0) (by kernel_rfl))
 ·refine zDb g1 (fun h2 g2 => ?_)
  exact zr (g := zff) g2 (zqr [(64, 1, 1, .q (xb false)), (64, 3, 2, .ns (p0.1.map eI) p0.1.length)] [] [(dl eI p0.1 (rcap false p0.1))] (ob (o_b h1) (ob (zlg p0.1 eI) (ob (o_ns (P := TE.P) (φ := fun _ _ => none) (T := 27) (q := (1, [(di 0)])) (c := p0.2) (e := eI) p0.1 (by kernel_rfl) (fun _ => rfl) h2) (ob (rfl : (([] : List (List D)).isEmpty || !(p0.1.map eI).isEmpty) = true) (ob (show zmc ⟨[(7, (rowO false 1 eI p0.1 true))], []⟩ _ = _ from (o_s1 (x := (.row 0 7 p0.1.length)) (zmp false 1 eI p0.1 true rfl) o_s0)) ob0))))) (by kernel_rfl))
theorem zum (k : Nat) (p0 p1 : (SL Int)) (r : Bool) (h : zRf k p0 p1 = some r) : zB TE (ev TE) 90 [(dl eI p0.1 p0.2), (dl eI p1.1 p1.2)] = some (zZi r) := by
 unfold zRf at h
 refine zk h (fun v1 h2 g1 => ?_)
 refine zk g1 (fun v3 h4 g2 => ?_)
 exact zr (g := zZi) g2 (zqc [(90, 1, 1, .c (di v1)), (90, 1, 3, .c (di v3))] [] (ob (zP k p0 _ h2) (ob (zP k p1 _ h4) ob0)) (by kernel_rfl))
noncomputable def z5k (p0 : zb) (v1 : Int) (v8 : zt0) : TM := [(0, (.d (.agg (zd p0)))), (zsp 1), (2, (.d (.sl [] .nil))), (3, (xi 0)), (4, (xi v1)), (11, (xb false)), (zsp 5), (zsp 6), (16, (.d (.fn 88 [] [(.pin [(dl za v8.1.1 v8.1.2), (dl (eL eI) v8.2.1.1 v8.2.1.2), (dl (aI 2) v8.2.2.1.1 v8.2.2.1.2), (di v8.2.2.2.1), (.mp (em (fun k => D.agg (zh k)) (fun b => D.b b) v8.2.2.2.2))])])))]
noncomputable def zfe (p0 : zb) (v1 : Int) (v8 : zt0) : (SL Int) → D × FS × List LRec := fun r => ((db true), ⟨[(2, (.cells [(.yld 0)])), (3, (.cells [(.fn 89 [] [(.d (.pin [(dl za v8.1.1 v8.1.2), (dl (eL eI) v8.2.1.1 v8.2.1.2), (dl (aI 2) v8.2.2.1.1 v8.2.2.1.2), (di v8.2.2.2.1), (.mp (em (fun k => D.agg (zh k)) (fun b => D.b b) v8.2.2.2.2))])), (.ptr 1 2 0), (.ptr 1 3 0)])]))], [[(zc 1 (zd p0)), (5, (.cells [(.d (.fn 90 [] []))])), (6, (.cells [(.d (dl eI r.1 r.2))]))]]⟩, [⟨(z5k p0 v1 v8), 0, rfP (blk TE 25 0), rfA (blk TE 25 0), rfB (blk TE 25 0), 25, .rdy⟩])
noncomputable def zoe (p0 : zb) (v1 : Int) (v8 : zt0) (f : Fr) (fs : List Fr) : (SL Int) → D × FS × List LRec := fun r => ((db true), ⟨f, [[(zc 1 (zd p0)), (5, (.cells [(.d (.fn 90 [] []))])), (6, (.cells [(.d (dl eI r.1 r.2))]))], [(2, (.cells [(.yld 0)])), (3, (.cells [(.fn 89 [] [(.d (.pin [(dl za v8.1.1 v8.1.2), (dl (eL eI) v8.2.1.1 v8.2.1.2), (dl (aI 2) v8.2.2.1.1 v8.2.2.1.2), (di v8.2.2.2.1), (.mp (em (fun k => D.agg (zh k)) (fun b => D.b b) v8.2.2.2.2))])), (.ptr 1 2 0), (.ptr 1 3 0)])]))]] ++ fs⟩, [⟨(z5k p0 v1 v8), 0, rfP (blk TE 25 0), rfA (blk TE 25 0), rfB (blk TE 25 0), 25, .rdy⟩])
noncomputable def z1b (p0 : zb) (v1 : Int) (v8 : zt0) (rc : zt8) (fs : List Fr) : Prop := ∀ (f : Fr) (u1_9 : (SL Int)) (r0 : (SL Int)) (x : (SL Int)), rc u1_9 r0 = some x → zyb TE (ev TE) 89 [(.d (dl eI r0.1 r0.2)), (.d (.pin [(dl za v8.1.1 v8.1.2), (dl (eL eI) v8.2.1.1 v8.2.1.2), (dl (aI 2) v8.2.2.1.1 v8.2.2.1.2), (di v8.2.2.2.1), (.mp (em (fun k => D.agg (zh k)) (fun b => D.b b) v8.2.2.2.2))])), (.ptr 1 2 0), (.ptr 1 3 0)] ⟨f, ([[(zc 1 (zd p0)), (5, (.cells [(.d (.fn 90 [] []))])), (6, (.cells [(.d (dl eI u1_9.1 u1_9.2))]))], [(2, (.cells [(.yld 0)])), (3, (.cells [(.fn 89 [] [(.d (.pin [(dl za v8.1.1 v8.1.2), (dl (eL eI) v8.2.1.1 v8.2.1.2), (dl (aI 2) v8.2.2.1.1 v8.2.2.1.2), (di v8.2.2.2.1), (.mp (em (fun k => D.agg (zh k)) (fun b => D.b b) v8.2.2.2.2))])), (.ptr 1 2 0), (.ptr 1 3 0)])]))]] ++ fs)⟩ [⟨(z5k p0 v1 v8), 0, rfP (blk TE 25 0), rfA (blk TE 25 0), rfB (blk TE 25 0), 25, .rdy⟩] = some (zoe p0 v1 v8 f fs x)
noncomputable def zrw (p0 : zb) (v1 : Int) (v8 : zt0) (r0 : (SL Int)) (r : Bool) : TM := z5k p0 v1 v8 ++ [(17, (.d (dl eI r0.1 r0.2))), (7, (.d (dl eI r0.1 r0.2))), (26, (xb r))]
noncomputable def zkd (p0 : zb) (v1 : Int) (v8 : zt0) (u1_9 r0 : (SL Int)) (rc : zt8) (fs : List Fr) (r : Bool) : St := ⟨(zrw p0 v1 v8 r0 r), ⟨[], ([[(zc 1 (zd p0)), (5, (.cells [(.d (.fn 90 [] []))])), (6, (.cells [(.d (dl eI u1_9.1 u1_9.2))]))], [(2, (.cells [(.yld 0)])), (3, (.cells [(.fn 89 [] [(.d (.pin [(dl za v8.1.1 v8.1.2), (dl (eL eI) v8.2.1.1 v8.2.1.2), (dl (aI 2) v8.2.2.1.1 v8.2.2.1.2), (di v8.2.2.2.1), (.mp (em (fun k => D.agg (zh k)) (fun b => D.b b) v8.2.2.2.2))])), (.ptr 1 2 0), (.ptr 1 3 0)])]))]] ++ (fs ++ [[]]))⟩, [⟨(z5k p0 v1 v8), 0, rfP (blk TE 25 0), rfA (blk TE 25 0), rfB (blk TE 25 0), 25, .busy⟩]⟩
noncomputable def zyu (p0 : zb) (v1 : Int) (v8 : zt0) (k : Nat) (r0 : (SL Int)) : TM := [(0, (.d (.agg (zd p0)))), (zsp 1), (2, (.d (.sl [] .nil))), (3, (xi 0)), (4, (xi v1)), (11, (xb false)), (zsp 5), (zsp 6), (16, (.d (.fn 88 [] [(.pin [(dl za v8.1.1 v8.1.2), (dl (eL eI) v8.2.1.1 v8.2.1.2), (dl (aI 2) v8.2.2.1.1 v8.2.2.1.2), (di v8.2.2.2.1), (.mp (em (fun k => D.agg (zh k)) (fun b => D.b b) v8.2.2.2.2))])]))), (17, (.d (dl eI r0.1 r0.2))), (7, (.d (dl eI r0.1 r0.2)))]
noncomputable def zKo (p0 : zb) (v1 : Int) (v8 : zt0) (k : Nat) : TM := [(0, (.d (.agg (zd p0)))), (zsp 1), (2, (.d (.sl [] .nil))), (3, (xi 0)), (4, (xi v1)), (11, (xb false)), (zsp 5), (zsp 6), (16, (.d (.fn 88 [] [(.pin [(dl za v8.1.1 v8.1.2), (dl (eL eI) v8.2.1.1 v8.2.1.2), (dl (aI 2) v8.2.2.1.1 v8.2.2.1.2), (di v8.2.2.2.1), (.mp (em (fun k => D.agg (zh k)) (fun b => D.b b) v8.2.2.2.2))])])))]
theorem zbi (k : Nat) (p0 : zb) (v1 : Int) (v8 : zt0) (u1_9 r0 : (SL Int)) (rc : zt8) (fs : List Fr) (hfs : fs.length ≤ 8) (hrc : z1b p0 v1 v8 rc fs) (r : Bool) (h : zkf k p0 v1 v8 u1_9 r0 rc = some r) : ev TE 25 (rgn TE 25 8) ⟨(zyu p0 v1 v8 k r0), ⟨[], ([[(zc 1 (zd p0)), (5, (.cells [(.d (.fn 90 [] []))])), (6, (.cells [(.d (dl eI u1_9.1 u1_9.2))]))], [(2, (.cells [(.yld 0)])), (3, (.cells [(.fn 89 [] [(.d (.pin [(dl za v8.1.1 v8.1.2), (dl (eL eI) v8.2.1.1 v8.2.1.2), (dl (aI 2) v8.2.2.1.1 v8.2.2.1.2), (di v8.2.2.2.1), (.mp (em (fun k => D.agg (zh k)) (fun b => D.b b) v8.2.2.2.2))])), (.ptr 1 2 0), (.ptr 1 3 0)])]))]] ++ (fs ++ [[]]))⟩, [⟨(zKo p0 v1 v8 k), 0, rfP (blk TE 25 0), rfA (blk TE 25 0), rfB (blk TE 25 0), 25, .busy⟩]⟩ = some (.nor, zkd p0 v1 v8 u1_9 r0 rc fs r) := by
 unfold zkf at h
 refine zo h (fun h301 g1 => ?_) (fun h301 g1 => ?_)
 ·exact zw (g := fun r => (Ex.nor, zkd p0 v1 v8 u1_9 r0 rc fs r)) g1 (zqe [(25, 8, 2, .q (xb true))] [] (ob (o_b h301) ob0) (by cases f8 hfs <;> kernel_rfl))
 ·refine zk g1 (fun v302 h303 g2 => ?_)
  exact zw (g := fun r => (Ex.nor, zkd p0 v1 v8 u1_9 r0 rc fs r)) g2 (zqe [(25, 8, 2, .q (xb false)), (25, 8, 7, .c (db v302))] [] (ob (o_b h301) (ob (zum k r0 u1_9 _ h303) ob0)) (by cases f8 hfs <;> kernel_rfl))
noncomputable def zzw (p0 : zb) (v1 : Int) (v8 : zt0) (r0 : (SL Int)) (r : (Bool × (SL Int))) : TM := z5k p0 v1 v8 ++ [(17, (.d (dl eI r0.1 r0.2))), (7, (.d (dl eI r0.1 r0.2))), (26, (xb r.1))]
noncomputable def zld (p0 : zb) (v1 : Int) (v8 : zt0) (u1_9 r0 : (SL Int)) (v202 : Bool) (rc : zt8) (fs : List Fr) (r : (Bool × (SL Int))) : St := ⟨(zzw p0 v1 v8 r0 r), ⟨[], ([[(zc 1 (zd p0)), (5, (.cells [(.d (.fn 90 [] []))])), (6, (.cells [(.d (dl eI r.2.1 r.2.2))]))], [(2, (.cells [(.yld 0)])), (3, (.cells [(.fn 89 [] [(.d (.pin [(dl za v8.1.1 v8.1.2), (dl (eL eI) v8.2.1.1 v8.2.1.2), (dl (aI 2) v8.2.2.1.1 v8.2.2.1.2), (di v8.2.2.2.1), (.mp (em (fun k => D.agg (zh k)) (fun b => D.b b) v8.2.2.2.2))])), (.ptr 1 2 0), (.ptr 1 3 0)])]))]] ++ (fs ++ [[]]))⟩, [⟨(z5k p0 v1 v8), 0, rfP (blk TE 25 0), rfA (blk TE 25 0), rfB (blk TE 25 0), 25, .busy⟩]⟩
theorem z5h (k : Nat) (p0 : zb) (v1 : Int) (v8 : zt0) (u1_9 r0 : (SL Int)) (v202 : Bool) (rc : zt8) (fs : List Fr) (hfs : fs.length ≤ 8) (hrc : z1b p0 v1 v8 rc fs) (r : (Bool × (SL Int))) (h : zlf k p0 v1 v8 u1_9 r0 v202 rc = some r) : ev TE 25 (cnd TE 25 26) ⟨(zyu p0 v1 v8 k r0 ++ [(26, (xb v202))]), ⟨[], ([[(zc 1 (zd p0)), (5, (.cells [(.d (.fn 90 [] []))])), (6, (.cells [(.d (dl eI u1_9.1 u1_9.2))]))], [(2, (.cells [(.yld 0)])), (3, (.cells [(.fn 89 [] [(.d (.pin [(dl za v8.1.1 v8.1.2), (dl (eL eI) v8.2.1.1 v8.2.1.2), (dl (aI 2) v8.2.2.1.1 v8.2.2.1.2), (di v8.2.2.2.1), (.mp (em (fun k => D.agg (zh k)) (fun b => D.b b) v8.2.2.2.2))])), (.ptr 1 2 0), (.ptr 1 3 0)])]))]] ++ (fs ++ [[]]))⟩, [⟨(zKo p0 v1 v8 k), 0, rfP (blk TE 25 0), rfA (blk TE 25 0), rfB (blk TE 25 0), 25, .busy⟩]⟩ = some (.nor, zld p0 v1 v8 u1_9 r0 v202 rc fs r) := by
 unfold zlf at h
 refine zo h (fun h401 g1 => ?_) (fun h401 g1 => ?_)
 ·subst h401
  refine zk g1 (fun v402 h403 g2 => ?_)
  exact zw (g := fun r => (Ex.nor, zld p0 v1 v8 u1_9 r0 true rc fs r)) g2 (zqe [(25, 9, 1, .c (dl eI v402.1 v402.2))] [] (ob (zsk k r0 _ h403) ob0) (by cases f8 hfs <;> kernel_rfl))
 ·subst h401
  exact zw (g := fun r => (Ex.nor, zld p0 v1 v8 u1_9 r0 false rc fs r)) g1 (zqe [] [] ob0 (by cases f8 hfs <;> kernel_rfl))
noncomputable def zJw (r0 : (SL Int)) (v8 : zt0) (v202 s4_10 : Int) (r : Bool) : TM := [(0, (.d (dl eI r0.1 r0.2))), (1, (.d (.pin [(dl za v8.1.1 v8.1.2), (dl (eL eI) v8.2.1.1 v8.2.1.2), (dl (aI 2) v8.2.2.1.1 v8.2.2.1.2), (di v8.2.2.2.1), (.mp (em (fun k => D.agg (zh k)) (fun b => D.b b) v8.2.2.2.2))]))), (2, (.ptr 1 2 0)), (3, (.ptr 1 3 0)), (5, (xb false)), (6, (xi (r0.1.length : Int))), (15, (xb false)), (25, (xi (if (w64 (v202 + 1)) < v8.2.2.2.1 then (w64 (v202 + 1)) else v8.2.2.2.1))), (26, (xi s4_10)), (27, (xb true)), (7, (xi s4_10)), (43, (xb r))]
noncomputable def zpd (p0 : zb) (v1 : Int) (v8 : zt0) (r0 : (SL Int)) (v202 s4_10 : Int) (s4_15 : (SL Int)) (rc : zt8) (fs : List Fr) (r : Bool) : St := ⟨(zJw r0 v8 v202 s4_10 r), ⟨[], ([[(zc 1 (zd p0)), (5, (.cells [(.d (.fn 90 [] []))])), (6, (.cells [(.d (dl eI s4_15.1 s4_15.2))]))], [(2, (.cells [(.yld 0)])), (3, (.cells [(.fn 89 [] [(.d (.pin [(dl za v8.1.1 v8.1.2), (dl (eL eI) v8.2.1.1 v8.2.1.2), (dl (aI 2) v8.2.2.1.1 v8.2.2.1.2), (di v8.2.2.2.1), (.mp (em (fun k => D.agg (zh k)) (fun b => D.b b) v8.2.2.2.2))])), (.ptr 1 2 0), (.ptr 1 3 0)])]))]] ++ fs)⟩, [⟨(z5k p0 v1 v8), 0, rfP (blk TE 25 0), rfA (blk TE 25 0), rfB (blk TE 25 0), 25, .rdy⟩]⟩
noncomputable def zjw (r0 : (SL Int)) (v8 : zt0) (k : Nat) (v202 s4_10 : Int) : TM := [(0, (.d (dl eI r0.1 r0.2))), (1, (.d (.pin [(dl za v8.1.1 v8.1.2), (dl (eL eI) v8.2.1.1 v8.2.1.2), (dl (aI 2) v8.2.2.1.1 v8.2.2.1.2), (di v8.2.2.2.1), (.mp (em (fun k => D.agg (zh k)) (fun b => D.b b) v8.2.2.2.2))]))), (2, (.ptr 1 2 0)), (3, (.ptr 1 3 0)), (5, (xb false)), (6, (xi (r0.1.length : Int))), (15, (xb false)), (25, (xi (if (w64 (v202 + 1)) < v8.2.2.2.1 then (w64 (v202 + 1)) else v8.2.2.2.1))), (26, (xi s4_10)), (27, (xb true)), (7, (xi s4_10))]
theorem zli (k : Nat) (p0 : zb) (v1 : Int) (v8 : zt0) (r0 : (SL Int)) (v202 s4_10 : Int) (s4_15 : (SL Int)) (rc : zt8) (fs : List Fr) (hfs : fs.length ≤ 8) (hrc : z1b p0 v1 v8 rc fs) (r : Bool) (h : zde k p0 v1 v8 r0 v202 s4_10 s4_15 rc = some r) : ev TE 89 (rgn TE 89 7) ⟨(zjw r0 v8 k v202 s4_10), ⟨[], ([[(zc 1 (zd p0)), (5, (.cells [(.d (.fn 90 [] []))])), (6, (.cells [(.d (dl eI s4_15.1 s4_15.2))]))], [(2, (.cells [(.yld 0)])), (3, (.cells [(.fn 89 [] [(.d (.pin [(dl za v8.1.1 v8.1.2), (dl (eL eI) v8.2.1.1 v8.2.1.2), (dl (aI 2) v8.2.2.1.1 v8.2.2.1.2), (di v8.2.2.2.1), (.mp (em (fun k => D.agg (zh k)) (fun b => D.b b) v8.2.2.2.2))])), (.ptr 1 2 0), (.ptr 1 3 0)])]))]] ++ fs)⟩, [⟨(zKo p0 v1 v8 k), 0, rfP (blk TE 25 0), rfA (blk TE 25 0), rfB (blk TE 25 0), 25, .rdy⟩]⟩ = some (.nor, zpd p0 v1 v8 r0 v202 s4_10 s4_15 rc fs r) := by
 unfold zde at h
 refine zk h (fun v701 h702 g1 => ?_)
 refine zo g1 (fun h703 g2 => ?_) (fun h703 g2 => ?_)
 ·exact zw (g := fun r => (Ex.nor, zpd p0 v1 v8 r0 v202 s4_10 s4_15 rc fs r)) g2 (zqe [(89, 7, 4, .c (db v701)), (89, 7, 6, .q (xb true))] [] (ob (zU k (⟨(⟨v8.1, v8.2.1, v8.2.2.1, v8.2.2.2.1⟩ : zb), v8.2.2.2.2⟩ : zi) r0 (r0.1.length : Int) s4_10 _ h702) (ob (o_b h703) ob0)) (by cases f8 hfs <;> kernel_rfl))
 ·refine zk g2 (fun v704 h705 g3 => ?_)
  refine zk g3 (fun v706 h707 g4 => ?_)
  exact zw (g := fun r => (Ex.nor, zpd p0 v1 v8 r0 v202 s4_10 s4_15 rc fs r)) g4 (zqe [(89, 7, 4, .c (db v701)), (89, 7, 6, .q (xb false)), (89, 7, 10, .c (.agg (aB 8 v704))), (89, 7, 12, .c (db v706))] [] (ob (zU k (⟨(⟨v8.1, v8.2.1, v8.2.2.1, v8.2.2.2.1⟩ : zb), v8.2.2.2.2⟩ : zi) r0 (r0.1.length : Int) s4_10 _ h702) (ob (o_b h703) (ob (z9d k r0 s4_10 _ h705) (ob (zTb k (⟨(⟨v8.1, v8.2.1, v8.2.2.1, v8.2.2.2.1⟩ : zb), v8.2.2.2.2⟩ : zi) v704 (r0.1.length : Int) _ h707) ob0)))) (by cases f8 hfs <;> kernel_rfl))
noncomputable def z1w (r0 : (SL Int)) (v8 : zt0) (v202 s4_10 : Int) : TM := [(0, (.d (dl eI r0.1 r0.2))), (1, (.d (.pin [(dl za v8.1.1 v8.1.2), (dl (eL eI) v8.2.1.1 v8.2.1.2), (dl (aI 2) v8.2.2.1.1 v8.2.2.1.2), (di v8.2.2.2.1), (.mp (em (fun k => D.agg (zh k)) (fun b => D.b b) v8.2.2.2.2))]))), (2, (.ptr 1 2 0)), (3, (.ptr 1 3 0)), (5, (xb false)), (6, (xi (r0.1.length : Int))), (15, (xb false)), (25, (xi (if (w64 (v202 + 1)) < v8.2.2.2.1 then (w64 (v202 + 1)) else v8.2.2.2.1))), (26, (xi s4_10))]
noncomputable def zsm (p0 : zb) (v1 : Int) (v8 : zt0) (r0 : (SL Int)) (v202 : Int) (rc : zt8) (fs : List Fr) (s4_10 : Int) (s4_15 : (SL Int)) : St := ⟨(z1w r0 v8 v202 s4_10), ⟨[], ([[(zc 1 (zd p0)), (5, (.cells [(.d (.fn 90 [] []))])), (6, (.cells [(.d (dl eI s4_15.1 s4_15.2))]))], [(2, (.cells [(.yld 0)])), (3, (.cells [(.fn 89 [] [(.d (.pin [(dl za v8.1.1 v8.1.2), (dl (eL eI) v8.2.1.1 v8.2.1.2), (dl (aI 2) v8.2.2.1.1 v8.2.2.1.2), (di v8.2.2.2.1), (.mp (em (fun k => D.agg (zh k)) (fun b => D.b b) v8.2.2.2.2))])), (.ptr 1 2 0), (.ptr 1 3 0)])]))]] ++ fs)⟩, [⟨(z5k p0 v1 v8), 0, rfP (blk TE 25 0), rfA (blk TE 25 0), rfB (blk TE 25 0), 25, .rdy⟩]⟩
noncomputable def zqw (r0 : (SL Int)) (v8 : zt0) (v202 : Int) (r : (Int × (SL Int))) : TM := [(0, (.d (dl eI r0.1 r0.2))), (1, (.d (.pin [(dl za v8.1.1 v8.1.2), (dl (eL eI) v8.2.1.1 v8.2.1.2), (dl (aI 2) v8.2.2.1.1 v8.2.2.1.2), (di v8.2.2.2.1), (.mp (em (fun k => D.agg (zh k)) (fun b => D.b b) v8.2.2.2.2))]))), (2, (.ptr 1 2 0)), (3, (.ptr 1 3 0)), (5, (xb false)), (6, (xi (r0.1.length : Int))), (15, (xb false)), (25, (xi (if (w64 (v202 + 1)) < v8.2.2.2.1 then (w64 (v202 + 1)) else v8.2.2.2.1))), (26, (xi r.1)), (27, (xb false))]
noncomputable def z8c (p0 : zb) (v1 : Int) (v8 : zt0) (r0 : (SL Int)) (v202 : Int) (rc : zt8) (fs : List Fr) (r : (Int × (SL Int))) : St := ⟨(zqw r0 v8 v202 r), ⟨[], ([[(zc 1 (zd p0)), (5, (.cells [(.d (.fn 90 [] []))])), (6, (.cells [(.d (dl eI r.2.1 r.2.2))]))], [(2, (.cells [(.yld 0)])), (3, (.cells [(.fn 89 [] [(.d (.pin [(dl za v8.1.1 v8.1.2), (dl (eL eI) v8.2.1.1 v8.2.1.2), (dl (aI 2) v8.2.2.1.1 v8.2.2.1.2), (di v8.2.2.2.1), (.mp (em (fun k => D.agg (zh k)) (fun b => D.b b) v8.2.2.2.2))])), (.ptr 1 2 0), (.ptr 1 3 0)])]))]] ++ fs)⟩, [⟨(z5k p0 v1 v8), 0, rfP (blk TE 25 0), rfA (blk TE 25 0), rfB (blk TE 25 0), 25, .rdy⟩]⟩
noncomputable def zBm (p0 : zb) (v1 : Int) (v8 : zt0) (r0 : (SL Int)) (v202 : Int) (rc : zt8) (fs : List Fr) : (Int × (SL Int)) → Ex × St := fun r => ((.exit 0), z8c p0 v1 v8 r0 v202 rc fs r)
theorem zQh (k : Nat) (p0 : zb) (v1 : Int) (v8 : zt0) (r0 : (SL Int)) (v202 : Int) (rc : zt8) (fs : List Fr) (hfs : fs.length ≤ 8) (hrc : z1b p0 v1 v8 rc fs) (s4_10 : Int) (s4_15 : (SL Int)) (x : (Int × (SL Int)) ⊕ (Int × (SL Int))) (h : zwc k p0 v1 v8 r0 v202 rc s4_10 s4_15 = some x) : zL TE 89 (blk TE 89 0) (fun s : (Int × (SL Int)) => zsm p0 v1 v8 r0 v202 rc fs s.1 s.2) (zBm p0 v1 v8 r0 v202 rc fs) (s4_10, s4_15) x := by
 unfold zwc at h
 refine zo h (fun h601 g1 => ?_) (fun h601 g1 => ?_)
 ·refine zk g1 (fun v602 h603 g2 => ?_)
  refine zo g2 (fun h604 g3 => ?_) (fun h604 g3 => ?_)
  ·subst h604
   exact zqn ((w64 (s4_10 + 1)), s4_15) [] [(89, 5, 0, .q (xb true))] [(89, 1000007, (.nor, zpd p0 v1 v8 r0 v202 s4_10 s4_15 rc fs true))] g3 (ob (o_b h601) (ob (zli k p0 v1 v8 r0 v202 s4_10 s4_15 rc fs hfs hrc _ h603) ob0)) (by cases f8 hfs <;> kernel_rfl)
  ·subst h604
   refine zo g3 (fun h605 g4 => ?_) (fun h605 g4 => ?_)
   ·cases g4
   ·refine zDb g4 (fun h606 g5 => ?_)
    refine zk g5 (fun v607 h608 g6 => ?_)
    exact zqn ((w64 (s4_10 + 1)), v607) [] [(89, 5, 0, .q (xb true)), (89, 8, 4, .q (.d (dl eI r0.1 (ccap r0.2)))), (89, 8, 7, .q (.d (dl eI (r0.1 ++ [s4_10]) .ro))), (89, 8, 8, .i (db true) ⟨[], ([[(1, (.cells ((zd p0).map .d))), (5, (.cells [(.d (.fn 90 [] []))])), (6, (.cells [(.d (dl eI v607.1 v607.2))]))], [(2, (.cells [(.yld 0)])), (3, (.cells [(.fn 89 [] [(.d (.pin [(dl za v8.1.1 v8.1.2), (dl (eL eI) v8.2.1.1 v8.2.1.2), (dl (aI 2) v8.2.2.1.1 v8.2.2.1.2), (di v8.2.2.2.1), (.mp (em (fun k => D.agg (zh k)) (fun b => D.b b) v8.2.2.2.2))])), (.ptr 1 2 0), (.ptr 1 3 0)])]))]] ++ fs)⟩ [⟨[(0, (.d (.agg (zd p0)))), (1, (.ptr 0 1 0)), (2, (.d (.sl [] .nil))), (3, (xi 0)), (4, (xi v1)), (11, (xb false)), (5, (.ptr 0 5 0)), (6, (.ptr 0 6 0)), (16, (.d (.fn 88 [] [(.pin [(dl za v8.1.1 v8.1.2), (dl (eL eI) v8.2.1.1 v8.2.1.2), (dl (aI 2) v8.2.2.1.1 v8.2.2.1.2), (di v8.2.2.2.1), (.mp (em (fun k => D.agg (zh k)) (fun b => D.b b) v8.2.2.2.2))])])))], 0, rfP (blk TE 25 0), rfA (blk TE 25 0), rfB (blk TE 25 0), 25, .rdy⟩])] [(89, 1000007, (.nor, zpd p0 v1 v8 r0 v202 s4_10 s4_15 rc fs false))] g6 (ob (o_b h601) (ob (zli k p0 v1 v8 r0 v202 s4_10 s4_15 rc fs hfs hrc _ h603) (ob (zSl (e := eI) (z := 1) r0.1 r0.2) (ob (o_ad (P := TE.P) (φ := fun _ _ => none) (T := 27) (q := (1, [(di 0)])) (c := (ccap r0.2)) (e := eI) r0.1 s4_10 (by kernel_rfl) (fun _ => rfl) h605 h606) (ob (hrc ([] : Fr) s4_15 ((r0.1 ++ [s4_10]), .ro) _ h608) ob0))))) (by cases f8 hfs <;> kernel_rfl)
 ·exact zqo [(89, 5, 0, .q (xb false))] [] g1 (ob (o_b h601) ob0) (by cases f8 hfs <;> kernel_rfl)
theorem zil (k : Nat) (p0 : zb) (v1 : Int) (v8 : zt0) (rc : zt8) (hrc : z1b p0 v1 v8 rc []) (u1_9 r0 x : (SL Int)) (h : zob k p0 v1 v8 rc u1_9 r0 = some x) : zyb TE (ev TE) 89 [(.d (dl eI r0.1 r0.2)), (.d (.pin [(dl za v8.1.1 v8.1.2), (dl (eL eI) v8.2.1.1 v8.2.1.2), (dl (aI 2) v8.2.2.1.1 v8.2.2.1.2), (di v8.2.2.2.1), (.mp (em (fun k => D.agg (zh k)) (fun b => D.b b) v8.2.2.2.2))])), (.ptr 1 2 0), (.ptr 1 3 0)] ⟨[(2, (.cells [(.yld 0)])), (3, (.cells [(.fn 89 [] [(.d (.pin [(dl za v8.1.1 v8.1.2), (dl (eL eI) v8.2.1.1 v8.2.1.2), (dl (aI 2) v8.2.2.1.1 v8.2.2.1.2), (di v8.2.2.2.1), (.mp (em (fun k => D.agg (zh k)) (fun b => D.b b) v8.2.2.2.2))])), (.ptr 1 2 0), (.ptr 1 3 0)])]))], [[(zc 1 (zd p0)), (5, (.cells [(.d (.fn 90 [] []))])), (6, (.cells [(.d (dl eI u1_9.1 u1_9.2))]))]]⟩ [⟨(zKo p0 v1 v8 k), 0, rfP (blk TE 25 0), rfA (blk TE 25 0), rfB (blk TE 25 0), 25, .rdy⟩] = some (zfe p0 v1 v8 x) := by
 unfold zob at h
 refine zo h (fun h201 g1 => ?_) (fun h201 g1 => ?_)
 ·refine zk g1 (fun v202 h203 g2 => ?_)
  refine zk g2 (fun v204 h205 g3 => ?_)
  exact zAc (g := zfe p0 v1 v8) g3 (zzb (n := 80) (V := [(89, 1, 1, .q (xi (r0.1.length : Int))), (89, 2, 4, .q (xi (v8.1.1.length : Int))), (89, 2, 5, .q (xb true))]) (C := [(25, 1000008, (.nor, zkd p0 v1 v8 u1_9 r0 rc ([] : List Fr) v202)), (25, 2000026, (.nor, zld p0 v1 v8 u1_9 r0 v202 rc ([] : List Fr) v204))]) (ob (zq eI r0.1) (ob (zq za v8.1.1) (ob (o_b h201) (ob (zbi k p0 v1 v8 u1_9 r0 rc ([] : List Fr) (Nat.zero_le _) hrc _ h203) (ob (z5h k p0 v1 v8 u1_9 r0 v202 rc ([] : List Fr) (Nat.zero_le _) hrc _ h205) ob0))))) (by kernel_rfl))
 ·refine zk g1 (fun v202 h203 g2 => ?_)
  refine zk g2 (fun v204 h205 g3 => ?_)
  exact zAc (g := zfe p0 v1 v8) g3 (zzb (n := 80) (V := [(89, 1, 1, .q (xi (r0.1.length : Int))), (89, 2, 4, .q (xi (v8.1.1.length : Int))), (89, 2, 5, .q (xb false)), (89, 4, 4, .c (di v202))]) (C := [(89, 0, (.nor, z8c p0 v1 v8 r0 v202 rc ([] : List Fr) v204))]) (ob (zq eI r0.1) (ob (zq za v8.1.1) (ob (o_b h201) (ob (zP k r0 _ h203) (ob (zC (id := 0) (r' := (.nor, z8c p0 v1 v8 r0 v202 rc ([] : List Fr) v204)) (zHc (zQh k p0 v1 v8 r0 v202 rc ([] : List Fr) (Nat.zero_le _) hrc) k _ _ h205) rfl) ob0))))) (by kernel_rfl))
theorem zdl (k : Nat) (p0 : zb) (v1 : Int) (v8 : zt0) (rc : zt8) (f : Fr) (fs : List Fr) (hfs : fs.length + 1 ≤ 8) (hrc : z1b p0 v1 v8 rc (fs ++ [f])) (u1_9 r0 x : (SL Int)) (h : zob k p0 v1 v8 rc u1_9 r0 = some x) : zyb TE (ev TE) 89 [(.d (dl eI r0.1 r0.2)), (.d (.pin [(dl za v8.1.1 v8.1.2), (dl (eL eI) v8.2.1.1 v8.2.1.2), (dl (aI 2) v8.2.2.1.1 v8.2.2.1.2), (di v8.2.2.2.1), (.mp (em (fun k => D.agg (zh k)) (fun b => D.b b) v8.2.2.2.2))])), (.ptr 1 2 0), (.ptr 1 3 0)] ⟨f, ([[(zc 1 (zd p0)), (5, (.cells [(.d (.fn 90 [] []))])), (6, (.cells [(.d (dl eI u1_9.1 u1_9.2))]))], [(2, (.cells [(.yld 0)])), (3, (.cells [(.fn 89 [] [(.d (.pin [(dl za v8.1.1 v8.1.2), (dl (eL eI) v8.2.1.1 v8.2.1.2), (dl (aI 2) v8.2.2.1.1 v8.2.2.1.2), (di v8.2.2.2.1), (.mp (em (fun k => D.agg (zh k)) (fun b => D.b b) v8.2.2.2.2))])), (.ptr 1 2 0), (.ptr 1 3 0)])]))]] ++ fs)⟩ [⟨(zKo p0 v1 v8 k), 0, rfP (blk TE 25 0), rfA (blk TE 25 0), rfB (blk TE 25 0), 25, .rdy⟩] = some (zoe p0 v1 v8 f fs x) := by
 unfold zob at h
 refine zo h (fun h201 g1 => ?_) (fun h201 g1 => ?_)
 ·refine zk g1 (fun v202 h203 g2 => ?_)
  refine zk g2 (fun v204 h205 g3 => ?_)
  exact zAc (g := zoe p0 v1 v8 f fs) g3 (zzb (n := 80) (V := [(89, 1, 1, .q (xi (r0.1.length : Int))), (89, 2, 4, .q (xi (v8.1.1.length : Int))), (89, 2, 5, .q (xb true))]) (C := [(25, 1000008, (.nor, zkd p0 v1 v8 u1_9 r0 rc (fs ++ [f]) v202)), (25, 2000026, (.nor, zld p0 v1 v8 u1_9 r0 v202 rc (fs ++ [f]) v204))]) (ob (zq eI r0.1) (ob (zq za v8.1.1) (ob (o_b h201) (ob (zbi k p0 v1 v8 u1_9 r0 rc (fs ++ [f]) (zYi f hfs) hrc _ h203) (ob (z5h k p0 v1 v8 u1_9 r0 v202 rc (fs ++ [f]) (zYi f hfs) hrc _ h205) ob0))))) (by cases f8 (Nat.le_of_succ_le hfs) <;> kernel_rfl))
 ·refine zk g1 (fun v202 h203 g2 => ?_)
  refine zk g2 (fun v204 h205 g3 => ?_)
  exact zAc (g := zoe p0 v1 v8 f fs) g3 (zzb (n := 80) (V := [(89, 1, 1, .q (xi (r0.1.length : Int))), (89, 2, 4, .q (xi (v8.1.1.length : Int))), (89, 2, 5, .q (xb false)), (89, 4, 4, .c (di v202))]) (C := [(89, 0, (.nor, z8c p0 v1 v8 r0 v202 rc (fs ++ [f]) v204))]) (ob (zq eI r0.1) (ob (zq za v8.1.1) (ob (o_b h201) (ob (zP k r0 _ h203) (ob (zC (id := 0) (r' := (.nor, z8c p0 v1 v8 r0 v202 rc (fs ++ [f]) v204)) (zHc (zQh k p0 v1 v8 r0 v202 rc (fs ++ [f]) (zYi f hfs) hrc) k _ _ h205) rfl) ob0))))) (by cases f8 (Nat.le_of_succ_le hfs) <;> kernel_rfl))
theorem zLh (k : Nat) (p0 : zb) (v1 : Int) (v8 : zt0) : ∀ (n : Nat) (fs : List Fr), fs.length + n ≤ 8 → z1b p0 v1 v8 (zib k p0 v1 v8 n) fs
 | 0, fs, hfs => fun f u1_9 r0 x h => by cases h
 | n + 1, fs, hfs => fun f u1_9 r0 x h => zdl k p0 v1 v8 _ f fs (by omega) (zLh k p0 v1 v8 n (fs ++ [f]) (by simp; omega)) u1_9 r0 x h
theorem z1h (k : Nat) (p0 : zb) (v1 : Int) (v8 : zt0) (u1_9 r0 x : (SL Int)) (h : zib k p0 v1 v8 9 u1_9 r0 = some x) : zyb TE (ev TE) 89 [(.d (dl eI r0.1 r0.2)), (.d (.pin [(dl za v8.1.1 v8.1.2), (dl (eL eI) v8.2.1.1 v8.2.1.2), (dl (aI 2) v8.2.2.1.1 v8.2.2.1.2), (di v8.2.2.2.1), (.mp (em (fun k => D.agg (zh k)) (fun b => D.b b) v8.2.2.2.2))])), (.ptr 1 2 0), (.ptr 1 3 0)] ⟨[(2, (.cells [(.yld 0)])), (3, (.cells [(.fn 89 [] [(.d (.pin [(dl za v8.1.1 v8.1.2), (dl (eL eI) v8.2.1.1 v8.2.1.2), (dl (aI 2) v8.2.2.1.1 v8.2.2.1.2), (di v8.2.2.2.1), (.mp (em (fun k => D.agg (zh k)) (fun b => D.b b) v8.2.2.2.2))])), (.ptr 1 2 0), (.ptr 1 3 0)])]))], [[(zc 1 (zd p0)), (5, (.cells [(.d (.fn 90 [] []))])), (6, (.cells [(.d (dl eI u1_9.1 u1_9.2))]))]]⟩ [⟨(zKo p0 v1 v8 k), 0, rfP (blk TE 25 0), rfA (blk TE 25 0), rfB (blk TE 25 0), 25, .rdy⟩] = some (zfe p0 v1 v8 x) := zil k p0 v1 v8 _ (zLh k p0 v1 v8 8 [] (by decide)) u1_9 r0 x h
theorem zX (k : Nat) (p0 : zb) (r : ((SL Int) × Int)) (h : zte k p0 = some r) : zB TE (ev TE) 25 [(.agg (zd p0))] = some (zVf r) := by
 unfold zte at h
 refine zk h (fun v1 h2 g1 => ?_)
 refine zo g1 (fun h3 g2 => ?_) (fun h3 g2 => ?_)
 ·exact zr (g := zVf) g2 (zqc [(25, 1, 1, .c (di v1)), (25, 2, 1, .q (xb true))] [] (ob (zF k p0 _ h2) (ob (o_b h3) ob0)) (by kernel_rfl))
 ·refine zk g2 (fun v4 h5 g3 => ?_)
  refine zk g3 (fun v6 h7 g4 => ?_)
  refine zk g4 (fun v8 h9 g5 => ?_)
  refine zk g5 (fun v10 h11 g6 => ?_)
  refine zo g6 (fun h12 g7 => ?_) (fun h12 g7 => ?_)
  ·exact zr (g := zVf) g7 (zqc [(25, 1, 1, .c (di v1)), (25, 2, 1, .q (xb false)), (25, 4, 0, .c (.agg [(.fn 90 [] [])])), (25, 6, 1, .c (.agg (zn v6))), (25, 6, 2, .c (.fn 88 [] [(.pin [(dl za v8.1.1 v8.1.2), (dl (eL eI) v8.2.1.1 v8.2.1.2), (dl (aI 2) v8.2.2.1.1 v8.2.2.1.2), (di v8.2.2.2.1), (.mp (em (fun k => D.agg (zh k)) (fun b => D.b b) v8.2.2.2.2))])])), (88, 3, 1, .i (db true) ⟨[(2, (.cells [(.yld 0)])), (3, (.cells [(.fn 89 [] [(.d (.pin [(dl za v8.1.1 v8.1.2), (dl (eL eI) v8.2.1.1 v8.2.1.2), (dl (aI 2) v8.2.2.1.1 v8.2.2.1.2), (di v8.2.2.2.1), (.mp (em (fun k => D.agg (zh k)) (fun b => D.b b) v8.2.2.2.2))])), (.ptr 1 2 0), (.ptr 1 3 0)])]))], [[(1, (.cells ((zd p0).map .d))), (5, (.cells [(.d (.fn 90 [] []))])), (6, (.cells [(.d (dl eI v10.1 v10.2))]))]]⟩ [⟨[(0, (.d (.agg (zd p0)))), (1, (.ptr 0 1 0)), (2, (.d (.sl [] .nil))), (3, (xi 0)), (4, (xi v1)), (11, (xb false)), (5, (.ptr 0 5 0)), (6, (.ptr 0 6 0)), (16, (.d (.fn 88 [] [(.pin [(dl za v8.1.1 v8.1.2), (dl (eL eI) v8.2.1.1 v8.2.1.2), (dl (aI 2) v8.2.2.1.1 v8.2.2.1.2), (di v8.2.2.2.1), (.mp (em (fun k => D.agg (zh k)) (fun b => D.b b) v8.2.2.2.2))])])))], 0, rfP (blk TE 25 0), rfA (blk TE 25 0), rfB (blk TE 25 0), 25, .rdy⟩]), (25, 10, 1, .q (xb true))] [] (ob (zF k p0 _ h2) (ob (o_b h3) (ob (znj k _ h5) (ob (zjb k p0 _ h7) (ob (zPb k v6 _ h9) (ob (z1h k p0 v1 v8 ([], Cap.nil) ([], Cap.nil) _ h11) (ob (o_b h12) ob0))))))) (by kernel_rfl))
  ·exact zr (g := zVf) g7 (zqc [(25, 1, 1, .c (di v1)), (25, 2, 1, .q (xb false)), (25, 4, 0, .c (.agg [(.fn 90 [] [])])), (25, 6, 1, .c (.agg (zn v6))), (25, 6, 2, .c (.fn 88 [] [(.pin [(dl za v8.1.1 v8.1.2), (dl (eL eI) v8.2.1.1 v8.2.1.2), (dl (aI 2) v8.2.2.1.1 v8.2.2.1.2), (di v8.2.2.2.1), (.mp (em (fun k => D.agg (zh k)) (fun b => D.b b) v8.2.2.2.2))])])), (88, 3, 1, .i (db true) ⟨[(2, (.cells [(.yld 0)])), (3, (.cells [(.fn 89 [] [(.d (.pin [(dl za v8.1.1 v8.1.2), (dl (eL eI) v8.2.1.1 v8.2.1.2), (dl (aI 2) v8.2.2.1.1 v8.2.2.1.2), (di v8.2.2.2.1), (.mp (em (fun k => D.agg (zh k)) (fun b => D.b b) v8.2.2.2.2))])), (.ptr 1 2 0), (.ptr 1 3 0)])]))], [[(1, (.cells ((zd p0).map .d))), (5, (.cells [(.d (.fn 90 [] []))])), (6, (.cells [(.d (dl eI v10.1 v10.2))]))]]⟩ [⟨[(0, (.d (.agg (zd p0)))), (1, (.ptr 0 1 0)), (2, (.d (.sl [] .nil))), (3, (xi 0)), (4, (xi v1)), (11, (xb false)), (5, (.ptr 0 5 0)), (6, (.ptr 0 6 0)), (16, (.d (.fn 88 [] [(.pin [(dl za v8.1.1 v8.1.2), (dl (eL eI) v8.2.1.1 v8.2.1.2), (dl (aI 2) v8.2.2.1.1 v8.2.2.1.2), (di v8.2.2.2.1), (.mp (em (fun k => D.agg (zh k)) (fun b => D.b b) v8.2.2.2.2))])])))], 0, rfP (blk TE 25 0), rfA (blk TE 25 0), rfB (blk TE 25 0), 25, .rdy⟩]), (25, 10, 1, .q (xb false)), (25, 12, 2, .q (xi (v10.1.length : Int))), (25, 12, 4, .q (xi (v10.1.length : Int))), (25, 12, 5, .q (.d (dl eI v10.1 (ccap v10.2))))] [] (ob (zF k p0 _ h2) (ob (o_b h3) (ob (znj k _ h5) (ob (zjb k p0 _ h7) (ob (zPb k v6 _ h9) (ob (z1h k p0 v1 v8 ([], Cap.nil) ([], Cap.nil) _ h11) (ob (o_b h12) (ob (zq eI v10.1) (ob (zq eI v10.1) (ob (zSl (e := eI) (z := 1) v10.1 v10.2) ob0)))))))))) (by kernel_rfl))
noncomputable def z6v (p0 p1 : (SL Int)) (s1_3 : Bool) (s1_4 : Int) (r : Bool) : TM := [(0, (.d (dl eI p0.1 p0.2))), (1, (.d (dl eI p1.1 p1.2))), (4, (xb false)), (5, (xb s1_3)), (6, (xi s1_4)), (18, (xb r))]
noncomputable def zdc (p0 p1 : (SL Int)) (s1_3 : Bool) (s1_4 : Int) (r : Bool) : St := ⟨(z6v p0 p1 s1_3 s1_4 r), ⟨[], []⟩, []⟩
noncomputable def zwu (p0 p1 : (SL Int)) (s1_3 : Bool) (s1_4 : Int) : TM := [(0, (.d (dl eI p0.1 p0.2))), (1, (.d (dl eI p1.1 p1.2))), (4, (xb false)), (5, (xb s1_3)), (6, (xi s1_4))]
theorem zyg (k : Nat) (p0 p1 : (SL Int)) (s1_3 : Bool) (s1_4 : Int) (r : Bool) (h : z9e k p0 p1 s1_3 s1_4 = some r) : ev TE 27 (rgn TE 27 3) ⟨(zwu p0 p1 s1_3 s1_4), ⟨[], []⟩, []⟩ = some (.nor, zdc p0 p1 s1_3 s1_4 r) := by
 unfold z9e at h
 refine zo h (fun h401 g1 => ?_) (fun h401 g1 => ?_)
 ·exact zw (g := fun r => (Ex.nor, zdc p0 p1 s1_3 s1_4 r)) g1 (zqe [(27, 3, 1, .q (xb true)), (27, 3, 4, .q (xi (p0.1.length : Int)))] [] (ob (o_b h401) (ob (zq eI p0.1) ob0)) (by kernel_rfl))
 ·exact zw (g := fun r => (Ex.nor, zdc p0 p1 s1_3 s1_4 r)) g1 (zqe [(27, 3, 1, .q (xb false))] [] (ob (o_b h401) ob0) (by kernel_rfl))
noncomputable def z4j (p0 p1 : (SL Int)) (s1_3 : Bool) (s1_4 : Int) : St := ⟨(zwu p0 p1 s1_3 s1_4), ⟨[], []⟩, []⟩
noncomputable def zxw (p0 p1 : (SL Int)) (r : zt1) : TM := [(0, (.d (dl eI p0.1 p0.2))), (1, (.d (dl eI p1.1 p1.2))), (4, (xb false)), (5, (xb r.1)), (6, (xi r.2)), (18, (xb false))]
noncomputable def zie (p0 p1 : (SL Int)) (r : zt1) : St := ⟨(zxw p0 p1 r), ⟨[], []⟩, []⟩
noncomputable def zok (p0 p1 : (SL Int)) : (Bool × Int) → Ex × St := fun r => ((.exit 0), zie p0 p1 r)
theorem zJj (k : Nat) (p0 p1 : (SL Int)) (s1_3 : Bool) (s1_4 : Int) (x : (Bool × Int) ⊕ (Bool × Int)) (h : z5e k p0 p1 s1_3 s1_4 = some x) : zL TE 27 (blk TE 27 0) (fun s : (Bool × Int) => z4j p0 p1 s.1 s.2) (zok p0 p1) (s1_3, s1_4) x := by
 unfold z5e at h
 refine zk h (fun v301 h302 g1 => ?_)
 refine zo g1 (fun h303 g2 => ?_) (fun h303 g2 => ?_)
 ·subst h303
  refine zk g2 (fun v304 h305 g3 => ?_)
  refine zk g3 (fun v306 h307 g4 => ?_)
  exact zqn ((v304 == v306), (w64 (s1_4 + 1))) [] [(27, 5, 2, .q (.d (.pin [(di v304)]))), (27, 5, 6, .q (.d (.pin [(di v306)])))] [(27, 1000003, (.nor, zdc p0 p1 s1_3 s1_4 true))] g4 (ob (zyg k p0 p1 s1_3 s1_4 _ h302) (ob (o_ia (e := eI) 1 h305 rfl) (ob (o_ia (e := eI) 1 h307 rfl) ob0))) (by kernel_rfl)
 ·subst h303
  exact zqo [] [(27, 1000003, (.nor, zdc p0 p1 s1_3 s1_4 false))] g2 (ob (zyg k p0 p1 s1_3 s1_4 _ h302) ob0) (by kernel_rfl)
theorem zaf (k : Nat) (p0 p1 : (SL Int)) (r : Bool) (h : zod k p0 p1 = some r) : zB TE (ev TE) 27 [(dl eI p0.1 p0.2), (dl eI p1.1 p1.2)] = some (zKh r) := by
 unfold zod at h
 refine zk h (fun v1 h2 g1 => ?_)
 exact zr (g := zKh) g1 (zqc [(27, 1, 1, .q (xi (p0.1.length : Int))), (27, 1, 3, .q (xi (p1.1.length : Int)))] [(27, 0, (.nor, zie p0 p1 v1))] (ob (zq eI p0.1) (ob (zq eI p1.1) (ob (zC (id := 0) (r' := (.nor, zie p0 p1 v1)) (zHc (zJj k p0 p1) k _ _ h2) rfl) ob0))) (by kernel_rfl))
theorem zt (k : Nat) (p0 : zb) (r : zt7) (h : zXc k p0 = some r) : zB TE (ev TE) 23 [(.agg (zd p0))] = some (zpj r) := by
 unfold zXc at h
 refine zk h (fun v1 h2 g1 => ?_)
 refine zk g1 (fun v3 h4 g2 => ?_)
 exact zr (g := zpj) g2 (zqc [(23, 1, 1, .c (.tup [(dl eI v1.1.1 v1.1.2), (di v1.2)])), (23, 2, 1, .c (di v3))] [] (ob (zX k p0 _ h2) (ob (zP k v1.1 _ h4) ob0)) (by kernel_rfl))
noncomputable def z4g (p0 : zi) (v1 : zt0) : TM := [(0, (.d (.agg (zn p0)))), (zsp 1), (zsp 2), (zsp 3), (10, (.d (.fn 88 [] [(.pin [(dl za v1.1.1 v1.1.2), (dl (eL eI) v1.2.1.1 v1.2.1.2), (dl (aI 2) v1.2.2.1.1 v1.2.2.1.2), (di v1.2.2.2.1), (.mp (em (fun k => D.agg (zh k)) (fun b => D.b b) v1.2.2.2.2))])])))]
noncomputable def z5c (p0 : zi) (v1 : zt0) : ((List (zl × Int)) × Int) → D × FS × List LRec := fun r => ((db true), ⟨[(2, (.cells [(.yld 0)])), (3, (.cells [(.fn 89 [] [(.d (.pin [(dl za v1.1.1 v1.1.2), (dl (eL eI) v1.2.1.1 v1.2.1.2), (dl (aI 2) v1.2.2.1.1 v1.2.2.1.2), (di v1.2.2.2.1), (.mp (em (fun k => D.agg (zh k)) (fun b => D.b b) v1.2.2.2.2))])), (.ptr 1 2 0), (.ptr 1 3 0)])]))], [[(zc 1 (zn p0)), (2, (.cells [(xi 0), (.d (.mp []))])), (7, (.map (em (fun k => D.agg (zh k)) (fun n => D.i .i64 n) r.1))), (3, (.cells [(xi r.2), (.map 0 7)]))]]⟩, [⟨(z4g p0 v1), 0, rfP (blk TE 93 0), rfA (blk TE 93 0), rfB (blk TE 93 0), 93, .rdy⟩])
noncomputable def z3c (p0 : zi) (v1 : zt0) (f : Fr) (fs : List Fr) : ((List (zl × Int)) × Int) → D × FS × List LRec := fun r => ((db true), ⟨f, [[(zc 1 (zn p0)), (2, (.cells [(xi 0), (.d (.mp []))])), (7, (.map (em (fun k => D.agg (zh k)) (fun n => D.i .i64 n) r.1))), (3, (.cells [(xi r.2), (.map 0 7)]))], [(2, (.cells [(.yld 0)])), (3, (.cells [(.fn 89 [] [(.d (.pin [(dl za v1.1.1 v1.1.2), (dl (eL eI) v1.2.1.1 v1.2.1.2), (dl (aI 2) v1.2.2.1.1 v1.2.2.1.2), (di v1.2.2.2.1), (.mp (em (fun k => D.agg (zh k)) (fun b => D.b b) v1.2.2.2.2))])), (.ptr 1 2 0), (.ptr 1 3 0)])]))]] ++ fs⟩, [⟨(z4g p0 v1), 0, rfP (blk TE 93 0), rfA (blk TE 93 0), rfB (blk TE 93 0), 93, .rdy⟩])
noncomputable def zfb (p0 : zi) (v1 : zt0) (rc : zt5) (fs : List Fr) : Prop := ∀ (f : Fr) (u1_12 : (List (zl × Int))) (u1_13 : Int) (r0 : (SL Int)) (x : ((List (zl × Int)) × Int)), rc u1_12 u1_13 r0 = some x → zyb TE (ev TE) 89 [(.d (dl eI r0.1 r0.2)), (.d (.pin [(dl za v1.1.1 v1.1.2), (dl (eL eI) v1.2.1.1 v1.2.1.2), (dl (aI 2) v1.2.2.1.1 v1.2.2.1.2), (di v1.2.2.2.1), (.mp (em (fun k => D.agg (zh k)) (fun b => D.b b) v1.2.2.2.2))])), (.ptr 1 2 0), (.ptr 1 3 0)] ⟨f, ([[(zc 1 (zn p0)), (2, (.cells [(xi 0), (.d (.mp []))])), (7, (.map (em (fun k => D.agg (zh k)) (fun n => D.i .i64 n) u1_12))), (3, (.cells [(xi u1_13), (.map 0 7)]))], [(2, (.cells [(.yld 0)])), (3, (.cells [(.fn 89 [] [(.d (.pin [(dl za v1.1.1 v1.1.2), (dl (eL eI) v1.2.1.1 v1.2.1.2), (dl (aI 2) v1.2.2.1.1 v1.2.2.1.2), (di v1.2.2.2.1), (.mp (em (fun k => D.agg (zh k)) (fun b => D.b b) v1.2.2.2.2))])), (.ptr 1 2 0), (.ptr 1 3 0)])]))]] ++ fs)⟩ [⟨(z4g p0 v1), 0, rfP (blk TE 93 0), rfA (blk TE 93 0), rfB (blk TE 93 0), 93, .rdy⟩] = some (z3c p0 v1 f fs x)
noncomputable def zsw (p0 : zi) (v1 : zt0) (r0 : (SL Int)) (s2_13 s6_17 : Int) (r : (Bool × (List (zl × Int)))) : TM := z4g p0 v1 ++ [(11, (.d (dl eI r0.1 r0.2))), (4, (.d (dl eI r0.1 r0.2))), (17, (xi (r0.1.length : Int))), (18, (xi s2_13)), (19, (xb true)), (5, (xi s2_13)), (22, (xi (r0.1.length : Int))), (23, (xi s6_17)), (24, (xb true)), (6, (xi s6_17)), (34, (xb r.1))]
noncomputable def zgd (p0 : zi) (v1 : zt0) (u1_13 : Int) (r0 : (SL Int)) (s2_13 s6_17 : Int) (s6_25 : zt9) (cb : Bool) (rc : zt5) (fs : List Fr) (r : (Bool × (List (zl × Int)))) : St := ⟨(zsw p0 v1 r0 s2_13 s6_17 r), ⟨[], ([[(zc 1 (zn p0)), (2, (.cells [(xi 0), (.d (.mp []))])), (7, (.map (em (fun k => D.agg (zh k)) (fun n => D.i .i64 n) r.2))), (3, (.cells [(xi (w64 (u1_13 + 1))), (.map 0 7)]))], [(2, (.cells [(.yld 0)])), (3, (.cells [(.fn 89 [] [(.d (.pin [(dl za v1.1.1 v1.1.2), (dl (eL eI) v1.2.1.1 v1.2.1.2), (dl (aI 2) v1.2.2.1.1 v1.2.2.1.2), (di v1.2.2.2.1), (.mp (em (fun k => D.agg (zh k)) (fun b => D.b b) v1.2.2.2.2))])), (.ptr 1 2 0), (.ptr 1 3 0)])]))]] ++ (fs ++ [[]]))⟩, [⟨(z4g p0 v1), 0, rfP (blk TE 93 0), rfA (blk TE 93 0), rfB (blk TE 93 0), 93, .busy⟩]⟩
noncomputable def zuw (p0 : zi) (v1 : zt0) (k : Nat) (r0 : (SL Int)) (s2_13 s6_17 : Int) (cb : Bool) : TM := [(0, (.d (.agg (zn p0)))), (zsp 1), (zsp 2), (zsp 3), (10, (.d (.fn 88 [] [(.pin [(dl za v1.1.1 v1.1.2), (dl (eL eI) v1.2.1.1 v1.2.1.2), (dl (aI 2) v1.2.2.1.1 v1.2.2.1.2), (di v1.2.2.2.1), (.mp (em (fun k => D.agg (zh k)) (fun b => D.b b) v1.2.2.2.2))])]))), (11, (.d (dl eI r0.1 r0.2))), (4, (.d (dl eI r0.1 r0.2))), (17, (xi (r0.1.length : Int))), (18, (xi s2_13)), (19, (xb true)), (5, (xi s2_13)), (22, (xi (r0.1.length : Int))), (23, (xi s6_17)), (24, (xb true)), (6, (xi s6_17)), (34, (xb cb))]
noncomputable def zgq (p0 : zi) (v1 : zt0) (k : Nat) : TM := [(0, (.d (.agg (zn p0)))), (zsp 1), (zsp 2), (zsp 3), (10, (.d (.fn 88 [] [(.pin [(dl za v1.1.1 v1.1.2), (dl (eL eI) v1.2.1.1 v1.2.1.2), (dl (aI 2) v1.2.2.1.1 v1.2.2.1.2), (di v1.2.2.2.1), (.mp (em (fun k => D.agg (zh k)) (fun b => D.b b) v1.2.2.2.2))])])))]
theorem zgk (k : Nat) (p0 : zi) (v1 : zt0) (u1_13 : Int) (r0 : (SL Int)) (s2_13 s6_17 : Int) (s6_25 : zt9) (cb : Bool) (rc : zt5) (fs : List Fr) (hfs : fs.length ≤ 8) (hrc : zfb p0 v1 rc fs) (r : (Bool × (List (zl × Int)))) (h : zWd k p0 v1 u1_13 r0 s2_13 s6_17 s6_25 cb rc = some r) : ev TE 93 (cnd TE 93 34) ⟨(zuw p0 v1 k r0 s2_13 s6_17 cb), ⟨[], ([[(zc 1 (zn p0)), (2, (.cells [(xi 0), (.d (.mp []))])), (7, (.map (em (fun k => D.agg (zh k)) (fun n => D.i .i64 n) s6_25))), (3, (.cells [(xi (w64 (u1_13 + 1))), (.map 0 7)]))], [(2, (.cells [(.yld 0)])), (3, (.cells [(.fn 89 [] [(.d (.pin [(dl za v1.1.1 v1.1.2), (dl (eL eI) v1.2.1.1 v1.2.1.2), (dl (aI 2) v1.2.2.1.1 v1.2.2.1.2), (di v1.2.2.2.1), (.mp (em (fun k => D.agg (zh k)) (fun b => D.b b) v1.2.2.2.2))])), (.ptr 1 2 0), (.ptr 1 3 0)])]))]] ++ (fs ++ [[]]))⟩, [⟨(zgq p0 v1 k), 0, rfP (blk TE 93 0), rfA (blk TE 93 0), rfB (blk TE 93 0), 93, .busy⟩]⟩ = some (.nor, zgd p0 v1 u1_13 r0 s2_13 s6_17 s6_25 cb rc fs r) := by
 unfold zWd at h
 refine zo h (fun h901 g1 => ?_) (fun h901 g1 => ?_)
 ·subst h901
  exact zw (g := fun r => (Ex.nor, zgd p0 v1 u1_13 r0 s2_13 s6_17 s6_25 true rc fs r)) g1 (zqe [(93, 12, 5, .q (xi ((zJ zp (⟨s2_13, s6_17⟩ : zl) s6_25).getD 0))), (93, 12, 7, .me (di ((zJ zp (⟨s2_13, s6_17⟩ : zl) s6_25).getD 0)) (midx zp (⟨s2_13, s6_17⟩ : zl) s6_25) (em (fun k => D.agg (zh k)) (fun n => D.i .i64 n) (ment zp (⟨s2_13, s6_17⟩ : zl) 0 s6_25))), (93, 12, 9, .mp (em (fun k => D.agg (zh k)) (fun n => D.i .i64 n) (mset zp (⟨s2_13, s6_17⟩ : zl) (w64 (((zJ zp (⟨s2_13, s6_17⟩ : zl) s6_25).getD 0) + 1)) s6_25)))] [] (ob (z0j (ek := (fun k => D.agg (zh k))) (evl := (fun n => D.i .i64 n)) (q := zp) (fun _ _ => rfl) (⟨s2_13, s6_17⟩ : zl) s6_25 0) (ob (o_me (ek := (fun k => D.agg (zh k))) (evl := (fun n => D.i .i64 n)) (q := zp) (fun _ _ => rfl) (⟨s2_13, s6_17⟩ : zl) 0 s6_25) (ob (o_es (ek := (fun k => D.agg (zh k))) (evl := (fun n => D.i .i64 n)) (q := zp) (⟨s2_13, s6_17⟩ : zl) 0 (w64 (((zJ zp (⟨s2_13, s6_17⟩ : zl) s6_25).getD 0) + 1)) s6_25) ob0))) (by cases f8 hfs <;> kernel_rfl))
 ·subst h901
  exact zw (g := fun r => (Ex.nor, zgd p0 v1 u1_13 r0 s2_13 s6_17 s6_25 false rc fs r)) g1 (zqe [] [] ob0 (by cases f8 hfs <;> kernel_rfl))
noncomputable def zPw (p0 : zi) (v1 : zt0) (r0 : (SL Int)) (s2_13 s6_17 : Int) : TM := z4g p0 v1 ++ [(11, (.d (dl eI r0.1 r0.2))), (4, (.d (dl eI r0.1 r0.2))), (17, (xi (r0.1.length : Int))), (18, (xi s2_13)), (19, (xb true)), (5, (xi s2_13)), (22, (xi (r0.1.length : Int))), (23, (xi s6_17))]
noncomputable def zyk (p0 : zi) (v1 : zt0) (u1_13 : Int) (r0 : (SL Int)) (s2_13 : Int) (rc : zt5) (fs : List Fr) (s6_17 : Int) (s6_25 : zt9) : St := ⟨(zPw p0 v1 r0 s2_13 s6_17), ⟨[], ([[(zc 1 (zn p0)), (2, (.cells [(xi 0), (.d (.mp []))])), (7, (.map (em (fun k => D.agg (zh k)) (fun n => D.i .i64 n) s6_25))), (3, (.cells [(xi (w64 (u1_13 + 1))), (.map 0 7)]))], [(2, (.cells [(.yld 0)])), (3, (.cells [(.fn 89 [] [(.d (.pin [(dl za v1.1.1 v1.1.2), (dl (eL eI) v1.2.1.1 v1.2.1.2), (dl (aI 2) v1.2.2.1.1 v1.2.2.1.2), (di v1.2.2.2.1), (.mp (em (fun k => D.agg (zh k)) (fun b => D.b b) v1.2.2.2.2))])), (.ptr 1 2 0), (.ptr 1 3 0)])]))]] ++ (fs ++ [[]]))⟩, [⟨(z4g p0 v1), 0, rfP (blk TE 93 0), rfA (blk TE 93 0), rfB (blk TE 93 0), 93, .busy⟩]⟩
noncomputable def zkw (p0 : zi) (v1 : zt0) (r0 : (SL Int)) (s2_13 : Int) (r : (Int × (List (zl × Int)))) : TM := z4g p0 v1 ++ [(11, (.d (dl eI r0.1 r0.2))), (4, (.d (dl eI r0.1 r0.2))), (17, (xi (r0.1.length : Int))), (18, (xi s2_13)), (19, (xb true)), (5, (xi s2_13)), (22, (xi (r0.1.length : Int))), (23, (xi r.1)), (24, (xb false))]
noncomputable def zue (p0 : zi) (v1 : zt0) (u1_13 : Int) (r0 : (SL Int)) (s2_13 : Int) (rc : zt5) (fs : List Fr) (r : (Int × (List (zl × Int)))) : St := ⟨(zkw p0 v1 r0 s2_13 r), ⟨[], ([[(zc 1 (zn p0)), (2, (.cells [(xi 0), (.d (.mp []))])), (7, (.map (em (fun k => D.agg (zh k)) (fun n => D.i .i64 n) r.2))), (3, (.cells [(xi (w64 (u1_13 + 1))), (.map 0 7)]))], [(2, (.cells [(.yld 0)])), (3, (.cells [(.fn 89 [] [(.d (.pin [(dl za v1.1.1 v1.1.2), (dl (eL eI) v1.2.1.1 v1.2.1.2), (dl (aI 2) v1.2.2.1.1 v1.2.2.1.2), (di v1.2.2.2.1), (.mp (em (fun k => D.agg (zh k)) (fun b => D.b b) v1.2.2.2.2))])), (.ptr 1 2 0), (.ptr 1 3 0)])]))]] ++ (fs ++ [[]]))⟩, [⟨(z4g p0 v1), 0, rfP (blk TE 93 0), rfA (blk TE 93 0), rfB (blk TE 93 0), 93, .busy⟩]⟩
noncomputable def ztk (p0 : zi) (v1 : zt0) (u1_13 : Int) (r0 : (SL Int)) (s2_13 : Int) (rc : zt5) (fs : List Fr) : (Int × (List (zl × Int))) → Ex × St := fun r => ((.exit 4), zue p0 v1 u1_13 r0 s2_13 rc fs r)
theorem zmk (k : Nat) (p0 : zi) (v1 : zt0) (u1_13 : Int) (r0 : (SL Int)) (s2_13 : Int) (rc : zt5) (fs : List Fr) (hfs : fs.length ≤ 8) (hrc : zfb p0 v1 rc fs) (s6_17 : Int) (s6_25 : zt9) (x : (Int × (List (zl × Int))) ⊕ (Int × (List (zl × Int)))) (h : zLc k p0 v1 u1_13 r0 s2_13 rc s6_17 s6_25 = some x) : zL TE 93 (blk TE 93 4) (fun s : (Int × (List (zl × Int))) => zyk p0 v1 u1_13 r0 s2_13 rc fs s.1 s.2) (ztk p0 v1 u1_13 r0 s2_13 rc fs) (s6_17, s6_25) x := by
 unfold zLc at h
 refine zo h (fun h801 g1 => ?_) (fun h801 g1 => ?_)
 ·refine zk g1 (fun v802 h803 g2 => ?_)
  refine zk g2 (fun v804 h805 g3 => ?_)
  refine zk g3 (fun v806 h807 g4 => ?_)
  exact zqn ((w64 (s6_17 + 1)), v806.2) [] [(93, 9, 0, .q (xb true)), (93, 11, 2, .q (.d (.pin [(di v802)]))), (93, 11, 6, .q (.d (.pin [(di v804)])))] [(93, 2000034, (.nor, zgd p0 v1 u1_13 r0 s2_13 s6_17 s6_25 (v802 == v804) rc fs v806))] g4 (ob (o_b h801) (ob (o_ia (e := eI) 1 h803 rfl) (ob (o_ia (e := eI) 1 h805 rfl) (ob (zgk k p0 v1 u1_13 r0 s2_13 s6_17 s6_25 (v802 == v804) rc fs hfs hrc _ h807) ob0)))) (by cases f8 hfs <;> kernel_rfl)
 ·exact zqo [(93, 9, 0, .q (xb false))] [] g1 (ob (o_b h801) ob0) (by cases f8 hfs <;> kernel_rfl)
noncomputable def zVw (p0 : zi) (v1 : zt0) (r0 : (SL Int)) (s2_13 : Int) : TM := z4g p0 v1 ++ [(11, (.d (dl eI r0.1 r0.2))), (4, (.d (dl eI r0.1 r0.2))), (17, (xi (r0.1.length : Int))), (18, (xi s2_13))]
noncomputable def zCk (p0 : zi) (v1 : zt0) (u1_13 : Int) (r0 : (SL Int)) (rc : zt5) (fs : List Fr) (s2_13 : Int) (s2_21 : zt9) : St := ⟨(zVw p0 v1 r0 s2_13), ⟨[], ([[(zc 1 (zn p0)), (2, (.cells [(xi 0), (.d (.mp []))])), (7, (.map (em (fun k => D.agg (zh k)) (fun n => D.i .i64 n) s2_21))), (3, (.cells [(xi (w64 (u1_13 + 1))), (.map 0 7)]))], [(2, (.cells [(.yld 0)])), (3, (.cells [(.fn 89 [] [(.d (.pin [(dl za v1.1.1 v1.1.2), (dl (eL eI) v1.2.1.1 v1.2.1.2), (dl (aI 2) v1.2.2.1.1 v1.2.2.1.2), (di v1.2.2.2.1), (.mp (em (fun k => D.agg (zh k)) (fun b => D.b b) v1.2.2.2.2))])), (.ptr 1 2 0), (.ptr 1 3 0)])]))]] ++ (fs ++ [[]]))⟩, [⟨(z4g p0 v1), 0, rfP (blk TE 93 0), rfA (blk TE 93 0), rfB (blk TE 93 0), 93, .busy⟩]⟩
noncomputable def z9v (p0 : zi) (v1 : zt0) (r0 : (SL Int)) (r : (Int × (List (zl × Int)))) : TM := z4g p0 v1 ++ [(11, (.d (dl eI r0.1 r0.2))), (4, (.d (dl eI r0.1 r0.2))), (17, (xi (r0.1.length : Int))), (18, (xi r.1)), (19, (xb false))]
noncomputable def zhc (p0 : zi) (v1 : zt0) (u1_13 : Int) (r0 : (SL Int)) (rc : zt5) (fs : List Fr) (r : (Int × (List (zl × Int)))) : St := ⟨(z9v p0 v1 r0 r), ⟨[], ([[(zc 1 (zn p0)), (2, (.cells [(xi 0), (.d (.mp []))])), (7, (.map (em (fun k => D.agg (zh k)) (fun n => D.i .i64 n) r.2))), (3, (.cells [(xi (w64 (u1_13 + 1))), (.map 0 7)]))], [(2, (.cells [(.yld 0)])), (3, (.cells [(.fn 89 [] [(.d (.pin [(dl za v1.1.1 v1.1.2), (dl (eL eI) v1.2.1.1 v1.2.1.2), (dl (aI 2) v1.2.2.1.1 v1.2.2.1.2), (di v1.2.2.2.1), (.mp (em (fun k => D.agg (zh k)) (fun b => D.b b) v1.2.2.2.2))])), (.ptr 1 2 0), (.ptr 1 3 0)])]))]] ++ (fs ++ [[]]))⟩, [⟨(z4g p0 v1), 0, rfP (blk TE 93 0), rfA (blk TE 93 0), rfB (blk TE 93 0), 93, .busy⟩]⟩
noncomputable def zxk (p0 : zi) (v1 : zt0) (u1_13 : Int) (r0 : (SL Int)) (rc : zt5) (fs : List Fr) : (Int × (List (zl × Int))) → Ex × St := fun r => ((.exit 2), zhc p0 v1 u1_13 r0 rc fs r)
theorem zEg (k : Nat) (p0 : zi) (v1 : zt0) (u1_13 : Int) (r0 : (SL Int)) (rc : zt5) (fs : List Fr) (hfs : fs.length ≤ 8) (hrc : zfb p0 v1 rc fs) (s2_13 : Int) (s2_21 : zt9) (x : (Int × (List (zl × Int))) ⊕ (Int × (List (zl × Int)))) (h : z9b k p0 v1 u1_13 r0 rc s2_13 s2_21 = some x) : zL TE 93 (blk TE 93 2) (fun s : (Int × (List (zl × Int))) => zCk p0 v1 u1_13 r0 rc fs s.1 s.2) (zxk p0 v1 u1_13 r0 rc fs) (s2_13, s2_21) x := by
 unfold z9b at h
 refine zo h (fun h601 g1 => ?_) (fun h601 g1 => ?_)
 ·refine zk g1 (fun v602 h603 g2 => ?_)
  exact zqn ((w64 (s2_13 + 1)), v602.2) [] [(93, 6, 0, .q (xb true)), (93, 8, 1, .q (xi (r0.1.length : Int)))] [(93, 4, (.nor, zue p0 v1 u1_13 r0 s2_13 rc fs v602))] g2 (ob (o_b h601) (ob (zq eI r0.1) (ob (zC (id := 4) (r' := (.nor, zue p0 v1 u1_13 r0 s2_13 rc fs v602)) (zHc (zmk k p0 v1 u1_13 r0 s2_13 rc fs hfs hrc) k _ _ h603) rfl) ob0))) (by cases f8 hfs <;> kernel_rfl)
 ·exact zqo [(93, 6, 0, .q (xb false))] [] g1 (ob (o_b h601) ob0) (by cases f8 hfs <;> kernel_rfl)
noncomputable def zKu (r0 : (SL Int)) (v1 : zt0) (v202 s9_10 : Int) (r : Bool) : TM := [(0, (.d (dl eI r0.1 r0.2))), (1, (.d (.pin [(dl za v1.1.1 v1.1.2), (dl (eL eI) v1.2.1.1 v1.2.1.2), (dl (aI 2) v1.2.2.1.1 v1.2.2.1.2), (di v1.2.2.2.1), (.mp (em (fun k => D.agg (zh k)) (fun b => D.b b) v1.2.2.2.2))]))), (2, (.ptr 1 2 0)), (3, (.ptr 1 3 0)), (5, (xb false)), (6, (xi (r0.1.length : Int))), (15, (xb false)), (25, (xi (if (w64 (v202 + 1)) < v1.2.2.2.1 then (w64 (v202 + 1)) else v1.2.2.2.1))), (26, (xi s9_10)), (27, (xb true)), (7, (xi s9_10)), (43, (xb r))]
noncomputable def zcc (p0 : zi) (v1 : zt0) (r0 : (SL Int)) (v202 s9_10 : Int) (s9_18 : zt9) (s9_19 : Int) (rc : zt5) (fs : List Fr) (r : Bool) : St := ⟨(zKu r0 v1 v202 s9_10 r), ⟨[], ([[(zc 1 (zn p0)), (2, (.cells [(xi 0), (.d (.mp []))])), (7, (.map (em (fun k => D.agg (zh k)) (fun n => D.i .i64 n) s9_18))), (3, (.cells [(xi s9_19), (.map 0 7)]))], [(2, (.cells [(.yld 0)])), (3, (.cells [(.fn 89 [] [(.d (.pin [(dl za v1.1.1 v1.1.2), (dl (eL eI) v1.2.1.1 v1.2.1.2), (dl (aI 2) v1.2.2.1.1 v1.2.2.1.2), (di v1.2.2.2.1), (.mp (em (fun k => D.agg (zh k)) (fun b => D.b b) v1.2.2.2.2))])), (.ptr 1 2 0), (.ptr 1 3 0)])]))]] ++ fs)⟩, [⟨(z4g p0 v1), 0, rfP (blk TE 93 0), rfA (blk TE 93 0), rfB (blk TE 93 0), 93, .rdy⟩]⟩
noncomputable def zZu (r0 : (SL Int)) (v1 : zt0) (k : Nat) (v202 s9_10 : Int) : TM := [(0, (.d (dl eI r0.1 r0.2))), (1, (.d (.pin [(dl za v1.1.1 v1.1.2), (dl (eL eI) v1.2.1.1 v1.2.1.2), (dl (aI 2) v1.2.2.1.1 v1.2.2.1.2), (di v1.2.2.2.1), (.mp (em (fun k => D.agg (zh k)) (fun b => D.b b) v1.2.2.2.2))]))), (2, (.ptr 1 2 0)), (3, (.ptr 1 3 0)), (5, (xb false)), (6, (xi (r0.1.length : Int))), (15, (xb false)), (25, (xi (if (w64 (v202 + 1)) < v1.2.2.2.1 then (w64 (v202 + 1)) else v1.2.2.2.1))), (26, (xi s9_10)), (27, (xb true)), (7, (xi s9_10))]
theorem zpg (k : Nat) (p0 : zi) (v1 : zt0) (r0 : (SL Int)) (v202 s9_10 : Int) (s9_18 : zt9) (s9_19 : Int) (rc : zt5) (fs : List Fr) (hfs : fs.length ≤ 8) (hrc : zfb p0 v1 rc fs) (r : Bool) (h : zFc k p0 v1 r0 v202 s9_10 s9_18 s9_19 rc = some r) : ev TE 89 (rgn TE 89 7) ⟨(zZu r0 v1 k v202 s9_10), ⟨[], ([[(zc 1 (zn p0)), (2, (.cells [(xi 0), (.d (.mp []))])), (7, (.map (em (fun k => D.agg (zh k)) (fun n => D.i .i64 n) s9_18))), (3, (.cells [(xi s9_19), (.map 0 7)]))], [(2, (.cells [(.yld 0)])), (3, (.cells [(.fn 89 [] [(.d (.pin [(dl za v1.1.1 v1.1.2), (dl (eL eI) v1.2.1.1 v1.2.1.2), (dl (aI 2) v1.2.2.1.1 v1.2.2.1.2), (di v1.2.2.2.1), (.mp (em (fun k => D.agg (zh k)) (fun b => D.b b) v1.2.2.2.2))])), (.ptr 1 2 0), (.ptr 1 3 0)])]))]] ++ fs)⟩, [⟨(zgq p0 v1 k), 0, rfP (blk TE 93 0), rfA (blk TE 93 0), rfB (blk TE 93 0), 93, .rdy⟩]⟩ = some (.nor, zcc p0 v1 r0 v202 s9_10 s9_18 s9_19 rc fs r) := by
 unfold zFc at h
 refine zk h (fun v1201 h1202 g1 => ?_)
 refine zo g1 (fun h1203 g2 => ?_) (fun h1203 g2 => ?_)
 ·exact zw (g := fun r => (Ex.nor, zcc p0 v1 r0 v202 s9_10 s9_18 s9_19 rc fs r)) g2 (zqe [(89, 7, 4, .c (db v1201)), (89, 7, 6, .q (xb true))] [] (ob (zU k (⟨(⟨v1.1, v1.2.1, v1.2.2.1, v1.2.2.2.1⟩ : zb), v1.2.2.2.2⟩ : zi) r0 (r0.1.length : Int) s9_10 _ h1202) (ob (o_b h1203) ob0)) (by cases f8 hfs <;> kernel_rfl))
 ·refine zk g2 (fun v1204 h1205 g3 => ?_)
  refine zk g3 (fun v1206 h1207 g4 => ?_)
  exact zw (g := fun r => (Ex.nor, zcc p0 v1 r0 v202 s9_10 s9_18 s9_19 rc fs r)) g4 (zqe [(89, 7, 4, .c (db v1201)), (89, 7, 6, .q (xb false)), (89, 7, 10, .c (.agg (aB 8 v1204))), (89, 7, 12, .c (db v1206))] [] (ob (zU k (⟨(⟨v1.1, v1.2.1, v1.2.2.1, v1.2.2.2.1⟩ : zb), v1.2.2.2.2⟩ : zi) r0 (r0.1.length : Int) s9_10 _ h1202) (ob (o_b h1203) (ob (z9d k r0 s9_10 _ h1205) (ob (zTb k (⟨(⟨v1.1, v1.2.1, v1.2.2.1, v1.2.2.2.1⟩ : zb), v1.2.2.2.2⟩ : zi) v1204 (r0.1.length : Int) _ h1207) ob0)))) (by cases f8 hfs <;> kernel_rfl))
noncomputable def zwv (r0 : (SL Int)) (v1 : zt0) (v202 s9_10 : Int) : TM := [(0, (.d (dl eI r0.1 r0.2))), (1, (.d (.pin [(dl za v1.1.1 v1.1.2), (dl (eL eI) v1.2.1.1 v1.2.1.2), (dl (aI 2) v1.2.2.1.1 v1.2.2.1.2), (di v1.2.2.2.1), (.mp (em (fun k => D.agg (zh k)) (fun b => D.b b) v1.2.2.2.2))]))), (2, (.ptr 1 2 0)), (3, (.ptr 1 3 0)), (5, (xb false)), (6, (xi (r0.1.length : Int))), (15, (xb false)), (25, (xi (if (w64 (v202 + 1)) < v1.2.2.2.1 then (w64 (v202 + 1)) else v1.2.2.2.1))), (26, (xi s9_10))]
noncomputable def zvk (p0 : zi) (v1 : zt0) (r0 : (SL Int)) (v202 : Int) (rc : zt5) (fs : List Fr) (s9_10 : Int) (s9_18 : zt9) (s9_19 : Int) : St := ⟨(zwv r0 v1 v202 s9_10), ⟨[], ([[(zc 1 (zn p0)), (2, (.cells [(xi 0), (.d (.mp []))])), (7, (.map (em (fun k => D.agg (zh k)) (fun n => D.i .i64 n) s9_18))), (3, (.cells [(xi s9_19), (.map 0 7)]))], [(2, (.cells [(.yld 0)])), (3, (.cells [(.fn 89 [] [(.d (.pin [(dl za v1.1.1 v1.1.2), (dl (eL eI) v1.2.1.1 v1.2.1.2), (dl (aI 2) v1.2.2.1.1 v1.2.2.1.2), (di v1.2.2.2.1), (.mp (em (fun k => D.agg (zh k)) (fun b => D.b b) v1.2.2.2.2))])), (.ptr 1 2 0), (.ptr 1 3 0)])]))]] ++ fs)⟩, [⟨(z4g p0 v1), 0, rfP (blk TE 93 0), rfA (blk TE 93 0), rfB (blk TE 93 0), 93, .rdy⟩]⟩
noncomputable def zfv (r0 : (SL Int)) (v1 : zt0) (v202 : Int) (r : (Int × (List (zl × Int)) × Int)) : TM := [(0, (.d (dl eI r0.1 r0.2))), (1, (.d (.pin [(dl za v1.1.1 v1.1.2), (dl (eL eI) v1.2.1.1 v1.2.1.2), (dl (aI 2) v1.2.2.1.1 v1.2.2.1.2), (di v1.2.2.2.1), (.mp (em (fun k => D.agg (zh k)) (fun b => D.b b) v1.2.2.2.2))]))), (2, (.ptr 1 2 0)), (3, (.ptr 1 3 0)), (5, (xb false)), (6, (xi (r0.1.length : Int))), (15, (xb false)), (25, (xi (if (w64 (v202 + 1)) < v1.2.2.2.1 then (w64 (v202 + 1)) else v1.2.2.2.1))), (26, (xi r.1)), (27, (xb false))]
noncomputable def zec (p0 : zi) (v1 : zt0) (r0 : (SL Int)) (v202 : Int) (rc : zt5) (fs : List Fr) (r : (Int × (List (zl × Int)) × Int)) : St := ⟨(zfv r0 v1 v202 r), ⟨[], ([[(zc 1 (zn p0)), (2, (.cells [(xi 0), (.d (.mp []))])), (7, (.map (em (fun k => D.agg (zh k)) (fun n => D.i .i64 n) r.2.1))), (3, (.cells [(xi r.2.2), (.map 0 7)]))], [(2, (.cells [(.yld 0)])), (3, (.cells [(.fn 89 [] [(.d (.pin [(dl za v1.1.1 v1.1.2), (dl (eL eI) v1.2.1.1 v1.2.1.2), (dl (aI 2) v1.2.2.1.1 v1.2.2.1.2), (di v1.2.2.2.1), (.mp (em (fun k => D.agg (zh k)) (fun b => D.b b) v1.2.2.2.2))])), (.ptr 1 2 0), (.ptr 1 3 0)])]))]] ++ fs)⟩, [⟨(z4g p0 v1), 0, rfP (blk TE 93 0), rfA (blk TE 93 0), rfB (blk TE 93 0), 93, .rdy⟩]⟩
noncomputable def zAk (p0 : zi) (v1 : zt0) (r0 : (SL Int)) (v202 : Int) (rc : zt5) (fs : List Fr) : (Int × (List (zl × Int)) × Int) → Ex × St := fun r => ((.exit 0), zec p0 v1 r0 v202 rc fs r)
theorem zIg (k : Nat) (p0 : zi) (v1 : zt0) (r0 : (SL Int)) (v202 : Int) (rc : zt5) (fs : List Fr) (hfs : fs.length ≤ 8) (hrc : zfb p0 v1 rc fs) (s9_10 : Int) (s9_18 : zt9) (s9_19 : Int) (x : (Int × (List (zl × Int)) × Int) ⊕ (Int × (List (zl × Int)) × Int)) (h : zFb k p0 v1 r0 v202 rc s9_10 s9_18 s9_19 = some x) : zL TE 89 (blk TE 89 0) (fun s : (Int × (List (zl × Int)) × Int) => zvk p0 v1 r0 v202 rc fs s.1 s.2.1 s.2.2) (zAk p0 v1 r0 v202 rc fs) (s9_10, s9_18, s9_19) x := by
 unfold zFb at h
 refine zo h (fun h1101 g1 => ?_) (fun h1101 g1 => ?_)
 ·refine zk g1 (fun v1102 h1103 g2 => ?_)
  refine zo g2 (fun h1104 g3 => ?_) (fun h1104 g3 => ?_)
  ·subst h1104
   exact zqn ((w64 (s9_10 + 1)), s9_18, s9_19) [] [(89, 5, 0, .q (xb true))] [(89, 1000007, (.nor, zcc p0 v1 r0 v202 s9_10 s9_18 s9_19 rc fs true))] g3 (ob (o_b h1101) (ob (zpg k p0 v1 r0 v202 s9_10 s9_18 s9_19 rc fs hfs hrc _ h1103) ob0)) (by cases f8 hfs <;> kernel_rfl)
  ·subst h1104
   refine zo g3 (fun h1105 g4 => ?_) (fun h1105 g4 => ?_)
   ·cases g4
   ·refine zDb g4 (fun h1106 g5 => ?_)
    refine zk g5 (fun v1107 h1108 g6 => ?_)
    exact zqn ((w64 (s9_10 + 1)), v1107.1, v1107.2) [] [(89, 5, 0, .q (xb true)), (89, 8, 4, .q (.d (dl eI r0.1 (ccap r0.2)))), (89, 8, 7, .q (.d (dl eI (r0.1 ++ [s9_10]) .ro))), (89, 8, 8, .i (db true) ⟨[], ([[(1, (.cells ((zn p0).map .d))), (2, (.cells [(xi 0), (.d (.mp []))])), (7, (.map (em (fun k => D.agg (zh k)) (fun n => D.i .i64 n) v1107.1))), (3, (.cells [(xi v1107.2), (.map 0 7)]))], [(2, (.cells [(.yld 0)])), (3, (.cells [(.fn 89 [] [(.d (.pin [(dl za v1.1.1 v1.1.2), (dl (eL eI) v1.2.1.1 v1.2.1.2), (dl (aI 2) v1.2.2.1.1 v1.2.2.1.2), (di v1.2.2.2.1), (.mp (em (fun k => D.agg (zh k)) (fun b => D.b b) v1.2.2.2.2))])), (.ptr 1 2 0), (.ptr 1 3 0)])]))]] ++ fs)⟩ [⟨[(0, (.d (.agg (zn p0)))), (1, (.ptr 0 1 0)), (2, (.ptr 0 2 0)), (3, (.ptr 0 3 0)), (10, (.d (.fn 88 [] [(.pin [(dl za v1.1.1 v1.1.2), (dl (eL eI) v1.2.1.1 v1.2.1.2), (dl (aI 2) v1.2.2.1.1 v1.2.2.1.2), (di v1.2.2.2.1), (.mp (em (fun k => D.agg (zh k)) (fun b => D.b b) v1.2.2.2.2))])])))], 0, rfP (blk TE 93 0), rfA (blk TE 93 0), rfB (blk TE 93 0), 93, .rdy⟩])] [(89, 1000007, (.nor, zcc p0 v1 r0 v202 s9_10 s9_18 s9_19 rc fs false))] g6 (ob (o_b h1101) (ob (zpg k p0 v1 r0 v202 s9_10 s9_18 s9_19 rc fs hfs hrc _ h1103) (ob (zSl (e := eI) (z := 1) r0.1 r0.2) (ob (o_ad (P := TE.P) (φ := fun _ _ => none) (T := 27) (q := (1, [(di 0)])) (c := (ccap r0.2)) (e := eI) r0.1 s9_10 (by kernel_rfl) (fun _ => rfl) h1105 h1106) (ob (hrc ([] : Fr) s9_18 s9_19 ((r0.1 ++ [s9_10]), .ro) _ h1108) ob0))))) (by cases f8 hfs <;> kernel_rfl)
 ·exact zqo [(89, 5, 0, .q (xb false))] [] g1 (ob (o_b h1101) ob0) (by cases f8 hfs <;> kernel_rfl)
theorem zKj (k : Nat) (p0 : zi) (v1 : zt0) (rc : zt5) (hrc : zfb p0 v1 rc []) (u1_12 : zt9) (u1_13 : Int) (r0 : (SL Int)) (x : ((List (zl × Int)) × Int)) (h : zY k p0 v1 rc u1_12 u1_13 r0 = some x) : zyb TE (ev TE) 89 [(.d (dl eI r0.1 r0.2)), (.d (.pin [(dl za v1.1.1 v1.1.2), (dl (eL eI) v1.2.1.1 v1.2.1.2), (dl (aI 2) v1.2.2.1.1 v1.2.2.1.2), (di v1.2.2.2.1), (.mp (em (fun k => D.agg (zh k)) (fun b => D.b b) v1.2.2.2.2))])), (.ptr 1 2 0), (.ptr 1 3 0)] ⟨[(2, (.cells [(.yld 0)])), (3, (.cells [(.fn 89 [] [(.d (.pin [(dl za v1.1.1 v1.1.2), (dl (eL eI) v1.2.1.1 v1.2.1.2), (dl (aI 2) v1.2.2.1.1 v1.2.2.1.2), (di v1.2.2.2.1), (.mp (em (fun k => D.agg (zh k)) (fun b => D.b b) v1.2.2.2.2))])), (.ptr 1 2 0), (.ptr 1 3 0)])]))], [[(zc 1 (zn p0)), (2, (.cells [(xi 0), (.d (.mp []))])), (7, (.map (em (fun k => D.agg (zh k)) (fun n => D.i .i64 n) u1_12))), (3, (.cells [(xi u1_13), (.map 0 7)]))]]⟩ [⟨(zgq p0 v1 k), 0, rfP (blk TE 93 0), rfA (blk TE 93 0), rfB (blk TE 93 0), 93, .rdy⟩] = some (z5c p0 v1 x) := by
 unfold zY at h
 refine zo h (fun h201 g1 => ?_) (fun h201 g1 => ?_)
 ·refine zk g1 (fun v202 h203 g2 => ?_)
  exact zAc (g := z5c p0 v1) g2 (zzb (n := 80) (V := [(89, 1, 1, .q (xi (r0.1.length : Int))), (89, 2, 4, .q (xi (v1.1.1.length : Int))), (89, 2, 5, .q (xb true)), (93, 5, 1, .q (xi (r0.1.length : Int)))]) (C := [(93, 2, (.nor, zhc p0 v1 u1_13 r0 rc ([] : List Fr) v202))]) (ob (zq eI r0.1) (ob (zq za v1.1.1) (ob (o_b h201) (ob (zq eI r0.1) (ob (zC (id := 2) (r' := (.nor, zhc p0 v1 u1_13 r0 rc ([] : List Fr) v202)) (zHc (zEg k p0 v1 u1_13 r0 rc ([] : List Fr) (Nat.zero_le _) hrc) k _ _ h203) rfl) ob0))))) (by kernel_rfl))
 ·refine zk g1 (fun v202 h203 g2 => ?_)
  refine zk g2 (fun v204 h205 g3 => ?_)
  exact zAc (g := z5c p0 v1) g3 (zzb (n := 80) (V := [(89, 1, 1, .q (xi (r0.1.length : Int))), (89, 2, 4, .q (xi (v1.1.1.length : Int))), (89, 2, 5, .q (xb false)), (89, 4, 4, .c (di v202))]) (C := [(89, 0, (.nor, zec p0 v1 r0 v202 rc ([] : List Fr) v204))]) (ob (zq eI r0.1) (ob (zq za v1.1.1) (ob (o_b h201) (ob (zP k r0 _ h203) (ob (zC (id := 0) (r' := (.nor, zec p0 v1 r0 v202 rc ([] : List Fr) v204)) (zGm (zIg k p0 v1 r0 v202 rc ([] : List Fr) (Nat.zero_le _) hrc) k _ _ h205) rfl) ob0))))) (by kernel_rfl))
theorem zFj (k : Nat) (p0 : zi) (v1 : zt0) (rc : zt5) (f : Fr) (fs : List Fr) (hfs : fs.length + 1 ≤ 8) (hrc : zfb p0 v1 rc (fs ++ [f])) (u1_12 : zt9) (u1_13 : Int) (r0 : (SL Int)) (x : ((List (zl × Int)) × Int)) (h : zY k p0 v1 rc u1_12 u1_13 r0 = some x) : zyb TE (ev TE) 89 [(.d (dl eI r0.1 r0.2)), (.d (.pin [(dl za v1.1.1 v1.1.2), (dl (eL eI) v1.2.1.1 v1.2.1.2), (dl (aI 2) v1.2.2.1.1 v1.2.2.1.2), (di v1.2.2.2.1), (.mp (em (fun k => D.agg (zh k)) (fun b => D.b b) v1.2.2.2.2))])), (.ptr 1 2 0), (.ptr 1 3 0)] ⟨f, ([[(zc 1 (zn p0)), (2, (.cells [(xi 0), (.d (.mp []))])), (7, (.map (em (fun k => D.agg (zh k)) (fun n => D.i .i64 n) u1_12))), (3, (.cells [(xi u1_13), (.map 0 7)]))], [(2, (.cells [(.yld 0)])), (3, (.cells [(.fn 89 [] [(.d (.pin [(dl za v1.1.1 v1.1.2), (dl (eL eI) v1.2.1.1 v1.2.1.2), (dl (aI 2) v1.2.2.1.1 v1.2.2.1.2), (di v1.2.2.2.1), (.mp (em (fun k => D.agg (zh k)) (fun b => D.b b) v1.2.2.2.2))])), (.ptr 1 2 0), (.ptr 1 3 0)])]))]] ++ fs)⟩ [⟨(zgq p0 v1 k), 0, rfP (blk TE 93 0), rfA (blk TE 93 0), rfB (blk TE 93 0), 93, .rdy⟩] = some (z3c p0 v1 f fs x) := by
 unfold zY at h
 refine zo h (fun h201 g1 => ?_) (fun h201 g1 => ?_)
 ·refine zk g1 (fun v202 h203 g2 => ?_)
  exact zAc (g := z3c p0 v1 f fs) g2 (zzb (n := 80) (V := [(89, 1, 1, .q (xi (r0.1.length : Int))), (89, 2, 4, .q (xi (v1.1.1.length : Int))), (89, 2, 5, .q (xb true)), (93, 5, 1, .q (xi (r0.1.length : Int)))]) (C := [(93, 2, (.nor, zhc p0 v1 u1_13 r0 rc (fs ++ [f]) v202))]) (ob (zq eI r0.1) (ob (zq za v1.1.1) (ob (o_b h201) (ob (zq eI r0.1) (ob (zC (id := 2) (r' := (.nor, zhc p0 v1 u1_13 r0 rc (fs ++ [f]) v202)) (zHc (zEg k p0 v1 u1_13 r0 rc (fs ++ [f]) (zYi f hfs) hrc) k _ _ h203) rfl) ob0))))) (by cases f8 (Nat.le_of_succ_le hfs) <;> kernel_rfl))
 ·refine zk g1 (fun v202 h203 g2 => ?_)
  refine zk g2 (fun v204 h205 g3 => ?_)
  exact zAc (g := z3c p0 v1 f fs) g3 (zzb (n := 80) (V := [(89, 1, 1, .q (xi (r0.1.length : Int))), (89, 2, 4, .q (xi (v1.1.1.length : Int))), (89, 2, 5, .q (xb false)), (89, 4, 4, .c (di v202))]) (C := [(89, 0, (.nor, zec p0 v1 r0 v202 rc (fs ++ [f]) v204))]) (ob (zq eI r0.1) (ob (zq za v1.1.1) (ob (o_b h201) (ob (zP k r0 _ h203) (ob (zC (id := 0) (r' := (.nor, zec p0 v1 r0 v202 rc (fs ++ [f]) v204)) (zGm (zIg k p0 v1 r0 v202 rc (fs ++ [f]) (zYi f hfs) hrc) k _ _ h205) rfl) ob0))))) (by cases f8 (Nat.le_of_succ_le hfs) <;> kernel_rfl))
theorem zkg (k : Nat) (p0 : zi) (v1 : zt0) : ∀ (n : Nat) (fs : List Fr), fs.length + n ≤ 8 → zfb p0 v1 (zW k p0 v1 n) fs
 | 0, fs, hfs => fun f u1_12 u1_13 r0 x h => by cases h
 | n + 1, fs, hfs => fun f u1_12 u1_13 r0 x h => zFj k p0 v1 _ f fs (by omega) (zkg k p0 v1 n (fs ++ [f]) (by simp; omega)) u1_12 u1_13 r0 x h
theorem z7j (k : Nat) (p0 : zi) (v1 : zt0) (u1_12 : zt9) (u1_13 : Int) (r0 : (SL Int)) (x : ((List (zl × Int)) × Int)) (h : zW k p0 v1 9 u1_12 u1_13 r0 = some x) : zyb TE (ev TE) 89 [(.d (dl eI r0.1 r0.2)), (.d (.pin [(dl za v1.1.1 v1.1.2), (dl (eL eI) v1.2.1.1 v1.2.1.2), (dl (aI 2) v1.2.2.1.1 v1.2.2.1.2), (di v1.2.2.2.1), (.mp (em (fun k => D.agg (zh k)) (fun b => D.b b) v1.2.2.2.2))])), (.ptr 1 2 0), (.ptr 1 3 0)] ⟨[(2, (.cells [(.yld 0)])), (3, (.cells [(.fn 89 [] [(.d (.pin [(dl za v1.1.1 v1.1.2), (dl (eL eI) v1.2.1.1 v1.2.1.2), (dl (aI 2) v1.2.2.1.1 v1.2.2.1.2), (di v1.2.2.2.1), (.mp (em (fun k => D.agg (zh k)) (fun b => D.b b) v1.2.2.2.2))])), (.ptr 1 2 0), (.ptr 1 3 0)])]))], [[(zc 1 (zn p0)), (2, (.cells [(xi 0), (.d (.mp []))])), (7, (.map (em (fun k => D.agg (zh k)) (fun n => D.i .i64 n) u1_12))), (3, (.cells [(xi u1_13), (.map 0 7)]))]]⟩ [⟨(zgq p0 v1 k), 0, rfP (blk TE 93 0), rfA (blk TE 93 0), rfB (blk TE 93 0), 93, .rdy⟩] = some (z5c p0 v1 x) := zKj k p0 v1 _ (zkg k p0 v1 8 [] (by decide)) u1_12 u1_13 r0 x h
theorem zMh (k : Nat) (p0 : zi) (r : zZ) (h : zVe k p0 = some r) : zB TE (ev TE) 93 [(.agg (zn p0))] = some (zUh r) := by
 unfold zVe at h
 refine zk h (fun v1 h2 g1 => ?_)
 refine zk g1 (fun v3 h4 g2 => ?_)
 exact zr (g := zUh) g2 (zqc [(93, 2, 1, .c (.fn 88 [] [(.pin [(dl za v1.1.1 v1.1.2), (dl (eL eI) v1.2.1.1 v1.2.1.2), (dl (aI 2) v1.2.2.1.1 v1.2.2.1.2), (di v1.2.2.2.1), (.mp (em (fun k => D.agg (zh k)) (fun b => D.b b) v1.2.2.2.2))])])), (88, 3, 1, .i (db true) ⟨[(2, (.cells [(.yld 0)])), (3, (.cells [(.fn 89 [] [(.d (.pin [(dl za v1.1.1 v1.1.2), (dl (eL eI) v1.2.1.1 v1.2.1.2), (dl (aI 2) v1.2.2.1.1 v1.2.2.1.2), (di v1.2.2.2.1), (.mp (em (fun k => D.agg (zh k)) (fun b => D.b b) v1.2.2.2.2))])), (.ptr 1 2 0), (.ptr 1 3 0)])]))], [[(1, (.cells ((zn p0).map .d))), (2, (.cells [(xi 0), (.d (.mp []))])), (7, (.map (em (fun k => D.agg (zh k)) (fun n => D.i .i64 n) v3.1))), (3, (.cells [(xi v3.2), (.map 0 7)]))]]⟩ [⟨[(0, (.d (.agg (zn p0)))), (1, (.ptr 0 1 0)), (2, (.ptr 0 2 0)), (3, (.ptr 0 3 0)), (10, (.d (.fn 88 [] [(.pin [(dl za v1.1.1 v1.1.2), (dl (eL eI) v1.2.1.1 v1.2.1.2), (dl (aI 2) v1.2.2.1.1 v1.2.2.1.2), (di v1.2.2.2.1), (.mp (em (fun k => D.agg (zh k)) (fun b => D.b b) v1.2.2.2.2))])])))], 0, rfP (blk TE 93 0), rfA (blk TE 93 0), rfB (blk TE 93 0), 93, .rdy⟩])] [] (ob (zPb k p0 _ h2) (ob (z7j k p0 v1 ([]) 0 ([], Cap.nil) _ h4) ob0)) (by kernel_rfl))
theorem zvc (k : Nat) (p0 : zb) (p1 : Bool) (r : zt3) (h : zPc k p0 p1 = some r) : zB TE (ev TE) 72 [(.agg (zd p0)), (db p1)] = some (zze r) := by
 unfold zPc at h
 refine zk h (fun v1 h2 g1 => ?_)
 refine zo g1 (fun h3 g2 => ?_) (fun h3 g2 => ?_)
 ·exact zr (g := zze) g2 (zqc [(72, 1, 1, .c (di v1)), (72, 2, 1, .q (xb true))] [] (ob (zF k p0 _ h2) (ob (o_b h3) ob0)) (by kernel_rfl))
 ·refine zo g2 (fun h4 g3 => ?_) (fun h4 g3 => ?_)
  ·exact zr (g := zze) g3 (zqc [(72, 1, 1, .c (di v1)), (72, 2, 1, .q (xb false)), (72, 4, 1, .q (xb true))] [] (ob (zF k p0 _ h2) (ob (o_b h3) (ob (o_b h4) ob0))) (by kernel_rfl))
  ·refine zk g3 (fun v5 h6 g4 => ?_)
   refine zk g4 (fun v7 h8 g5 => ?_)
   refine zo g5 (fun h9 g6 => ?_) (fun h9 g6 => ?_)
   ·exact zr (g := zze) g6 (zqc [(72, 1, 1, .c (di v1)), (72, 2, 1, .q (xb false)), (72, 4, 1, .q (xb false)), (72, 6, 1, .c (.agg (zn v5))), (72, 6, 2, .c (.agg [(di v7.many), (.mp (em (fun k => D.agg (zh k)) (fun n => D.i .i64 n) v7.same))])), (72, 7, 2, .q (xb true))] [] (ob (zF k p0 _ h2) (ob (o_b h3) (ob (o_b h4) (ob (zjb k p0 _ h6) (ob (zMh k v5 _ h8) (ob (o_b h9) ob0)))))) (by kernel_rfl))
   ·exact zr (g := zze) g6 (zqc [(72, 1, 1, .c (di v1)), (72, 2, 1, .q (xb false)), (72, 4, 1, .q (xb false)), (72, 6, 1, .c (.agg (zn v5))), (72, 6, 2, .c (.agg [(di v7.many), (.mp (em (fun k => D.agg (zh k)) (fun n => D.i .i64 n) v7.same))])), (72, 7, 2, .q (xb false))] [] (ob (zF k p0 _ h2) (ob (o_b h3) (ob (o_b h4) (ob (zjb k p0 _ h6) (ob (zMh k v5 _ h8) (ob (o_b h9) ob0)))))) (by kernel_rfl))
theorem z8e (k : Nat) (p0 : zZ) (p1 p2 r : Int) (h : zCc k p0 p1 p2 = some r) : zB TE (ev TE) 73 [(.agg [(di p0.many), (.mp (em (fun k => D.agg (zh k)) (fun n => D.i .i64 n) p0.same))]), (di p1), (di p2)] = some (zTd r) := by
 unfold zCc at h
 refine zo h (fun h1 g1 => ?_) (fun h1 g1 => ?_)
 ·exact zr (g := zTd) g1 (zqc [(73, 1, 5, .q (xi ((zJ zp (⟨p1, p2⟩ : zl) p0.same).getD 0))), (73, 2, 3, .q (xb true))] [] (ob (z0j (ek := (fun k => D.agg (zh k))) (evl := (fun n => D.i .i64 n)) (q := zp) (fun _ _ => rfl) (⟨p1, p2⟩ : zl) p0.same 0) (ob (o_b h1) ob0)) (by kernel_rfl))
 ·refine zo g1 (fun h2 g2 => ?_) (fun h2 g2 => ?_)
  ·exact zr (g := zTd) g2 (zqc [(73, 1, 5, .q (xi ((zJ zp (⟨p1, p2⟩ : zl) p0.same).getD 0))), (73, 2, 3, .q (xb false)), (73, 4, 1, .q (xb true))] [] (ob (z0j (ek := (fun k => D.agg (zh k))) (evl := (fun n => D.i .i64 n)) (q := zp) (fun _ _ => rfl) (⟨p1, p2⟩ : zl) p0.same 0) (ob (o_b h1) (ob (o_b h2) ob0))) (by kernel_rfl))
  ·exact zr (g := zTd) g2 (zqc [(73, 1, 5, .q (xi ((zJ zp (⟨p1, p2⟩ : zl) p0.same).getD 0))), (73, 2, 3, .q (xb false)), (73, 4, 1, .q (xb false))] [] (ob (z0j (ek := (fun k => D.agg (zh k))) (evl := (fun n => D.i .i64 n)) (q := zp) (fun _ _ => rfl) (⟨p1, p2⟩ : zl) p0.same 0) (ob (o_b h1) (ob (o_b h2) ob0))) (by kernel_rfl))
noncomputable def z3u (p0 : zb) (p1 p2 : Int) (r : (Int × Int × (List (zl × Int)))) : TM := [(0, (.d (.agg (zd p0)))), (1, (xi p1)), (2, (xi p2)), (zsp 3), (6, (xi 0)), (7, (xi 0)), (zsp 8), (9, (xi r.1))]
noncomputable def zNd (p0 : zb) (p1 p2 : Int) (r : (Int × Int × (List (zl × Int)))) : St := ⟨(z3u p0 p1 p2 r), ⟨[(zc 3 (zd p0)), (8, (.cells [(xi r.2.1), (.d (.mp (em (fun k => D.agg (zh k)) (fun n => D.i .i64 n) r.2.2)))]))], []⟩, []⟩
noncomputable def zMu (p0 : zb) (p1 p2 : Int) : TM := [(0, (.d (.agg (zd p0)))), (1, (xi p1)), (2, (xi p2)), (zsp 3), (6, (xi 0)), (7, (xi 0))]
theorem zri (k : Nat) (p0 : zb) (p1 p2 : Int) (r : (Int × Int × (List (zl × Int)))) (h : zOf k p0 p1 p2 = some r) : ev TE 30 (rgn TE 30 1) ⟨(zMu p0 p1 p2), ⟨[(zc 3 (zd p0))], []⟩, []⟩ = some (.nor, zNd p0 p1 p2 r) := by
 unfold zOf at h
 refine zk h (fun v201 h202 g1 => ?_)
 refine zo g1 (fun h203 g2 => ?_) (fun h203 g2 => ?_)
 ·refine zk g2 (fun v204 h205 g3 => ?_)
  refine zk g3 (fun v206 h207 g4 => ?_)
  exact zw (g := fun r => (Ex.nor, zNd p0 p1 p2 r)) g4 (zqe [(30, 1, 4, .q (xi (p0.Letters.1.length : Int))), (30, 1, 6, .c (db v201)), (30, 1, 7, .q (xb true)), (30, 1, 11, .q (xi (p0.Letters.1.length : Int))), (30, 1, 13, .c (db v204)), (30, 1, 15, .c (.tup [(.agg [(di v206.1.many), (.mp (em (fun k => D.agg (zh k)) (fun n => D.i .i64 n) v206.1.same))]), (di v206.2)]))] [] (ob (zq za p0.Letters.1) (ob (zu k p1 0 (w64 ((p0.Letters.1.length : Int) - 1)) _ h202) (ob (o_b h203) (ob (zq za p0.Letters.1) (ob (zu k p2 0 (w64 ((p0.Letters.1.length : Int) - 1)) _ h205) (ob (zvc k p0 v204 _ h207) ob0)))))) (by kernel_rfl))
 ·refine zk g2 (fun v204 h205 g3 => ?_)
  exact zw (g := fun r => (Ex.nor, zNd p0 p1 p2 r)) g3 (zqe [(30, 1, 4, .q (xi (p0.Letters.1.length : Int))), (30, 1, 6, .c (db v201)), (30, 1, 7, .q (xb false)), (30, 1, 15, .c (.tup [(.agg [(di v204.1.many), (.mp (em (fun k => D.agg (zh k)) (fun n => D.i .i64 n) v204.1.same))]), (di v204.2)]))] [] (ob (zq za p0.Letters.1) (ob (zu k p1 0 (w64 ((p0.Letters.1.length : Int) - 1)) _ h202) (ob (o_b h203) (ob (zvc k p0 false _ h205) ob0)))) (by kernel_rfl))
theorem zx (k : Nat) (p0 : zb) (p1 p2 : Int) (r : zt7) (h : z5d k p0 p1 p2 = some r) : zB TE (ev TE) 30 [(.agg (zd p0)), (di p1), (di p2)] = some (zPh r) := by
 unfold z5d at h
 refine zk h (fun v1 h2 g1 => ?_)
 refine zo g1 (fun h3 g2 => ?_) (fun h3 g2 => ?_)
 ·exact zr (g := zPh) g2 (zqc [(30, 2, 1, .q (xb true))] [(30, 1000001, (.nor, zNd p0 p1 p2 v1))] (ob (zri k p0 p1 p2 _ h2) (ob (o_b h3) ob0)) (by kernel_rfl))
 ·refine zk g2 (fun v4 h5 g3 => ?_)
  exact zr (g := zPh) g3 (zqc [(30, 2, 1, .q (xb false)), (30, 4, 3, .c (di v4))] [(30, 1000001, (.nor, zNd p0 p1 p2 v1))] (ob (zri k p0 p1 p2 _ h2) (ob (o_b h3) (ob (z8e k (⟨v1.2.1, v1.2.2⟩ : zZ) p1 p2 _ h5) ob0))) (by kernel_rfl))
noncomputable def zzv (p0 : zb) (v1 : zt3) (s1_16 : (List (SL Int))) (s1_9 : Int) (s6_23 : (List Int)) (s6_13 : Int) : TM := [(0, (.d (.agg (zd p0)))), (zsp 1), (2, (.d (.sl [] .nil))), (3, (xi 0)), (zsp 4), (5, (xi v1.2)), (17, (xb false)), (6, (.row 0 6 s1_16.length)), (zsp 7), (21, (xi (p0.Letters.1.length : Int))), (22, (xi s1_9)), (23, (xb true)), (8, (xi s1_9)), (27, (xb false)), (9, (.row 0 9 s6_23.length)), (10, (xi s6_13))]
noncomputable def zzl (p0 : zb) (v1 : zt3) (s1_9 : Int) (s1_16 : (List (SL Int))) (s6_13 : Int) (s6_22 : zt2) (s6_23 : (List Int)) : St := ⟨(zzv p0 v1 s1_16 s1_9 s6_23 s6_13), ⟨[(zc 1 (zd p0)), (4, (.cells [(xi v1.1.many), (.d (.mp (em (fun k => D.agg (zh k)) (fun n => D.i .i64 n) v1.1.same)))])), (6, (rowO true 1 (eL eI) s1_16 true)), (zc 7 (aB 8 s6_22)), (9, (rowO true 1 eI s6_23 true))], []⟩, []⟩
noncomputable def zlv (p0 : zb) (v1 : zt3) (s1_16 : (List (SL Int))) (s1_9 : Int) (r : (Int × (Nat → Bool) × (List Int))) : TM := [(0, (.d (.agg (zd p0)))), (zsp 1), (2, (.d (.sl [] .nil))), (3, (xi 0)), (zsp 4), (5, (xi v1.2)), (17, (xb false)), (6, (.row 0 6 s1_16.length)), (zsp 7), (21, (xi (p0.Letters.1.length : Int))), (22, (xi s1_9)), (23, (xb true)), (8, (xi s1_9)), (27, (xb false)), (9, (.row 0 9 r.2.2.length)), (10, (xi r.1)), (33, (xb false))]
noncomputable def zuf (p0 : zb) (v1 : zt3) (s1_9 : Int) (s1_16 : (List (SL Int))) (r : (Int × (Nat → Bool) × (List Int))) : St := ⟨(zlv p0 v1 s1_16 s1_9 r), ⟨[(zc 1 (zd p0)), (4, (.cells [(xi v1.1.many), (.d (.mp (em (fun k => D.agg (zh k)) (fun n => D.i .i64 n) v1.1.same)))])), (6, (rowO true 1 (eL eI) s1_16 true)), (zc 7 (aB 8 r.2.1)), (9, (rowO true 1 eI r.2.2 true))], []⟩, []⟩
noncomputable def zRl (p0 : zb) (v1 : zt3) (s1_9 : Int) (s1_16 : (List (SL Int))) : (Int × (Nat → Bool) × (List Int)) → Ex × St := fun r => ((.exit 2), zuf p0 v1 s1_9 s1_16 r)
theorem zjl (k : Nat) (p0 : zb) (v1 : zt3) (s1_9 : Int) (s1_16 : (List (SL Int))) (s6_13 : Int) (s6_22 : zt2) (s6_23 : (List Int)) (x : (Int × (Nat → Bool) × (List Int)) ⊕ (Int × (Nat → Bool) × (List Int))) (h : zzg k p0 v1 s1_9 s1_16 s6_13 s6_22 s6_23 = some x) : zL TE 32 (blk TE 32 2) (fun s : (Int × (Nat → Bool) × (List Int)) => zzl p0 v1 s1_9 s1_16 s.1 s.2.1 s.2.2) (zRl p0 v1 s1_9 s1_16) (s6_13, s6_22, s6_23) x := by
 unfold zzg at h
 refine zo h (fun h801 g1 => ?_) (fun h801 g1 => ?_)
 ·refine zk g1 (fun v802 h803 g2 => ?_)
  refine zo g2 (fun h804 g3 => ?_) (fun h804 g3 => ?_)
  ·refine zDb g3 (fun h805 g4 => ?_)
   refine zDb g4 (fun h806 g5 => ?_)
   exact zqn ((w64 (s6_13 + 1)), (upd s6_22 s6_13.toNat true), (s6_23 ++ [s6_13])) [6, 9] [(32, 12, 3, .q (xi (p0.Letters.1.length : Int))), (32, 12, 4, .q (xb true)), (32, 14, 3, .c (di v802)), (32, 14, 4, .q (xb true)), (32, 15, 3, .ap (s6_23 ++ [s6_13]).length (rowO true 1 eI (s6_23 ++ [s6_13]) true)), (32, 16, 1, .q (.ptr 0 7 (s6_13.toNat))), (32, 16, 2, .st ((aB 8 (upd s6_22 s6_13.toNat true)).map .d))] [] g5 (ob (zq za p0.Letters.1) (ob (o_b h801) (ob (z8e k v1.1 s1_9 s6_13 _ h803) (ob (o_b h804) (ob (o_ap (b := true) (z := 1) (e := eI) (l := s6_23) (w := true) s6_13 (fun _ => rfl) h805) (ob (z7m (m := 8) 0 7 0 1 s6_13.toNat h806 (by omega)) (ob (zYr 8 s6_22 s6_13.toNat true (by have := h806; simp only [Bool.and_eq_true, decide_eq_true_eq] at this; omega)) (ob (zmg true 1 (eL eI) s1_16 true) (ob (zmg true 1 eI (s6_23 ++ [s6_13]) true) ob0))))))))) (by kernel_rfl)
  ·exact zqn ((w64 (s6_13 + 1)), s6_22, s6_23) [6, 9] [(32, 12, 3, .q (xi (p0.Letters.1.length : Int))), (32, 12, 4, .q (xb true)), (32, 14, 3, .c (di v802)), (32, 14, 4, .q (xb false))] [] g3 (ob (zq za p0.Letters.1) (ob (o_b h801) (ob (z8e k v1.1 s1_9 s6_13 _ h803) (ob (o_b h804) (ob (zmg true 1 (eL eI) s1_16 true) (ob (zmg true 1 eI s6_23 true) ob0)))))) (by kernel_rfl)
 ·exact zqo [(32, 12, 3, .q (xi (p0.Letters.1.length : Int))), (32, 12, 4, .q (xb false))] [] g1 (ob (zq za p0.Letters.1) (ob (o_b h801) ob0)) (by kernel_rfl)
noncomputable def zQv (p0 : zb) (v1 : zt3) (s1_16 : (List (SL Int))) (s1_9 : Int) : TM := [(0, (.d (.agg (zd p0)))), (zsp 1), (2, (.d (.sl [] .nil))), (3, (xi 0)), (zsp 4), (5, (xi v1.2)), (17, (xb false)), (6, (.row 0 6 s1_16.length)), (zsp 7), (21, (xi (p0.Letters.1.length : Int))), (22, (xi s1_9))]
noncomputable def zMl (p0 : zb) (v1 : zt3) (s1_9 : Int) (s1_16 : (List (SL Int))) (s1_18 : zt2) : St := ⟨(zQv p0 v1 s1_16 s1_9), ⟨[(zc 1 (zd p0)), (4, (.cells [(xi v1.1.many), (.d (.mp (em (fun k => D.agg (zh k)) (fun n => D.i .i64 n) v1.1.same)))])), (6, (rowO true 1 (eL eI) s1_16 true)), (zc 7 (aB 8 s1_18))], []⟩, []⟩
noncomputable def z5u (p0 : zb) (v1 : zt3) (r : (Int × (List (SL Int)) × (Nat → Bool))) : TM := [(0, (.d (.agg (zd p0)))), (zsp 1), (2, (.d (.sl [] .nil))), (3, (xi 0)), (zsp 4), (5, (xi v1.2)), (17, (xb false)), (6, (.row 0 6 r.2.1.length)), (zsp 7), (21, (xi (p0.Letters.1.length : Int))), (22, (xi r.1)), (23, (xb false))]
noncomputable def zEf (p0 : zb) (v1 : zt3) (r : (Int × (List (SL Int)) × (Nat → Bool))) : St := ⟨(z5u p0 v1 r), ⟨[(zc 1 (zd p0)), (4, (.cells [(xi v1.1.many), (.d (.mp (em (fun k => D.agg (zh k)) (fun n => D.i .i64 n) v1.1.same)))])), (6, (rowO true 1 (eL eI) r.2.1 true)), (zc 7 (aB 8 r.2.2))], []⟩, []⟩
noncomputable def zwl (p0 : zb) (v1 : zt3) : (Int × (List (SL Int)) × (Nat → Bool)) → Ex × St := fun r => ((.exit 0), zEf p0 v1 r)
theorem ztl (k : Nat) (p0 : zb) (v1 : zt3) (s1_9 : Int) (s1_16 : (List (SL Int))) (s1_18 : zt2) (x : (Int × (List (SL Int)) × (Nat → Bool)) ⊕ (Int × (List (SL Int)) × (Nat → Bool))) (h : zKg k p0 v1 s1_9 s1_16 s1_18 = some x) : zL TE 32 (blk TE 32 0) (fun s : (Int × (List (SL Int)) × (Nat → Bool)) => zMl p0 v1 s.1 s.2.1 s.2.2) (zwl p0 v1) (s1_9, s1_16, s1_18) x := by
 unfold zKg at h
 refine zo h (fun h601 g1 => ?_) (fun h601 g1 => ?_)
 ·refine zDb g1 (fun h602 g2 => ?_)
  refine zo g2 (fun h603 g3 => ?_) (fun h603 g3 => ?_)
  ·exact zqn ((w64 (s1_9 + 1)), s1_16, s1_18) [6] [(32, 7, 0, .q (xb true)), (32, 9, 1, .q (.ptr 0 7 (s1_9.toNat))), (32, 9, 2, .q (xb true))] [] g3 (ob (o_b h601) (ob (z7m (m := 8) 0 7 0 1 s1_9.toNat h602 (by omega)) (ob (o_tr (zKt 8 s1_18 s1_9.toNat (by have := h602; simp only [Bool.and_eq_true, decide_eq_true_eq] at this; omega)) h603) (ob (zmg true 1 (eL eI) s1_16 true) ob0)))) (by kernel_rfl)
  ·refine zk g3 (fun v604 h605 g4 => ?_)
   refine zDb g4 (fun h606 g5 => ?_)
   exact zqn ((w64 (s1_9 + 1)), (s1_16 ++ [(v604.2.2, (xcap true v604.2.2))]), v604.2.1) [6] [(32, 7, 0, .q (xb true)), (32, 9, 1, .q (.ptr 0 7 (s1_9.toNat))), (32, 9, 2, .q (xb false)), (32, 17, 3, .q (xi (v604.2.2.length : Int))), (32, 17, 5, .q (xi (v604.2.2.length : Int))), (32, 17, 6, .sr (.d (dl eI v604.2.2 (xcap true v604.2.2))) (rowO true 1 eI v604.2.2 false)), (32, 17, 8, .ap (s1_16 ++ [(v604.2.2, (xcap true v604.2.2))]).length (rowO true 1 (eL eI) (s1_16 ++ [(v604.2.2, (xcap true v604.2.2))]) true))] [(32, 2, (.nor, zuf p0 v1 s1_9 s1_16 v604))] g5 (ob (o_b h601) (ob (z7m (m := 8) 0 7 0 1 s1_9.toNat h602 (by omega)) (ob (o_tr (zKt 8 s1_18 s1_9.toNat (by have := h602; simp only [Bool.and_eq_true, decide_eq_true_eq] at this; omega)) h603) (ob (zC (id := 2) (r' := (.nor, zuf p0 v1 s1_9 s1_16 v604)) (zGm (zjl k p0 v1 s1_9 s1_16) k _ _ h605) rfl) (ob (z5j true 1 eI v604.2.2 true) (ob (z5j true 1 eI v604.2.2 true) (ob (o_sr (P := TE.P) (T := 27) (U := 3) (by' := 8) (ρ := fun _ => xi (v604.2.2.length : Int)) (lv := 0) (s := 9) (lo := none) (hi := some (.tmp 0)) (mx := some (.tmp 0)) true 1 eI v604.2.2 true (by kernel_rfl) (by kernel_rfl) rfl rfl rfl) (ob (o_ap (b := true) (z := 1) (e := (eL eI)) (l := s1_16) (w := true) (v604.2.2, (xcap true v604.2.2)) (fun _ => rfl) h606) (ob (zmg true 1 (eL eI) (s1_16 ++ [(v604.2.2, (xcap true v604.2.2))]) true) ob0))))))))) (by kernel_rfl)
 ·exact zqo [(32, 7, 0, .q (xb false))] [] g1 (ob (o_b h601) ob0) (by kernel_rfl)
theorem z9 (k : Nat) (p0 : zb) (r : ((SL (SL Int)) × Int)) (h : zYh k p0 = some r) : zB TE (ev TE) 32 [(.agg (zd p0))] = some (z7g r) := by
 unfold zYh at h
 refine zk h (fun v1 h2 g1 => ?_)
 refine zo g1 (fun h3 g2 => ?_) (fun h3 g2 => ?_)
 ·exact zr (g := z7g) g2 (zqc [(32, 1, 1, .c (.tup [(.agg [(di v1.1.many), (.mp (em (fun k => D.agg (zh k)) (fun n => D.i .i64 n) v1.1.same))]), (di v1.2)])), (32, 2, 1, .q (xb true))] [] (ob (zvc k p0 true _ h2) (ob (o_b h3) ob0)) (by kernel_rfl))
 ·refine zk g2 (fun v4 h5 g3 => ?_)
  exact zr (g := z7g) g3 (zqc [(32, 1, 1, .c (.tup [(.agg [(di v1.1.many), (.mp (em (fun k => D.agg (zh k)) (fun n => D.i .i64 n) v1.1.same))]), (di v1.2)])), (32, 2, 1, .q (xb false)), (32, 6, 2, .q (xi (p0.Letters.1.length : Int))), (32, 19, 2, .q (xi (v4.2.1.length : Int))), (32, 19, 4, .q (xi (v4.2.1.length : Int))), (32, 19, 5, .sr (.d (dl (eL eI) v4.2.1 (xcap true v4.2.1))) (rowO true 1 (eL eI) v4.2.1 false))] [(32, 0, (.nor, zEf p0 v1 v4))] (ob (zvc k p0 true _ h2) (ob (o_b h3) (ob (zq za p0.Letters.1) (ob (zC (id := 0) (r' := (.nor, zEf p0 v1 v4)) (zGm (ztl k p0 v1) k _ _ h5) rfl) (ob (z5j true 1 (eL eI) v4.2.1 true) (ob (z5j true 1 (eL eI) v4.2.1 true) (ob (o_sr (P := TE.P) (T := 23) (U := 27) (by' := 24) (ρ := fun _ => xi (v4.2.1.length : Int)) (lv := 0) (s := 6) (lo := none) (hi := some (.tmp 0)) (mx := some (.tmp 0)) true 1 (eL eI) v4.2.1 true (by kernel_rfl) (by kernel_rfl) rfl rfl rfl) ob0))))))) (by kernel_rfl))
noncomputable def zev (p0 : zb) (v1 : zt3) (r : (Int × Bool × Int × Int)) (s1_11 s8_14 v1002 : Int) : TM := [(0, (.d (.agg (zd p0)))), (zsp 1), (2, (xi 0)), (3, (xi 0)), (4, (xi v1.2)), (zsp 5), (18, (xb false)), (22, (xb false)), (zsp 6), (7, (xi r.1)), (29, (xi (p0.Letters.1.length : Int))), (30, (xi s1_11)), (31, (xb true)), (8, (xi s1_11)), (9, (xi s8_14)), (39, (xb true)), (10, (xi ((zJ zp (⟨s1_11, s8_14⟩ : zl) v1.1.same).getD 0))), (11, (xi v1002)), (57, (xb r.2.1))]
noncomputable def z2e (p0 : zb) (v1 : zt3) (s1_11 s8_9 s8_14 s8_21 s8_22 v1002 : Int) (cb : Bool) (r : (Int × Bool × Int × Int)) : St := ⟨(zev p0 v1 r s1_11 s8_14 v1002), ⟨[(zc 1 (zd p0)), (5, (.cells [(xi v1.1.many), (.d (.mp (em (fun k => D.agg (zh k)) (fun n => D.i .i64 n) v1.1.same)))])), (6, (.cells [(xi r.2.2.1), (xi r.2.2.2)]))], []⟩, []⟩
noncomputable def zcv (p0 : zb) (v1 : zt3) (s8_9 s1_11 s8_14 v1002 : Int) (cb : Bool) : TM := [(0, (.d (.agg (zd p0)))), (zsp 1), (2, (xi 0)), (3, (xi 0)), (4, (xi v1.2)), (zsp 5), (18, (xb false)), (22, (xb false)), (zsp 6), (7, (xi s8_9)), (29, (xi (p0.Letters.1.length : Int))), (30, (xi s1_11)), (31, (xb true)), (8, (xi s1_11)), (9, (xi s8_14)), (39, (xb true)), (10, (xi ((zJ zp (⟨s1_11, s8_14⟩ : zl) v1.1.same).getD 0))), (11, (xi v1002)), (57, (xb cb))]
theorem zom (k : Nat) (p0 : zb) (v1 : zt3) (s1_11 s8_9 s8_14 s8_21 s8_22 v1002 : Int) (cb : Bool) (r : (Int × Bool × Int × Int)) (h : znh k p0 v1 s1_11 s8_9 s8_14 s8_21 s8_22 v1002 cb = some r) : ev TE 35 (cnd TE 35 57) ⟨(zcv p0 v1 s8_9 s1_11 s8_14 v1002 cb), ⟨[(zc 1 (zd p0)), (5, (.cells [(xi v1.1.many), (.d (.mp (em (fun k => D.agg (zh k)) (fun n => D.i .i64 n) v1.1.same)))])), (6, (.cells [(xi s8_21), (xi s8_22)]))], []⟩, []⟩ = some (.nor, z2e p0 v1 s1_11 s8_9 s8_14 s8_21 s8_22 v1002 cb r) := by
 unfold znh at h
 refine zo h (fun h1101 g1 => ?_) (fun h1101 g1 => ?_)
 ·subst h1101
  exact zw (g := fun r => (Ex.nor, z2e p0 v1 s1_11 s8_9 s8_14 s8_21 s8_22 v1002 true r)) g1 (zqe [] [] ob0 (by kernel_rfl))
 ·subst h1101
  exact zw (g := fun r => (Ex.nor, z2e p0 v1 s1_11 s8_9 s8_14 s8_21 s8_22 v1002 false r)) g1 (zqe [] [] ob0 (by kernel_rfl))
noncomputable def zEv (p0 : zb) (v1 : zt3) (s8_9 s1_11 s8_14 : Int) : TM := [(0, (.d (.agg (zd p0)))), (zsp 1), (2, (xi 0)), (3, (xi 0)), (4, (xi v1.2)), (zsp 5), (18, (xb false)), (22, (xb false)), (zsp 6), (7, (xi s8_9)), (29, (xi (p0.Letters.1.length : Int))), (30, (xi s1_11)), (31, (xb true)), (8, (xi s1_11)), (9, (xi s8_14))]
noncomputable def znn (p0 : zb) (v1 : zt3) (s1_11 s8_9 s8_14 s8_21 s8_22 : Int) : St := ⟨(zEv p0 v1 s8_9 s1_11 s8_14), ⟨[(zc 1 (zd p0)), (5, (.cells [(xi v1.1.many), (.d (.mp (em (fun k => D.agg (zh k)) (fun n => D.i .i64 n) v1.1.same)))])), (6, (.cells [(xi s8_21), (xi s8_22)]))], []⟩, []⟩
noncomputable def zNv (p0 : zb) (v1 : zt3) (r : (Int × Int × Int × Int)) (s1_11 : Int) : TM := [(0, (.d (.agg (zd p0)))), (zsp 1), (2, (xi 0)), (3, (xi 0)), (4, (xi v1.2)), (zsp 5), (18, (xb false)), (22, (xb false)), (zsp 6), (7, (xi r.1)), (29, (xi (p0.Letters.1.length : Int))), (30, (xi s1_11)), (31, (xb true)), (8, (xi s1_11)), (9, (xi r.2.1)), (39, (xb false))]
noncomputable def zGg (p0 : zb) (v1 : zt3) (s1_11 : Int) (r : (Int × Int × Int × Int)) : St := ⟨(zNv p0 v1 r s1_11), ⟨[(zc 1 (zd p0)), (5, (.cells [(xi v1.1.many), (.d (.mp (em (fun k => D.agg (zh k)) (fun n => D.i .i64 n) v1.1.same)))])), (6, (.cells [(xi r.2.2.1), (xi r.2.2.2)]))], []⟩, []⟩
noncomputable def zrn (p0 : zb) (v1 : zt3) (s1_11 : Int) : (Int × Int × Int × Int) → Ex × St := fun r => ((.exit 2), zGg p0 v1 s1_11 r)
theorem zXm (k : Nat) (p0 : zb) (v1 : zt3) (s1_11 s8_9 s8_14 s8_21 s8_22 : Int) (x : (Int × Int × Int × Int) ⊕ (Int × Int × Int × Int)) (h : zRh k p0 v1 s1_11 s8_9 s8_14 s8_21 s8_22 = some x) : zL TE 35 (blk TE 35 2) (fun s : (Int × Int × Int × Int) => znn p0 v1 s1_11 s.1 s.2.1 s.2.2.1 s.2.2.2) (zrn p0 v1 s1_11) (s8_9, s8_14, s8_21, s8_22) x := by
 unfold zRh at h
 refine zo h (fun h1001 g1 => ?_) (fun h1001 g1 => ?_)
 ·refine zk g1 (fun v1002 h1003 g2 => ?_)
  refine zk g2 (fun v1004 h1005 g3 => ?_)
  exact zqn (v1004.1, (w64 (s8_14 + 1)), v1004.2.2.1, v1004.2.2.2) [] [(35, 11, 3, .q (xi (p0.Letters.1.length : Int))), (35, 11, 4, .q (xb true)), (35, 13, 5, .q (xi ((zJ zp (⟨s1_11, s8_14⟩ : zl) v1.1.same).getD 0))), (35, 14, 6, .c (di v1002))] [(35, 2000057, (.nor, z2e p0 v1 s1_11 s8_9 s8_14 s8_21 s8_22 v1002 (decide (v1002 < s8_9)) v1004))] g3 (ob (zq za p0.Letters.1) (ob (o_b h1001) (ob (z0j (ek := (fun k => D.agg (zh k))) (evl := (fun n => D.i .i64 n)) (q := zp) (fun _ _ => rfl) (⟨s1_11, s8_14⟩ : zl) v1.1.same 0) (ob (z2c k ((zJ zp (⟨s1_11, s8_14⟩ : zl) v1.1.same).getD 0) ([(w64 (v1.1.many - ((zJ zp (⟨s1_11, s8_14⟩ : zl) v1.1.same).getD 0)))], .ex) _ h1003) (ob (zom k p0 v1 s1_11 s8_9 s8_14 s8_21 s8_22 v1002 (decide (v1002 < s8_9)) _ h1005) ob0))))) (by kernel_rfl)
 ·exact zqo [(35, 11, 3, .q (xi (p0.Letters.1.length : Int))), (35, 11, 4, .q (xb false))] [] g1 (ob (zq za p0.Letters.1) (ob (o_b h1001) ob0)) (by kernel_rfl)
noncomputable def zrv (p0 : zb) (v1 : zt3) (s1_9 s1_11 : Int) : TM := [(0, (.d (.agg (zd p0)))), (zsp 1), (2, (xi 0)), (3, (xi 0)), (4, (xi v1.2)), (zsp 5), (18, (xb false)), (22, (xb false)), (zsp 6), (7, (xi s1_9)), (29, (xi (p0.Letters.1.length : Int))), (30, (xi s1_11))]
noncomputable def zon (p0 : zb) (v1 : zt3) (s1_9 s1_11 s1_18 s1_19 : Int) : St := ⟨(zrv p0 v1 s1_9 s1_11), ⟨[(zc 1 (zd p0)), (5, (.cells [(xi v1.1.many), (.d (.mp (em (fun k => D.agg (zh k)) (fun n => D.i .i64 n) v1.1.same)))])), (6, (.cells [(xi s1_18), (xi s1_19)]))], []⟩, []⟩
noncomputable def zhv (p0 : zb) (v1 : zt3) (r : (Int × Int × Int × Int)) : TM := [(0, (.d (.agg (zd p0)))), (zsp 1), (2, (xi 0)), (3, (xi 0)), (4, (xi v1.2)), (zsp 5), (18, (xb false)), (22, (xb false)), (zsp 6), (7, (xi r.1)), (29, (xi (p0.Letters.1.length : Int))), (30, (xi r.2.1)), (31, (xb false))]
noncomputable def zMg (p0 : zb) (v1 : zt3) (r : (Int × Int × Int × Int)) : St := ⟨(zhv p0 v1 r), ⟨[(zc 1 (zd p0)), (5, (.cells [(xi v1.1.many), (.d (.mp (em (fun k => D.agg (zh k)) (fun n => D.i .i64 n) v1.1.same)))])), (6, (.cells [(xi r.2.2.1), (xi r.2.2.2)]))], []⟩, []⟩
noncomputable def zln (p0 : zb) (v1 : zt3) : (Int × Int × Int × Int) → Ex × St := fun r => ((.exit 0), zMg p0 v1 r)
theorem zKm (k : Nat) (p0 : zb) (v1 : zt3) (s1_9 s1_11 s1_18 s1_19 : Int) (x : (Int × Int × Int × Int) ⊕ (Int × Int × Int × Int)) (h : zZh k p0 v1 s1_9 s1_11 s1_18 s1_19 = some x) : zL TE 35 (blk TE 35 0) (fun s : (Int × Int × Int × Int) => zon p0 v1 s.1 s.2.1 s.2.2.1 s.2.2.2) (zln p0 v1) (s1_9, s1_11, s1_18, s1_19) x := by
 unfold zZh at h
 refine zo h (fun h801 g1 => ?_) (fun h801 g1 => ?_)
 ·refine zk g1 (fun v802 h803 g2 => ?_)
  exact zqn (v802.1, (w64 (s1_11 + 1)), v802.2.2.1, v802.2.2.2) [] [(35, 8, 0, .q (xb true))] [(35, 2, (.nor, zGg p0 v1 s1_11 v802))] g2 (ob (o_b h801) (ob (zC (id := 2) (r' := (.nor, zGg p0 v1 s1_11 v802)) (zpu (zXm k p0 v1 s1_11) k _ _ h803) rfl) ob0)) (by kernel_rfl)
 ·exact zqo [(35, 8, 0, .q (xb false))] [] g1 (ob (o_b h801) ob0) (by kernel_rfl)
theorem zvb (k : Nat) (p0 : zb) (r : (Int × Int × Int)) (h : zpk k p0 = some r) : zB TE (ev TE) 35 [(.agg (zd p0))] = some (zZg r) := by
 unfold zpk at h
 refine zk h (fun v1 h2 g1 => ?_)
 refine zo g1 (fun h3 g2 => ?_) (fun h3 g2 => ?_)
 ·exact zr (g := zZg) g2 (zqc [(35, 1, 1, .c (.tup [(.agg [(di v1.1.many), (.mp (em (fun k => D.agg (zh k)) (fun n => D.i .i64 n) v1.1.same))]), (di v1.2)])), (35, 2, 1, .q (xb true))] [] (ob (zvc k p0 true _ h2) (ob (o_b h3) ob0)) (by kernel_rfl))
 ·refine zo g2 (fun h4 g3 => ?_) (fun h4 g3 => ?_)
  ·exact zr (g := zZg) g3 (zqc [(35, 1, 1, .c (.tup [(.agg [(di v1.1.many), (.mp (em (fun k => D.agg (zh k)) (fun n => D.i .i64 n) v1.1.same))]), (di v1.2)])), (35, 2, 1, .q (xb false)), (35, 4, 2, .q (xb true))] [] (ob (zvc k p0 true _ h2) (ob (o_b h3) (ob (o_b h4) ob0))) (by kernel_rfl))
  ·refine zk g3 (fun v5 h6 g4 => ?_)
   exact zr (g := zZg) g4 (zqc [(35, 1, 1, .c (.tup [(.agg [(di v1.1.many), (.mp (em (fun k => D.agg (zh k)) (fun n => D.i .i64 n) v1.1.same))]), (di v1.2)])), (35, 2, 1, .q (xb false)), (35, 4, 2, .q (xb false)), (35, 7, 2, .q (xi (p0.Letters.1.length : Int)))] [(35, 0, (.nor, zMg p0 v1 v5))] (ob (zvc k p0 true _ h2) (ob (o_b h3) (ob (o_b h4) (ob (zq za p0.Letters.1) (ob (zC (id := 0) (r' := (.nor, zMg p0 v1 v5)) (zpu (zKm k p0 v1) k _ _ h6) rfl) ob0))))) (by kernel_rfl))
noncomputable def zHj (p0 : zb) (v3 : zt0) : TM := [(0, (.d (.agg (zd p0)))), (zsp 1), (zsp 2), (5, (.d (.fn 88 [] [(.pin [(dl za v3.1.1 v3.1.2), (dl (eL eI) v3.2.1.1 v3.2.1.2), (dl (aI 2) v3.2.2.1.1 v3.2.2.1.2), (di v3.2.2.2.1), (.mp (em (fun k => D.agg (zh k)) (fun b => D.b b) v3.2.2.2.2))])])))]
noncomputable def zFd (p0 : zb) (v3 : zt0) : (Unit ⊕ Unit) → D × FS × List LRec := Sum.elim (fun r => ((db false), ⟨[(2, (.cells [(.yld 0)])), (3, (.cells [(.fn 89 [] [(.d (.pin [(dl za v3.1.1 v3.1.2), (dl (eL eI) v3.2.1.1 v3.2.1.2), (dl (aI 2) v3.2.2.1.1 v3.2.2.1.2), (di v3.2.2.2.1), (.mp (em (fun k => D.agg (zh k)) (fun b => D.b b) v3.2.2.2.2))])), (.ptr 1 2 0), (.ptr 1 3 0)])]))], [[(zc 1 (zd p0)), (2, (.cells [(xb true)]))]]⟩, [⟨(zHj p0 v3), 0, rfP (blk TE 66 0), rfA (blk TE 66 0), rfB (blk TE 66 0), 66, (.done .ret)⟩])) (fun r => ((db true), ⟨[(2, (.cells [(.yld 0)])), (3, (.cells [(.fn 89 [] [(.d (.pin [(dl za v3.1.1 v3.1.2), (dl (eL eI) v3.2.1.1 v3.2.1.2), (dl (aI 2) v3.2.2.1.1 v3.2.2.1.2), (di v3.2.2.2.1), (.mp (em (fun k => D.agg (zh k)) (fun b => D.b b) v3.2.2.2.2))])), (.ptr 1 2 0), (.ptr 1 3 0)])]))], [[(zc 1 (zd p0)), (2, (.cells [(xb false)]))]]⟩, [⟨(zHj p0 v3), 0, rfP (blk TE 66 0), rfA (blk TE 66 0), rfB (blk TE 66 0), 66, .rdy⟩]))
noncomputable def zSd (p0 : zb) (v3 : zt0) (f : Fr) (fs : List Fr) : (Unit ⊕ Unit) → D × FS × List LRec := Sum.elim (fun r => ((db false), ⟨f, [[(zc 1 (zd p0)), (2, (.cells [(xb true)]))], [(2, (.cells [(.yld 0)])), (3, (.cells [(.fn 89 [] [(.d (.pin [(dl za v3.1.1 v3.1.2), (dl (eL eI) v3.2.1.1 v3.2.1.2), (dl (aI 2) v3.2.2.1.1 v3.2.2.1.2), (di v3.2.2.2.1), (.mp (em (fun k => D.agg (zh k)) (fun b => D.b b) v3.2.2.2.2))])), (.ptr 1 2 0), (.ptr 1 3 0)])]))]] ++ fs⟩, [⟨(zHj p0 v3), 0, rfP (blk TE 66 0), rfA (blk TE 66 0), rfB (blk TE 66 0), 66, (.done .ret)⟩])) (fun r => ((db true), ⟨f, [[(zc 1 (zd p0)), (2, (.cells [(xb false)]))], [(2, (.cells [(.yld 0)])), (3, (.cells [(.fn 89 [] [(.d (.pin [(dl za v3.1.1 v3.1.2), (dl (eL eI) v3.2.1.1 v3.2.1.2), (dl (aI 2) v3.2.2.1.1 v3.2.2.1.2), (di v3.2.2.2.1), (.mp (em (fun k => D.agg (zh k)) (fun b => D.b b) v3.2.2.2.2))])), (.ptr 1 2 0), (.ptr 1 3 0)])]))]] ++ fs⟩, [⟨(zHj p0 v3), 0, rfP (blk TE 66 0), rfA (blk TE 66 0), rfB (blk TE 66 0), 66, .rdy⟩]))
noncomputable def zce (p0 : zb) (v3 : zt0) (rc : ((SL Int) → Option (Unit ⊕ Unit))) (fs : List Fr) : Prop := ∀ (f : Fr) (r0 : (SL Int)) (x : (Unit ⊕ Unit)), rc r0 = some x → zyb TE (ev TE) 89 [(.d (dl eI r0.1 r0.2)), (.d (.pin [(dl za v3.1.1 v3.1.2), (dl (eL eI) v3.2.1.1 v3.2.1.2), (dl (aI 2) v3.2.2.1.1 v3.2.2.1.2), (di v3.2.2.2.1), (.mp (em (fun k => D.agg (zh k)) (fun b => D.b b) v3.2.2.2.2))])), (.ptr 1 2 0), (.ptr 1 3 0)] ⟨f, ([[(zc 1 (zd p0)), (2, (.cells [(xb false)]))], [(2, (.cells [(.yld 0)])), (3, (.cells [(.fn 89 [] [(.d (.pin [(dl za v3.1.1 v3.1.2), (dl (eL eI) v3.2.1.1 v3.2.1.2), (dl (aI 2) v3.2.2.1.1 v3.2.2.1.2), (di v3.2.2.2.1), (.mp (em (fun k => D.agg (zh k)) (fun b => D.b b) v3.2.2.2.2))])), (.ptr 1 2 0), (.ptr 1 3 0)])]))]] ++ fs)⟩ [⟨(zHj p0 v3), 0, rfP (blk TE 66 0), rfA (blk TE 66 0), rfB (blk TE 66 0), 66, .rdy⟩] = some (zSd p0 v3 f fs x)
noncomputable def zbv (r0 : (SL Int)) (v3 : zt0) (v202 s2_10 : Int) (r : Bool) : TM := [(0, (.d (dl eI r0.1 r0.2))), (1, (.d (.pin [(dl za v3.1.1 v3.1.2), (dl (eL eI) v3.2.1.1 v3.2.1.2), (dl (aI 2) v3.2.2.1.1 v3.2.2.1.2), (di v3.2.2.2.1), (.mp (em (fun k => D.agg (zh k)) (fun b => D.b b) v3.2.2.2.2))]))), (2, (.ptr 1 2 0)), (3, (.ptr 1 3 0)), (5, (xb false)), (6, (xi (r0.1.length : Int))), (15, (xb false)), (25, (xi (if (w64 (v202 + 1)) < v3.2.2.2.1 then (w64 (v202 + 1)) else v3.2.2.2.1))), (26, (xi s2_10)), (27, (xb true)), (7, (xi s2_10)), (43, (xb r))]
noncomputable def zbd (p0 : zb) (v3 : zt0) (r0 : (SL Int)) (v202 s2_10 : Int) (rc : ((SL Int) → Option (Unit ⊕ Unit))) (fs : List Fr) (r : Bool) : St := ⟨(zbv r0 v3 v202 s2_10 r), ⟨[], ([[(zc 1 (zd p0)), (2, (.cells [(xb false)]))], [(2, (.cells [(.yld 0)])), (3, (.cells [(.fn 89 [] [(.d (.pin [(dl za v3.1.1 v3.1.2), (dl (eL eI) v3.2.1.1 v3.2.1.2), (dl (aI 2) v3.2.2.1.1 v3.2.2.1.2), (di v3.2.2.2.1), (.mp (em (fun k => D.agg (zh k)) (fun b => D.b b) v3.2.2.2.2))])), (.ptr 1 2 0), (.ptr 1 3 0)])]))]] ++ fs)⟩, [⟨(zHj p0 v3), 0, rfP (blk TE 66 0), rfA (blk TE 66 0), rfB (blk TE 66 0), 66, .rdy⟩]⟩
noncomputable def zIv (r0 : (SL Int)) (v3 : zt0) (k : Nat) (v202 s2_10 : Int) : TM := [(0, (.d (dl eI r0.1 r0.2))), (1, (.d (.pin [(dl za v3.1.1 v3.1.2), (dl (eL eI) v3.2.1.1 v3.2.1.2), (dl (aI 2) v3.2.2.1.1 v3.2.2.1.2), (di v3.2.2.2.1), (.mp (em (fun k => D.agg (zh k)) (fun b => D.b b) v3.2.2.2.2))]))), (2, (.ptr 1 2 0)), (3, (.ptr 1 3 0)), (5, (xb false)), (6, (xi (r0.1.length : Int))), (15, (xb false)), (25, (xi (if (w64 (v202 + 1)) < v3.2.2.2.1 then (w64 (v202 + 1)) else v3.2.2.2.1))), (26, (xi s2_10)), (27, (xb true)), (7, (xi s2_10))]
noncomputable def zyp (p0 : zb) (v3 : zt0) (k : Nat) : TM := [(0, (.d (.agg (zd p0)))), (zsp 1), (zsp 2), (5, (.d (.fn 88 [] [(.pin [(dl za v3.1.1 v3.1.2), (dl (eL eI) v3.2.1.1 v3.2.1.2), (dl (aI 2) v3.2.2.1.1 v3.2.2.1.2), (di v3.2.2.2.1), (.mp (em (fun k => D.agg (zh k)) (fun b => D.b b) v3.2.2.2.2))])])))]
theorem zBg (k : Nat) (p0 : zb) (v3 : zt0) (r0 : (SL Int)) (v202 s2_10 : Int) (rc : ((SL Int) → Option (Unit ⊕ Unit))) (fs : List Fr) (hfs : fs.length ≤ 8) (hrc : zce p0 v3 rc fs) (r : Bool) (h : zdi k p0 v3 r0 v202 s2_10 rc = some r) : ev TE 89 (rgn TE 89 7) ⟨(zIv r0 v3 k v202 s2_10), ⟨[], ([[(zc 1 (zd p0)), (2, (.cells [(xb false)]))], [(2, (.cells [(.yld 0)])), (3, (.cells [(.fn 89 [] [(.d (.pin [(dl za v3.1.1 v3.1.2), (dl (eL eI) v3.2.1.1 v3.2.1.2), (dl (aI 2) v3.2.2.1.1 v3.2.2.1.2), (di v3.2.2.2.1), (.mp (em (fun k => D.agg (zh k)) (fun b => D.b b) v3.2.2.2.2))])), (.ptr 1 2 0), (.ptr 1 3 0)])]))]] ++ fs)⟩, [⟨(zyp p0 v3 k), 0, rfP (blk TE 66 0), rfA (blk TE 66 0), rfB (blk TE 66 0), 66, .rdy⟩]⟩ = some (.nor, zbd p0 v3 r0 v202 s2_10 rc fs r) := by
 unfold zdi at h
 refine zk h (fun v501 h502 g1 => ?_)
 refine zo g1 (fun h503 g2 => ?_) (fun h503 g2 => ?_)
 ·exact zw (g := fun r => (Ex.nor, zbd p0 v3 r0 v202 s2_10 rc fs r)) g2 (zqe [(89, 7, 4, .c (db v501)), (89, 7, 6, .q (xb true))] [] (ob (zU k (⟨(⟨v3.1, v3.2.1, v3.2.2.1, v3.2.2.2.1⟩ : zb), v3.2.2.2.2⟩ : zi) r0 (r0.1.length : Int) s2_10 _ h502) (ob (o_b h503) ob0)) (by cases f8 hfs <;> kernel_rfl))
 ·refine zk g2 (fun v504 h505 g3 => ?_)
  refine zk g3 (fun v506 h507 g4 => ?_)
  exact zw (g := fun r => (Ex.nor, zbd p0 v3 r0 v202 s2_10 rc fs r)) g4 (zqe [(89, 7, 4, .c (db v501)), (89, 7, 6, .q (xb false)), (89, 7, 10, .c (.agg (aB 8 v504))), (89, 7, 12, .c (db v506))] [] (ob (zU k (⟨(⟨v3.1, v3.2.1, v3.2.2.1, v3.2.2.2.1⟩ : zb), v3.2.2.2.2⟩ : zi) r0 (r0.1.length : Int) s2_10 _ h502) (ob (o_b h503) (ob (z9d k r0 s2_10 _ h505) (ob (zTb k (⟨(⟨v3.1, v3.2.1, v3.2.2.1, v3.2.2.2.1⟩ : zb), v3.2.2.2.2⟩ : zi) v504 (r0.1.length : Int) _ h507) ob0)))) (by cases f8 hfs <;> kernel_rfl))
noncomputable def ztv (r0 : (SL Int)) (v3 : zt0) (v202 s2_10 : Int) : TM := [(0, (.d (dl eI r0.1 r0.2))), (1, (.d (.pin [(dl za v3.1.1 v3.1.2), (dl (eL eI) v3.2.1.1 v3.2.1.2), (dl (aI 2) v3.2.2.1.1 v3.2.2.1.2), (di v3.2.2.2.1), (.mp (em (fun k => D.agg (zh k)) (fun b => D.b b) v3.2.2.2.2))]))), (2, (.ptr 1 2 0)), (3, (.ptr 1 3 0)), (5, (xb false)), (6, (xi (r0.1.length : Int))), (15, (xb false)), (25, (xi (if (w64 (v202 + 1)) < v3.2.2.2.1 then (w64 (v202 + 1)) else v3.2.2.2.1))), (26, (xi s2_10))]
noncomputable def zpn (p0 : zb) (v3 : zt0) (r0 : (SL Int)) (v202 : Int) (rc : ((SL Int) → Option (Unit ⊕ Unit))) (fs : List Fr) (s2_10 : Int) : St := ⟨(ztv r0 v3 v202 s2_10), ⟨[], ([[(zc 1 (zd p0)), (2, (.cells [(xb false)]))], [(2, (.cells [(.yld 0)])), (3, (.cells [(.fn 89 [] [(.d (.pin [(dl za v3.1.1 v3.1.2), (dl (eL eI) v3.2.1.1 v3.2.1.2), (dl (aI 2) v3.2.2.1.1 v3.2.2.1.2), (di v3.2.2.2.1), (.mp (em (fun k => D.agg (zh k)) (fun b => D.b b) v3.2.2.2.2))])), (.ptr 1 2 0), (.ptr 1 3 0)])]))]] ++ fs)⟩, [⟨(zHj p0 v3), 0, rfP (blk TE 66 0), rfA (blk TE 66 0), rfB (blk TE 66 0), 66, .rdy⟩]⟩
noncomputable def zYu (r0 : (SL Int)) (v3 : zt0) (v202 r : Int) : TM := [(0, (.d (dl eI r0.1 r0.2))), (1, (.d (.pin [(dl za v3.1.1 v3.1.2), (dl (eL eI) v3.2.1.1 v3.2.1.2), (dl (aI 2) v3.2.2.1.1 v3.2.2.1.2), (di v3.2.2.2.1), (.mp (em (fun k => D.agg (zh k)) (fun b => D.b b) v3.2.2.2.2))]))), (2, (.ptr 1 2 0)), (3, (.ptr 1 3 0)), (5, (xb false)), (6, (xi (r0.1.length : Int))), (15, (xb false)), (25, (xi (if (w64 (v202 + 1)) < v3.2.2.2.1 then (w64 (v202 + 1)) else v3.2.2.2.1))), (26, (xi r)), (27, (xb true)), (7, (xi r)), (43, (xb false)), (53, (xb true))]
noncomputable def zHd (p0 : zb) (v3 : zt0) (r0 : (SL Int)) (v202 : Int) (rc : ((SL Int) → Option (Unit ⊕ Unit))) (fs : List Fr) (r : Int) : St := ⟨(zYu r0 v3 v202 r), ⟨[], ([[(zc 1 (zd p0)), (2, (.cells [(xb true)]))], [(2, (.cells [(.yld 0)])), (3, (.cells [(.fn 89 [] [(.d (.pin [(dl za v3.1.1 v3.1.2), (dl (eL eI) v3.2.1.1 v3.2.1.2), (dl (aI 2) v3.2.2.1.1 v3.2.2.1.2), (di v3.2.2.2.1), (.mp (em (fun k => D.agg (zh k)) (fun b => D.b b) v3.2.2.2.2))])), (.ptr 1 2 0), (.ptr 1 3 0)])]))]] ++ fs)⟩, [⟨(zHj p0 v3), 0, rfP (blk TE 66 0), rfA (blk TE 66 0), rfB (blk TE 66 0), 66, (.done .ret)⟩]⟩
noncomputable def zvv (r0 : (SL Int)) (v3 : zt0) (v202 r : Int) : TM := [(0, (.d (dl eI r0.1 r0.2))), (1, (.d (.pin [(dl za v3.1.1 v3.1.2), (dl (eL eI) v3.2.1.1 v3.2.1.2), (dl (aI 2) v3.2.2.1.1 v3.2.2.1.2), (di v3.2.2.2.1), (.mp (em (fun k => D.agg (zh k)) (fun b => D.b b) v3.2.2.2.2))]))), (2, (.ptr 1 2 0)), (3, (.ptr 1 3 0)), (5, (xb false)), (6, (xi (r0.1.length : Int))), (15, (xb false)), (25, (xi (if (w64 (v202 + 1)) < v3.2.2.2.1 then (w64 (v202 + 1)) else v3.2.2.2.1))), (26, (xi r)), (27, (xb false))]
noncomputable def zJd (p0 : zb) (v3 : zt0) (r0 : (SL Int)) (v202 : Int) (rc : ((SL Int) → Option (Unit ⊕ Unit))) (fs : List Fr) (r : Int) : St := ⟨(zvv r0 v3 v202 r), ⟨[], ([[(zc 1 (zd p0)), (2, (.cells [(xb false)]))], [(2, (.cells [(.yld 0)])), (3, (.cells [(.fn 89 [] [(.d (.pin [(dl za v3.1.1 v3.1.2), (dl (eL eI) v3.2.1.1 v3.2.1.2), (dl (aI 2) v3.2.2.1.1 v3.2.2.1.2), (di v3.2.2.2.1), (.mp (em (fun k => D.agg (zh k)) (fun b => D.b b) v3.2.2.2.2))])), (.ptr 1 2 0), (.ptr 1 3 0)])]))]] ++ fs)⟩, [⟨(zHj p0 v3), 0, rfP (blk TE 66 0), rfA (blk TE 66 0), rfB (blk TE 66 0), 66, .rdy⟩]⟩
noncomputable def zmn (p0 : zb) (v3 : zt0) (r0 : (SL Int)) (v202 : Int) (rc : ((SL Int) → Option (Unit ⊕ Unit))) (fs : List Fr) : (Int ⊕ Int) → Ex × St := Sum.elim (fun r => (.ret, zHd p0 v3 r0 v202 rc fs r)) (fun r => ((.exit 0), zJd p0 v3 r0 v202 rc fs r))
theorem zUe (k : Nat) (p0 : zb) (v3 : zt0) (r0 : (SL Int)) (v202 : Int) (rc : ((SL Int) → Option (Unit ⊕ Unit))) (fs : List Fr) (hfs : fs.length ≤ 8) (hrc : zce p0 v3 rc fs) (s2_10 : Int) (x : Int ⊕ (Int ⊕ Int)) (h : zXh k p0 v3 r0 v202 rc s2_10 = some x) : zL TE 89 (blk TE 89 0) (fun s : Int => zpn p0 v3 r0 v202 rc fs s) (zmn p0 v3 r0 v202 rc fs) s2_10 x := by
 unfold zXh at h
 refine zo h (fun h401 g1 => ?_) (fun h401 g1 => ?_)
 ·refine zk g1 (fun v402 h403 g2 => ?_)
  refine zo g2 (fun h404 g3 => ?_) (fun h404 g3 => ?_)
  ·subst h404
   exact zqn (w64 (s2_10 + 1)) [] [(89, 5, 0, .q (xb true))] [(89, 1000007, (.nor, zbd p0 v3 r0 v202 s2_10 rc fs true))] g3 (ob (o_b h401) (ob (zBg k p0 v3 r0 v202 s2_10 rc fs hfs hrc _ h403) ob0)) (by cases f8 hfs <;> kernel_rfl)
  ·subst h404
   refine zo g3 (fun h405 g4 => ?_) (fun h405 g4 => ?_)
   ·cases g4
   ·refine zDb g4 (fun h406 g5 => ?_)
    refine zk g5 (fun v407 h408 g6 => ?_)
    refine zqd g6 (fun v410 hh g7_0 => ?_) (fun v410 hh g7_0 => ?_)
    ·subst hh
     exact zqo [(89, 5, 0, .q (xb true)), (89, 8, 4, .q (.d (dl eI r0.1 (ccap r0.2)))), (89, 8, 7, .q (.d (dl eI (r0.1 ++ [s2_10]) .ro))), (89, 8, 8, .i (db false) ⟨[], ([[(1, (.cells ((zd p0).map .d))), (2, (.cells [(xb true)]))], [(2, (.cells [(.yld 0)])), (3, (.cells [(.fn 89 [] [(.d (.pin [(dl za v3.1.1 v3.1.2), (dl (eL eI) v3.2.1.1 v3.2.1.2), (dl (aI 2) v3.2.2.1.1 v3.2.2.1.2), (di v3.2.2.2.1), (.mp (em (fun k => D.agg (zh k)) (fun b => D.b b) v3.2.2.2.2))])), (.ptr 1 2 0), (.ptr 1 3 0)])]))]] ++ fs)⟩ [⟨[(0, (.d (.agg (zd p0)))), (1, (.ptr 0 1 0)), (2, (.ptr 0 2 0)), (5, (.d (.fn 88 [] [(.pin [(dl za v3.1.1 v3.1.2), (dl (eL eI) v3.2.1.1 v3.2.1.2), (dl (aI 2) v3.2.2.1.1 v3.2.2.1.2), (di v3.2.2.2.1), (.mp (em (fun k => D.agg (zh k)) (fun b => D.b b) v3.2.2.2.2))])])))], 0, rfP (blk TE 66 0), rfA (blk TE 66 0), rfB (blk TE 66 0), 66, (.done .ret)⟩])] [(89, 1000007, (.nor, zbd p0 v3 r0 v202 s2_10 rc fs false))] g7_0 (ob (o_b h401) (ob (zBg k p0 v3 r0 v202 s2_10 rc fs hfs hrc _ h403) (ob (zSl (e := eI) (z := 1) r0.1 r0.2) (ob (o_ad (P := TE.P) (φ := fun _ _ => none) (T := 27) (q := (1, [(di 0)])) (c := (ccap r0.2)) (e := eI) r0.1 s2_10 (by kernel_rfl) (fun _ => rfl) h405 h406) (ob (hrc ([] : Fr) ((r0.1 ++ [s2_10]), .ro) _ h408) ob0))))) (by cases f8 hfs <;> kernel_rfl)
    ·subst hh
     exact zqn (w64 (s2_10 + 1)) [] [(89, 5, 0, .q (xb true)), (89, 8, 4, .q (.d (dl eI r0.1 (ccap r0.2)))), (89, 8, 7, .q (.d (dl eI (r0.1 ++ [s2_10]) .ro))), (89, 8, 8, .i (db true) ⟨[], ([[(1, (.cells ((zd p0).map .d))), (2, (.cells [(xb false)]))], [(2, (.cells [(.yld 0)])), (3, (.cells [(.fn 89 [] [(.d (.pin [(dl za v3.1.1 v3.1.2), (dl (eL eI) v3.2.1.1 v3.2.1.2), (dl (aI 2) v3.2.2.1.1 v3.2.2.1.2), (di v3.2.2.2.1), (.mp (em (fun k => D.agg (zh k)) (fun b => D.b b) v3.2.2.2.2))])), (.ptr 1 2 0), (.ptr 1 3 0)])]))]] ++ fs)⟩ [⟨[(0, (.d (.agg (zd p0)))), (1, (.ptr 0 1 0)), (2, (.ptr 0 2 0)), (5, (.d (.fn 88 [] [(.pin [(dl za v3.1.1 v3.1.2), (dl (eL eI) v3.2.1.1 v3.2.1.2), (dl (aI 2) v3.2.2.1.1 v3.2.2.1.2), (di v3.2.2.2.1), (.mp (em (fun k => D.agg (zh k)) (fun b => D.b b) v3.2.2.2.2))])])))], 0, rfP (blk TE 66 0), rfA (blk TE 66 0), rfB (blk TE 66 0), 66, .rdy⟩])] [(89, 1000007, (.nor, zbd p0 v3 r0 v202 s2_10 rc fs false))] g7_0 (ob (o_b h401) (ob (zBg k p0 v3 r0 v202 s2_10 rc fs hfs hrc _ h403) (ob (zSl (e := eI) (z := 1) r0.1 r0.2) (ob (o_ad (P := TE.P) (φ := fun _ _ => none) (T := 27) (q := (1, [(di 0)])) (c := (ccap r0.2)) (e := eI) r0.1 s2_10 (by kernel_rfl) (fun _ => rfl) h405 h406) (ob (hrc ([] : Fr) ((r0.1 ++ [s2_10]), .ro) _ h408) ob0))))) (by cases f8 hfs <;> kernel_rfl)
 ·exact zqo [(89, 5, 0, .q (xb false))] [] g1 (ob (o_b h401) ob0) (by cases f8 hfs <;> kernel_rfl)
theorem zEm (k : Nat) (p0 : zb) (v3 : zt0) (rc : ((SL Int) → Option (Unit ⊕ Unit))) (hrc : zce p0 v3 rc []) (r0 : (SL Int)) (x : (Unit ⊕ Unit)) (h : z8d k p0 v3 rc r0 = some x) : zyb TE (ev TE) 89 [(.d (dl eI r0.1 r0.2)), (.d (.pin [(dl za v3.1.1 v3.1.2), (dl (eL eI) v3.2.1.1 v3.2.1.2), (dl (aI 2) v3.2.2.1.1 v3.2.2.1.2), (di v3.2.2.2.1), (.mp (em (fun k => D.agg (zh k)) (fun b => D.b b) v3.2.2.2.2))])), (.ptr 1 2 0), (.ptr 1 3 0)] ⟨[(2, (.cells [(.yld 0)])), (3, (.cells [(.fn 89 [] [(.d (.pin [(dl za v3.1.1 v3.1.2), (dl (eL eI) v3.2.1.1 v3.2.1.2), (dl (aI 2) v3.2.2.1.1 v3.2.2.1.2), (di v3.2.2.2.1), (.mp (em (fun k => D.agg (zh k)) (fun b => D.b b) v3.2.2.2.2))])), (.ptr 1 2 0), (.ptr 1 3 0)])]))], [[(zc 1 (zd p0)), (2, (.cells [(xb false)]))]]⟩ [⟨(zyp p0 v3 k), 0, rfP (blk TE 66 0), rfA (blk TE 66 0), rfB (blk TE 66 0), 66, .rdy⟩] = some (zFd p0 v3 x) := by
 unfold z8d at h
 refine zo h (fun h201 g1 => ?_) (fun h201 g1 => ?_)
 ·exact zAc (g := zFd p0 v3) g1 (zzb (n := 80) (V := [(89, 1, 1, .q (xi (r0.1.length : Int))), (89, 2, 4, .q (xi (v3.1.1.length : Int))), (89, 2, 5, .q (xb true))]) (C := []) (ob (zq eI r0.1) (ob (zq za v3.1.1) (ob (o_b h201) ob0))) (by kernel_rfl))
 ·refine zk g1 (fun v202 h203 g2 => ?_)
  refine zk g2 (fun v204 h205 g3 => ?_)
  refine zqd g3 (fun v207 hh g4_0 => ?_) (fun v207 hh g4_0 => ?_)
  ·subst hh
   exact zAc (g := zFd p0 v3) g4_0 (zzb (n := 80) (V := [(89, 1, 1, .q (xi (r0.1.length : Int))), (89, 2, 4, .q (xi (v3.1.1.length : Int))), (89, 2, 5, .q (xb false)), (89, 4, 4, .c (di v202))]) (C := [(89, 0, (.ret, zHd p0 v3 r0 v202 rc ([] : List Fr) v207))]) (ob (zq eI r0.1) (ob (zq za v3.1.1) (ob (o_b h201) (ob (zP k r0 _ h203) (ob (zC (id := 0) (r' := (.ret, zHd p0 v3 r0 v202 rc ([] : List Fr) v207)) (zYd (zUe k p0 v3 r0 v202 rc ([] : List Fr) (Nat.zero_le _) hrc) k _ _ h205) rfl) ob0))))) (by kernel_rfl))
  ·subst hh
   exact zAc (g := zFd p0 v3) g4_0 (zzb (n := 80) (V := [(89, 1, 1, .q (xi (r0.1.length : Int))), (89, 2, 4, .q (xi (v3.1.1.length : Int))), (89, 2, 5, .q (xb false)), (89, 4, 4, .c (di v202))]) (C := [(89, 0, (.nor, zJd p0 v3 r0 v202 rc ([] : List Fr) v207))]) (ob (zq eI r0.1) (ob (zq za v3.1.1) (ob (o_b h201) (ob (zP k r0 _ h203) (ob (zC (id := 0) (r' := (.nor, zJd p0 v3 r0 v202 rc ([] : List Fr) v207)) (zYd (zUe k p0 v3 r0 v202 rc ([] : List Fr) (Nat.zero_le _) hrc) k _ _ h205) rfl) ob0))))) (by kernel_rfl))
theorem ztm (k : Nat) (p0 : zb) (v3 : zt0) (rc : ((SL Int) → Option (Unit ⊕ Unit))) (f : Fr) (fs : List Fr) (hfs : fs.length + 1 ≤ 8) (hrc : zce p0 v3 rc (fs ++ [f])) (r0 : (SL Int)) (x : (Unit ⊕ Unit)) (h : z8d k p0 v3 rc r0 = some x) : zyb TE (ev TE) 89 [(.d (dl eI r0.1 r0.2)), (.d (.pin [(dl za v3.1.1 v3.1.2), (dl (eL eI) v3.2.1.1 v3.2.1.2), (dl (aI 2) v3.2.2.1.1 v3.2.2.1.2), (di v3.2.2.2.1), (.mp (em (fun k => D.agg (zh k)) (fun b => D.b b) v3.2.2.2.2))])), (.ptr 1 2 0), (.ptr 1 3 0)] ⟨f, ([[(zc 1 (zd p0)), (2, (.cells [(xb false)]))], [(2, (.cells [(.yld 0)])), (3, (.cells [(.fn 89 [] [(.d (.pin [(dl za v3.1.1 v3.1.2), (dl (eL eI) v3.2.1.1 v3.2.1.2), (dl (aI 2) v3.2.2.1.1 v3.2.2.1.2), (di v3.2.2.2.1), (.mp (em (fun k => D.agg (zh k)) (fun b => D.b b) v3.2.2.2.2))])), (.ptr 1 2 0), (.ptr 1 3 0)])]))]] ++ fs)⟩ [⟨(zyp p0 v3 k), 0, rfP (blk TE 66 0), rfA (blk TE 66 0), rfB (blk TE 66 0), 66, .rdy⟩] = some (zSd p0 v3 f fs x) := by
 unfold z8d at h
 refine zo h (fun h201 g1 => ?_) (fun h201 g1 => ?_)
 ·exact zAc (g := zSd p0 v3 f fs) g1 (zzb (n := 80) (V := [(89, 1, 1, .q (xi (r0.1.length : Int))), (89, 2, 4, .q (xi (v3.1.1.length : Int))), (89, 2, 5, .q (xb true))]) (C := []) (ob (zq eI r0.1) (ob (zq za v3.1.1) (ob (o_b h201) ob0))) (by cases f8 (Nat.le_of_succ_le hfs) <;> kernel_rfl))
 ·refine zk g1 (fun v202 h203 g2 => ?_)
  refine zk g2 (fun v204 h205 g3 => ?_)
  refine zqd g3 (fun v207 hh g4_0 => ?_) (fun v207 hh g4_0 => ?_)
  ·subst hh
   exact zAc (g := zSd p0 v3 f fs) g4_0 (zzb (n := 80) (V := [(89, 1, 1, .q (xi (r0.1.length : Int))), (89, 2, 4, .q (xi (v3.1.1.length : Int))), (89, 2, 5, .q (xb false)), (89, 4, 4, .c (di v202))]) (C := [(89, 0, (.ret, zHd p0 v3 r0 v202 rc (fs ++ [f]) v207))]) (ob (zq eI r0.1) (ob (zq za v3.1.1) (ob (o_b h201) (ob (zP k r0 _ h203) (ob (zC (id := 0) (r' := (.ret, zHd p0 v3 r0 v202 rc (fs ++ [f]) v207)) (zYd (zUe k p0 v3 r0 v202 rc (fs ++ [f]) (zYi f hfs) hrc) k _ _ h205) rfl) ob0))))) (by cases f8 (Nat.le_of_succ_le hfs) <;> kernel_rfl))
  ·subst hh
   exact zAc (g := zSd p0 v3 f fs) g4_0 (zzb (n := 80) (V := [(89, 1, 1, .q (xi (r0.1.length : Int))), (89, 2, 4, .q (xi (v3.1.1.length : Int))), (89, 2, 5, .q (xb false)), (89, 4, 4, .c (di v202))]) (C := [(89, 0, (.nor, zJd p0 v3 r0 v202 rc (fs ++ [f]) v207))]) (ob (zq eI r0.1) (ob (zq za v3.1.1) (ob (o_b h201) (ob (zP k r0 _ h203) (ob (zC (id := 0) (r' := (.nor, zJd p0 v3 r0 v202 rc (fs ++ [f]) v207)) (zYd (zUe k p0 v3 r0 v202 rc (fs ++ [f]) (zYi f hfs) hrc) k _ _ h205) rfl) ob0))))) (by cases f8 (Nat.le_of_succ_le hfs) <;> kernel_rfl))
theorem zti (k : Nat) (p0 : zb) (v3 : zt0) : ∀ (n : Nat) (fs : List Fr), fs.length + n ≤ 8 → zce p0 v3 (z0e k p0 v3 n) fs
 | 0, fs, hfs => fun f r0 x h => by cases h
 | n + 1, fs, hfs => fun f r0 x h => ztm k p0 v3 _ f fs (by omega) (zti k p0 v3 n (fs ++ [f]) (by simp; omega)) r0 x h
theorem z6i (k : Nat) (p0 : zb) (v3 : zt0) (r0 : (SL Int)) (x : (Unit ⊕ Unit)) (h : z0e k p0 v3 9 r0 = some x) : zyb TE (ev TE) 89 [(.d (dl eI r0.1 r0.2)), (.d (.pin [(dl za v3.1.1 v3.1.2), (dl (eL eI) v3.2.1.1 v3.2.1.2), (dl (aI 2) v3.2.2.1.1 v3.2.2.1.2), (di v3.2.2.2.1), (.mp (em (fun k => D.agg (zh k)) (fun b => D.b b) v3.2.2.2.2))])), (.ptr 1 2 0), (.ptr 1 3 0)] ⟨[(2, (.cells [(.yld 0)])), (3, (.cells [(.fn 89 [] [(.d (.pin [(dl za v3.1.1 v3.1.2), (dl (eL eI) v3.2.1.1 v3.2.1.2), (dl (aI 2) v3.2.2.1.1 v3.2.2.1.2), (di v3.2.2.2.1), (.mp (em (fun k => D.agg (zh k)) (fun b => D.b b) v3.2.2.2.2))])), (.ptr 1 2 0), (.ptr 1 3 0)])]))], [[(zc 1 (zd p0)), (2, (.cells [(xb false)]))]]⟩ [⟨(zyp p0 v3 k), 0, rfP (blk TE 66 0), rfA (blk TE 66 0), rfB (blk TE 66 0), 66, .rdy⟩] = some (zFd p0 v3 x) := zEm k p0 v3 _ (zti k p0 v3 8 [] (by decide)) r0 x h
theorem zqg (k : Nat) (p0 : zb) (r : Bool) (h : zLg k p0 = some r) : zB TE (ev TE) 66 [(.agg (zd p0))] = some (zCi r) := by
 unfold zLg at h
 refine zk h (fun v1 h2 g1 => ?_)
 refine zk g1 (fun v3 h4 g2 => ?_)
 refine zk g2 (fun v5 h6 g3 => ?_)
 refine zqd g3 (fun v8 hh g4_0 => ?_) (fun v8 hh g4_0 => ?_)
 ·subst hh
  exact zr (g := zCi) g4_0 (zqc [(66, 1, 1, .c (.agg (zn v1))), (66, 1, 2, .c (.fn 88 [] [(.pin [(dl za v3.1.1 v3.1.2), (dl (eL eI) v3.2.1.1 v3.2.1.2), (dl (aI 2) v3.2.2.1.1 v3.2.2.1.2), (di v3.2.2.2.1), (.mp (em (fun k => D.agg (zh k)) (fun b => D.b b) v3.2.2.2.2))])])), (88, 3, 1, .i (db false) ⟨[(2, (.cells [(.yld 0)])), (3, (.cells [(.fn 89 [] [(.d (.pin [(dl za v3.1.1 v3.1.2), (dl (eL eI) v3.2.1.1 v3.2.1.2), (dl (aI 2) v3.2.2.1.1 v3.2.2.1.2), (di v3.2.2.2.1), (.mp (em (fun k => D.agg (zh k)) (fun b => D.b b) v3.2.2.2.2))])), (.ptr 1 2 0), (.ptr 1 3 0)])]))], [[(1, (.cells ((zd p0).map .d))), (2, (.cells [(xb true)]))]]⟩ [⟨[(0, (.d (.agg (zd p0)))), (1, (.ptr 0 1 0)), (2, (.ptr 0 2 0)), (5, (.d (.fn 88 [] [(.pin [(dl za v3.1.1 v3.1.2), (dl (eL eI) v3.2.1.1 v3.2.1.2), (dl (aI 2) v3.2.2.1.1 v3.2.2.1.2), (di v3.2.2.2.1), (.mp (em (fun k => D.agg (zh k)) (fun b => D.b b) v3.2.2.2.2))])])))], 0, rfP (blk TE 66 0), rfA (blk TE 66 0), rfB (blk TE 66 0), 66, (.done .ret)⟩])] [] (ob (zjb k p0 _ h2) (ob (zPb k v1 _ h4) (ob (z6i k p0 v3 ([], Cap.nil) _ h6) ob0))) (by kernel_rfl))
 ·subst hh
  exact zr (g := zCi) g4_0 (zqc [(66, 1, 1, .c (.agg (zn v1))), (66, 1, 2, .c (.fn 88 [] [(.pin [(dl za v3.1.1 v3.1.2), (dl (eL eI) v3.2.1.1 v3.2.1.2), (dl (aI 2) v3.2.2.1.1 v3.2.2.1.2), (di v3.2.2.2.1), (.mp (em (fun k => D.agg (zh k)) (fun b => D.b b) v3.2.2.2.2))])])), (88, 3, 1, .i (db true) ⟨[(2, (.cells [(.yld 0)])), (3, (.cells [(.fn 89 [] [(.d (.pin [(dl za v3.1.1 v3.1.2), (dl (eL eI) v3.2.1.1 v3.2.1.2), (dl (aI 2) v3.2.2.1.1 v3.2.2.1.2), (di v3.2.2.2.1), (.mp (em (fun k => D.agg (zh k)) (fun b => D.b b) v3.2.2.2.2))])), (.ptr 1 2 0), (.ptr 1 3 0)])]))], [[(1, (.cells ((zd p0).map .d))), (2, (.cells [(xb false)]))]]⟩ [⟨[(0, (.d (.agg (zd p0)))), (1, (.ptr 0 1 0)), (2, (.ptr 0 2 0)), (5, (.d (.fn 88 [] [(.pin [(dl za v3.1.1 v3.1.2), (dl (eL eI) v3.2.1.1 v3.2.1.2), (dl (aI 2) v3.2.2.1.1 v3.2.2.1.2), (di v3.2.2.2.1), (.mp (em (fun k => D.agg (zh k)) (fun b => D.b b) v3.2.2.2.2))])])))], 0, rfP (blk TE 66 0), rfA (blk TE 66 0), rfB (blk TE 66 0), 66, .rdy⟩])] [] (ob (zjb k p0 _ h2) (ob (zPb k v1 _ h4) (ob (z6i k p0 v3 ([], Cap.nil) _ h6) ob0))) (by kernel_rfl))
noncomputable def zCv (p0 : (SL Int)) (p1 s1_4 : Int) : TM := [(0, (.d (dl eI p0.1 p0.2))), (1, (xi p1)), (4, (xi 0)), (7, (xi (p0.1.length : Int))), (8, (xi s1_4))]
noncomputable def zzj (p0 : (SL Int)) (p1 s1_4 : Int) : St := ⟨(zCv p0 p1 s1_4), ⟨[], []⟩, []⟩
noncomputable def zLv (p0 : (SL Int)) (p1 r : Int) : TM := [(0, (.d (dl eI p0.1 p0.2))), (1, (xi p1)), (4, (xi r)), (7, (xi (p0.1.length : Int))), (8, (xi r)), (9, (xb true)), (5, (xi r)), (16, (xb true))]
noncomputable def z4d (p0 : (SL Int)) (p1 r : Int) : St := ⟨(zLv p0 p1 r), ⟨[], []⟩, []⟩
noncomputable def zqv (p0 : (SL Int)) (p1 r : Int) : TM := [(0, (.d (dl eI p0.1 p0.2))), (1, (xi p1)), (4, (xi 0)), (7, (xi (p0.1.length : Int))), (8, (xi r)), (9, (xb false))]
noncomputable def z0d (p0 : (SL Int)) (p1 r : Int) : St := ⟨(zqv p0 p1 r), ⟨[], []⟩, []⟩
noncomputable def zrj (p0 : (SL Int)) (p1 : Int) : (Int ⊕ Int) → Ex × St := Sum.elim (fun r => (.ret, z4d p0 p1 r)) (fun r => ((.exit 0), z0d p0 p1 r))
theorem z1f (k : Nat) (p0 : (SL Int)) (p1 s1_4 : Int) (x : Int ⊕ (Int ⊕ Int)) (h : zPe k p0 p1 s1_4 = some x) : zL TE 94 (blk TE 94 0) (fun s : Int => zzj p0 p1 s) (zrj p0 p1) s1_4 x := by
 unfold zPe at h
 refine zo h (fun h201 g1 => ?_) (fun h201 g1 => ?_)
 ·refine zk g1 (fun v202 h203 g2 => ?_)
  refine zo g2 (fun h204 g3 => ?_) (fun h204 g3 => ?_)
  ·exact zqo [(94, 2, 0, .q (xb true)), (94, 4, 3, .q (.d (.pin [(di v202)]))), (94, 4, 5, .q (xb true))] [] g3 (ob (o_b h201) (ob (o_ia (e := eI) 1 h203 rfl) (ob (o_b h204) ob0))) (by kernel_rfl)
  ·exact zqn (w64 (s1_4 + 1)) [] [(94, 2, 0, .q (xb true)), (94, 4, 3, .q (.d (.pin [(di v202)]))), (94, 4, 5, .q (xb false))] [] g3 (ob (o_b h201) (ob (o_ia (e := eI) 1 h203 rfl) (ob (o_b h204) ob0))) (by kernel_rfl)
 ·exact zqo [(94, 2, 0, .q (xb false))] [] g1 (ob (o_b h201) ob0) (by kernel_rfl)
theorem zuk (k : Nat) (p0 : (SL Int)) (p1 r : Int) (h : zSf k p0 p1 = some r) : zB TE (ev TE) 94 [(dl eI p0.1 p0.2), (di p1)] = some (z6e r) := by
 unfold zSf at h
 refine zk h (fun v1 h2 g1 => ?_)
 refine zqd g1 (fun v4 hh g2_0 => ?_) (fun v4 hh g2_0 => ?_)
 ·subst hh
  exact zr (g := z6e) g2_0 (zqc [(94, 1, 1, .q (xi (p0.1.length : Int)))] [(94, 0, (.ret, z4d p0 p1 v4))] (ob (zq eI p0.1) (ob (zC (id := 0) (r' := (.ret, z4d p0 p1 v4)) (zYd (z1f k p0 p1) k _ _ h2) rfl) ob0)) (by kernel_rfl))
 ·subst hh
  exact zr (g := z6e) g2_0 (zqc [(94, 1, 1, .q (xi (p0.1.length : Int)))] [(94, 0, (.nor, z0d p0 p1 v4))] (ob (zq eI p0.1) (ob (zC (id := 0) (r' := (.nor, z0d p0 p1 v4)) (zYd (z1f k p0 p1) k _ _ h2) rfl) ob0)) (by kernel_rfl))
theorem z6f (k : Nat) (p0 : (SL Int)) (p1 : Int) (r : Bool) (h : zIe k p0 p1 = some r) : zB TE (ev TE) 92 [(dl eI p0.1 p0.2), (di p1)] = some (zxg r) := by
 unfold zIe at h
 refine zk h (fun v1 h2 g1 => ?_)
 exact zr (g := zxg) g1 (zqc [(92, 1, 2, .c (di v1))] [] (ob (zuk k p0 p1 _ h2) ob0) (by kernel_rfl))
noncomputable def zov (p0 : zb) (p1 : (SL Int)) (s1_7 : Int) : TM := [(0, (.d (.agg (zd p0)))), (1, (.d (dl eI p1.1 p1.2))), (zsp 2), (zsp 4), (zsp 5), (6, (.map 0 18)), (20, (.d (dl za p0.Letters.1 p0.Letters.2))), (21, (xi (p0.Letters.1.length : Int))), (22, (xi s1_7))]
noncomputable def zsl (p0 : zb) (p1 : (SL Int)) (s1_7 : Int) (s1_18 : (List zm)) (s1_20 : (List (Int × Int))) : St := ⟨(zov p0 p1 s1_7), ⟨[(zc 2 (zd p0)), (4, (.cells [(.d (.sl [] .nil)), (.d (.sl [] .nil)), (.d (.sl [] .nil)), (xi 0)])), (5, (.cells [(.row 0 1016 s1_18.length), (.d (dl (eL eI) p0.Far.1 p0.Far.2)), (.row 0 1017 0), (xi p0.Most)])), (1016, (rowO true 6 za s1_18 true)), (1017, .nrow), (18, (.map (em (fun n => D.i .i64 n) (fun n => D.i .i64 n) s1_20)))], []⟩, []⟩
noncomputable def zpv (p0 : zb) (p1 : (SL Int)) (r : zt11) : TM := [(0, (.d (.agg (zd p0)))), (1, (.d (dl eI p1.1 p1.2))), (zsp 2), (zsp 4), (zsp 5), (6, (.map 0 18)), (20, (.d (dl za p0.Letters.1 p0.Letters.2))), (21, (xi (p0.Letters.1.length : Int))), (22, (xi r.1)), (23, (xb false))]
noncomputable def zbf (p0 : zb) (p1 : (SL Int)) (r : zt11) : St := ⟨(zpv p0 p1 r), ⟨[(zc 2 (zd p0)), (4, (.cells [(.d (.sl [] .nil)), (.d (.sl [] .nil)), (.d (.sl [] .nil)), (xi 0)])), (5, (.cells [(.row 0 1016 r.2.1.length), (.d (dl (eL eI) p0.Far.1 p0.Far.2)), (.row 0 1017 0), (xi p0.Most)])), (1016, (rowO true 6 za r.2.1 true)), (1017, .nrow), (18, (.map (em (fun n => D.i .i64 n) (fun n => D.i .i64 n) r.2.2)))], []⟩, []⟩
noncomputable def zcl (p0 : zb) (p1 : (SL Int)) : (Int × (List zm) × (List (Int × Int))) → Ex × St := fun r => ((.exit 0), zbf p0 p1 r)
theorem z6k (k : Nat) (p0 : zb) (p1 : (SL Int)) (s1_7 : Int) (s1_18 : (List zm)) (s1_20 : (List (Int × Int))) (x : (Int × (List zm) × (List (Int × Int))) ⊕ (Int × (List zm) × (List (Int × Int)))) (h : zfg k p0 p1 s1_7 s1_18 s1_20 = some x) : zL TE 70 (blk TE 70 0) (fun s : (Int × (List zm) × (List (Int × Int))) => zsl p0 p1 s.1 s.2.1 s.2.2) (zcl p0 p1) (s1_7, s1_18, s1_20) x := by
 unfold zfg at h
 refine zo h (fun h301 g1 => ?_) (fun h301 g1 => ?_)
 ·refine zk g1 (fun v302 h303 g2 => ?_)
  refine zk g2 (fun v304 h305 g3 => ?_)
  refine zo g3 (fun h306 g4 => ?_) (fun h306 g4 => ?_)
  ·refine zDb g4 (fun h307 g5 => ?_)
   exact zqn ((w64 (s1_7 + 1)), (s1_18 ++ [v302]), (mset zac s1_7 (s1_18.length : Int) s1_20)) [1016] [(70, 5, 0, .q (xb true)), (70, 6, 1, .q (.d (.pin (za v302)))), (70, 7, 2, .c (db v304)), (70, 7, 3, .q (xb true)), (70, 8, 4, .q (xi (s1_18.length : Int))), (70, 8, 5, .mp (em (fun n => D.i .i64 n) (fun n => D.i .i64 n) (mset zac s1_7 (s1_18.length : Int) s1_20))), (70, 9, 4, .ap (s1_18 ++ [v302]).length (rowO true 6 za (s1_18 ++ [v302]) true))] [] g5 (ob (o_b h301) (ob (o_ia (e := za) 6 h303 rfl) (ob (z6f k p1 s1_7 _ h305) (ob (o_b h306) (ob (z5j true 6 za s1_18 true) (ob (znq (ek := (fun n => D.i .i64 n)) (evl := (fun n => D.i .i64 n)) (q := zac) (fun _ _ => rfl) s1_7 (s1_18.length : Int) s1_20) (ob (o_ap (b := true) (z := 6) (e := za) (l := s1_18) (w := true) v302 (fun _ => rfl) h307) (ob (zmg true 6 za (s1_18 ++ [v302]) true) ob0)))))))) (by kernel_rfl)
  ·exact zqn ((w64 (s1_7 + 1)), s1_18, s1_20) [1016] [(70, 5, 0, .q (xb true)), (70, 6, 1, .q (.d (.pin (za v302)))), (70, 7, 2, .c (db v304)), (70, 7, 3, .q (xb false))] [] g4 (ob (o_b h301) (ob (o_ia (e := za) 6 h303 rfl) (ob (z6f k p1 s1_7 _ h305) (ob (o_b h306) (ob (zmg true 6 za s1_18 true) ob0))))) (by kernel_rfl)
 ·exact zqo [(70, 5, 0, .q (xb false))] [] g1 (ob (o_b h301) ob0) (by kernel_rfl)
noncomputable def zkv (p0 : zb) (p1 : (SL Int)) (v1 : zt11) (s3_11 : Int) (v802 : zt6) (r : Bool) : TM := [(0, (.d (.agg (zd p0)))), (1, (.d (dl eI p1.1 p1.2))), (zsp 2), (zsp 4), (zsp 5), (6, (.map 0 18)), (20, (.d (dl za p0.Letters.1 p0.Letters.2))), (21, (xi (p0.Letters.1.length : Int))), (22, (xi v1.1)), (23, (xb false)), (44, (.d (dl (aI 2) p0.Apart.1 p0.Apart.2))), (45, (xi (p0.Apart.1.length : Int))), (46, (xi s3_11)), (47, (xb true)), (zsp 10), (11, (xi ((zJ zac (v802 0) v1.2.2).getD 0))), (12, (xb (zJ zac (v802 0) v1.2.2).isSome)), (13, (xi ((zJ zac (v802 1) v1.2.2).getD 0))), (14, (xb (zJ zac (v802 1) v1.2.2).isSome)), (67, (xb r))]
noncomputable def zUd (p0 : zb) (p1 : (SL Int)) (v1 : zt11) (s3_11 : Int) (s3_24 : (List (Nat → Int))) (v802 : zt6) (r : Bool) : St := ⟨(zkv p0 p1 v1 s3_11 v802 r), ⟨[(zc 2 (zd p0)), (4, (.cells [(.d (.sl [] .nil)), (.d (.sl [] .nil)), (.d (.sl [] .nil)), (xi 0)])), (5, (.cells [(.row 0 1016 v1.2.1.length), (.d (dl (eL eI) p0.Far.1 p0.Far.2)), (.row 0 1017 s3_24.length), (xi p0.Most)])), (1016, (rowO true 6 za v1.2.1 true)), (1017, (rowO true 2 (aI 2) s3_24 true)), (18, (.map (em (fun n => D.i .i64 n) (fun n => D.i .i64 n) v1.2.2))), (zc 10 (aI 2 v802))], []⟩, []⟩
noncomputable def zBr (p0 : zb) (p1 : (SL Int)) (v1 : zt11) (s3_11 : Int) (v802 : zt6) : TM := [(0, (.d (.agg (zd p0)))), (1, (.d (dl eI p1.1 p1.2))), (zsp 2), (zsp 4), (zsp 5), (6, (.map 0 18)), (20, (.d (dl za p0.Letters.1 p0.Letters.2))), (21, (xi (p0.Letters.1.length : Int))), (22, (xi v1.1)), (23, (xb false)), (44, (.d (dl (aI 2) p0.Apart.1 p0.Apart.2))), (45, (xi (p0.Apart.1.length : Int))), (46, (xi s3_11)), (47, (xb true)), (zsp 10), (11, (xi ((zJ zac (v802 0) v1.2.2).getD 0))), (12, (xb (zJ zac (v802 0) v1.2.2).isSome)), (13, (xi ((zJ zac (v802 1) v1.2.2).getD 0))), (14, (xb (zJ zac (v802 1) v1.2.2).isSome))]
theorem z0k (k : Nat) (p0 : zb) (p1 : (SL Int)) (v1 : zt11) (s3_11 : Int) (s3_24 : (List (Nat → Int))) (v802 : zt6) (r : Bool) (h : zdg k p0 p1 v1 s3_11 s3_24 v802 = some r) : ev TE 70 (rgn TE 70 16) ⟨(zBr p0 p1 v1 s3_11 v802), ⟨[(zc 2 (zd p0)), (4, (.cells [(.d (.sl [] .nil)), (.d (.sl [] .nil)), (.d (.sl [] .nil)), (xi 0)])), (5, (.cells [(.row 0 1016 v1.2.1.length), (.d (dl (eL eI) p0.Far.1 p0.Far.2)), (.row 0 1017 s3_24.length), (xi p0.Most)])), (1016, (rowO true 6 za v1.2.1 true)), (1017, (rowO true 2 (aI 2) s3_24 true)), (18, (.map (em (fun n => D.i .i64 n) (fun n => D.i .i64 n) v1.2.2))), (zc 10 (aI 2 v802))], []⟩, []⟩ = some (.nor, zUd p0 p1 v1 s3_11 s3_24 v802 r) := by
 unfold zdg at h
 refine zo h (fun h901 g1 => ?_) (fun h901 g1 => ?_)
 ·exact zw (g := fun r => (Ex.nor, zUd p0 p1 v1 s3_11 s3_24 v802 r)) g1 (zqe [(70, 16, 1, .q (xb true))] [] (ob (o_b h901) ob0) (by kernel_rfl))
 ·exact zw (g := fun r => (Ex.nor, zUd p0 p1 v1 s3_11 s3_24 v802 r)) g1 (zqe [(70, 16, 1, .q (xb false))] [] (ob (o_b h901) ob0) (by kernel_rfl))
noncomputable def zVd (p0 : zb) (p1 : (SL Int)) (v1 : zt11) (s3_11 : Int) (s3_24 : (List (Nat → Int))) (v802 : zt6) (v804 : Bool) (r : (Bool × (List (Nat → Int)))) : St := ⟨(zBr p0 p1 v1 s3_11 v802 ++ [(67, (xb r.1))]), ⟨[(zc 2 (zd p0)), (4, (.cells [(.d (.sl [] .nil)), (.d (.sl [] .nil)), (.d (.sl [] .nil)), (xi 0)])), (5, (.cells [(.row 0 1016 v1.2.1.length), (.d (dl (eL eI) p0.Far.1 p0.Far.2)), (.row 0 1017 r.2.length), (xi p0.Most)])), (1016, (rowO true 6 za v1.2.1 true)), (1017, (rowO true 2 (aI 2) r.2 true)), (18, (.map (em (fun n => D.i .i64 n) (fun n => D.i .i64 n) v1.2.2))), (zc 10 (aI 2 v802))], []⟩, []⟩
theorem z4k (k : Nat) (p0 : zb) (p1 : (SL Int)) (v1 : zt11) (s3_11 : Int) (s3_24 : (List (Nat → Int))) (v802 : zt6) (v804 : Bool) (r : (Bool × (List (Nat → Int)))) (h : z9f k p0 p1 v1 s3_11 s3_24 v802 v804 = some r) : ev TE 70 (cnd TE 70 67) ⟨(zBr p0 p1 v1 s3_11 v802 ++ [(67, (xb v804))]), ⟨[(zc 2 (zd p0)), (4, (.cells [(.d (.sl [] .nil)), (.d (.sl [] .nil)), (.d (.sl [] .nil)), (xi 0)])), (5, (.cells [(.row 0 1016 v1.2.1.length), (.d (dl (eL eI) p0.Far.1 p0.Far.2)), (.row 0 1017 s3_24.length), (xi p0.Most)])), (1016, (rowO true 6 za v1.2.1 true)), (1017, (rowO true 2 (aI 2) s3_24 true)), (18, (.map (em (fun n => D.i .i64 n) (fun n => D.i .i64 n) v1.2.2))), (zc 10 (aI 2 v802))], []⟩, []⟩ = some (.nor, zVd p0 p1 v1 s3_11 s3_24 v802 v804 r) := by
 unfold z9f at h
 refine zo h (fun h1001 g1 => ?_) (fun h1001 g1 => ?_)
 ·subst h1001
  refine zDb g1 (fun h1002 g2 => ?_)
  exact zw (g := fun r => (Ex.nor, zVd p0 p1 v1 s3_11 s3_24 v802 true r)) g2 (zqe [(70, 17, 6, .ap (s3_24 ++ [(lfI [((zJ zac (v802 0) v1.2.2).getD 0), ((zJ zac (v802 1) v1.2.2).getD 0)])]).length (rowO true 2 (aI 2) (s3_24 ++ [(lfI [((zJ zac (v802 0) v1.2.2).getD 0), ((zJ zac (v802 1) v1.2.2).getD 0)])]) true))] [] (ob (o_ap (b := true) (z := 2) (e := (aI 2)) (l := s3_24) (w := true) (lfI [((zJ zac (v802 0) v1.2.2).getD 0), ((zJ zac (v802 1) v1.2.2).getD 0)]) (fun _ => rfl) h1002) ob0) (by kernel_rfl))
 ·subst h1001
  exact zw (g := fun r => (Ex.nor, zVd p0 p1 v1 s3_11 s3_24 v802 false r)) g1 (zqe [] [] ob0 (by kernel_rfl))
noncomputable def z0u (p0 : zb) (p1 : (SL Int)) (v1 : zt11) (s3_11 : Int) : TM := [(0, (.d (.agg (zd p0)))), (1, (.d (dl eI p1.1 p1.2))), (zsp 2), (zsp 4), (zsp 5), (6, (.map 0 18)), (20, (.d (dl za p0.Letters.1 p0.Letters.2))), (21, (xi (p0.Letters.1.length : Int))), (22, (xi v1.1)), (23, (xb false)), (44, (.d (dl (aI 2) p0.Apart.1 p0.Apart.2))), (45, (xi (p0.Apart.1.length : Int))), (46, (xi s3_11))]
noncomputable def zkl (p0 : zb) (p1 : (SL Int)) (v1 : zt11) (s3_11 : Int) (s3_24 : (List (Nat → Int))) : St := ⟨(z0u p0 p1 v1 s3_11), ⟨[(zc 2 (zd p0)), (4, (.cells [(.d (.sl [] .nil)), (.d (.sl [] .nil)), (.d (.sl [] .nil)), (xi 0)])), (5, (.cells [(.row 0 1016 v1.2.1.length), (.d (dl (eL eI) p0.Far.1 p0.Far.2)), (.row 0 1017 s3_24.length), (xi p0.Most)])), (1016, (rowO true 6 za v1.2.1 true)), (1017, (rowO true 2 (aI 2) s3_24 true)), (18, (.map (em (fun n => D.i .i64 n) (fun n => D.i .i64 n) v1.2.2)))], []⟩, []⟩
noncomputable def z9u (p0 : zb) (p1 : (SL Int)) (v1 : zt11) (r : (Int × (List (Nat → Int)))) : TM := [(0, (.d (.agg (zd p0)))), (1, (.d (dl eI p1.1 p1.2))), (zsp 2), (zsp 4), (zsp 5), (6, (.map 0 18)), (20, (.d (dl za p0.Letters.1 p0.Letters.2))), (21, (xi (p0.Letters.1.length : Int))), (22, (xi v1.1)), (23, (xb false)), (44, (.d (dl (aI 2) p0.Apart.1 p0.Apart.2))), (45, (xi (p0.Apart.1.length : Int))), (46, (xi r.1)), (47, (xb false))]
noncomputable def zef (p0 : zb) (p1 : (SL Int)) (v1 : zt11) (r : (Int × (List (Nat → Int)))) : St := ⟨(z9u p0 p1 v1 r), ⟨[(zc 2 (zd p0)), (4, (.cells [(.d (.sl [] .nil)), (.d (.sl [] .nil)), (.d (.sl [] .nil)), (xi 0)])), (5, (.cells [(.row 0 1016 v1.2.1.length), (.d (dl (eL eI) p0.Far.1 p0.Far.2)), (.row 0 1017 r.2.length), (xi p0.Most)])), (1016, (rowO true 6 za v1.2.1 true)), (1017, (rowO true 2 (aI 2) r.2 true)), (18, (.map (em (fun n => D.i .i64 n) (fun n => D.i .i64 n) v1.2.2)))], []⟩, []⟩
noncomputable def zll (p0 : zb) (p1 : (SL Int)) (v1 : zt11) : (Int × (List (Nat → Int))) → Ex × St := fun r => ((.exit 2), zef p0 p1 v1 r)
theorem zYk (k : Nat) (p0 : zb) (p1 : (SL Int)) (v1 : zt11) (s3_11 : Int) (s3_24 : (List (Nat → Int))) (x : (Int × (List (Nat → Int))) ⊕ (Int × (List (Nat → Int)))) (h : zag k p0 p1 v1 s3_11 s3_24 = some x) : zL TE 70 (blk TE 70 2) (fun s : (Int × (List (Nat → Int))) => zkl p0 p1 v1 s.1 s.2) (zll p0 p1 v1) (s3_11, s3_24) x := by
 unfold zag at h
 refine zo h (fun h801 g1 => ?_) (fun h801 g1 => ?_)
 ·refine zk g1 (fun v802 h803 g2 => ?_)
  refine zk g2 (fun v804 h805 g3 => ?_)
  refine zk g3 (fun v806 h807 g4 => ?_)
  exact zqn ((w64 (s3_11 + 1)), v806.2) [1016, 1017] [(70, 12, 0, .q (xb true)), (70, 13, 0, .q (.d (.pin (aI 2 v802)))), (70, 14, 3, .q (.d (.tup [(di ((zJ zac (v802 0) v1.2.2).getD 0)), (db (zJ zac (v802 0) v1.2.2).isSome)]))), (70, 15, 3, .q (.d (.tup [(di ((zJ zac (v802 1) v1.2.2).getD 0)), (db (zJ zac (v802 1) v1.2.2).isSome)])))] [(70, 1000016, (.nor, zUd p0 p1 v1 s3_11 s3_24 v802 v804)), (70, 2000067, (.nor, zVd p0 p1 v1 s3_11 s3_24 v802 v804 v806))] g4 (ob (o_b h801) (ob (o_ia (e := (aI 2)) 2 h803 rfl) (ob (zVq (ek := (fun n => D.i .i64 n)) (evl := (fun n => D.i .i64 n)) (q := zac) (fun _ _ => rfl) (v802 0) v1.2.2 0) (ob (zVq (ek := (fun n => D.i .i64 n)) (evl := (fun n => D.i .i64 n)) (q := zac) (fun _ _ => rfl) (v802 1) v1.2.2 0) (ob (z0k k p0 p1 v1 s3_11 s3_24 v802 _ h805) (ob (z4k k p0 p1 v1 s3_11 s3_24 v802 v804 _ h807) (ob (zmg true 6 za v1.2.1 true) (ob (zmg true 2 (aI 2) v806.2 true) ob0)))))))) (by kernel_rfl)
 ·exact zqo [(70, 12, 0, .q (xb false))] [] g1 (ob (o_b h801) ob0) (by kernel_rfl)
theorem zsi (k : Nat) (p0 : zb) (p1 : (SL Int)) (r : zb) (h : z0f k p0 p1 = some r) : zB TE (ev TE) 70 [(.agg (zd p0)), (dl eI p1.1 p1.2)] = some (zUi r) := by
 unfold z0f at h
 refine zk h (fun v1 h2 g1 => ?_)
 refine zk g1 (fun v3 h4 g2 => ?_)
 exact zr (g := zUi) g2 (zqr [(70, 4, 2, .q (xi (p0.Letters.1.length : Int))), (70, 11, 2, .q (xi (p0.Apart.1.length : Int)))] [(70, 0, (.nor, zbf p0 p1 v1)), (70, 2, (.nor, zef p0 p1 v1 v3))] [(.agg [(dl za v1.2.1 (rcap true v1.2.1)), (dl (eL eI) p0.Far.1 p0.Far.2), (dl (aI 2) v3.2 (rcap true v3.2)), (di p0.Most)])] (ob (zq za p0.Letters.1) (ob (zC (id := 0) (r' := (.nor, zbf p0 p1 v1)) (zGm (z6k k p0 p1) k _ _ h2) rfl) (ob (zq (aI 2) p0.Apart.1) (ob (zC (id := 2) (r' := (.nor, zef p0 p1 v1 v3)) (zHc (zYk k p0 p1 v1) k _ _ h4) rfl) (ob (show zmc ⟨[(1016, (rowO true 6 za v1.2.1 true)), (1017, (rowO true 2 (aI 2) v3.2 true))], []⟩ _ = _ from (o_s1 (x := (.agg [(.row 0 1016 v1.2.1.length), (.d (dl (eL eI) p0.Far.1 p0.Far.2)), (.row 0 1017 v3.2.length), (xi p0.Most)])) (z6r (o_c1 (z5l true 6 za v1.2.1 true rfl) (o_cd (o_c1 (z5l true 2 (aI 2) v3.2 true rfl) (o_cd o_c0))))) o_s0)) ob0))))) (by kernel_rfl))
theorem zdb (k : Nat) (p0 : Int) (r : Bool) (h : zkh k p0 = some r) : zB TE (ev TE) 91 [(di p0)] = some (zRk r) := by
 unfold zkh at h
 exact zr (g := zRk) h (zqc [] [] ob0 (by kernel_rfl))
theorem z3e (k : Nat) (p0 p1 r : Int) (h : zwg k p0 p1 = some r) : zB TE (ev TE) 68 [(di p0), (di p1)] = some (zxc r) := by
 unfold zwg at h
 refine zk h (fun v1 h2 g1 => ?_)
 refine zk g1 (fun v3 h4 g2 => ?_)
 refine zo g2 (fun h5 g3 => ?_) (fun h5 g3 => ?_)
 ·refine zo g3 (fun h6 g4 => ?_) (fun h6 g4 => ?_)
  ·exact zr (g := zxc) g4 (zqc [(68, 1, 1, .c (db v1)), (68, 2, 1, .c (db v3)), (68, 3, 0, .q (xb true)), (68, 4, 0, .q (xb true))] [] (ob (zdb k p0 _ h2) (ob (zdb k p1 _ h4) (ob (o_b h5) (ob (o_b h6) ob0)))) (by kernel_rfl))
  ·exact zr (g := zxc) g4 (zqc [(68, 1, 1, .c (db v1)), (68, 2, 1, .c (db v3)), (68, 3, 0, .q (xb true)), (68, 4, 0, .q (xb false))] [] (ob (zdb k p0 _ h2) (ob (zdb k p1 _ h4) (ob (o_b h5) (ob (o_b h6) ob0)))) (by kernel_rfl))
 ·refine zo g3 (fun h6 g4 => ?_) (fun h6 g4 => ?_)
  ·exact zr (g := zxc) g4 (zqc [(68, 1, 1, .c (db v1)), (68, 2, 1, .c (db v3)), (68, 3, 0, .q (xb false)), (68, 7, 0, .q (xb true))] [] (ob (zdb k p0 _ h2) (ob (zdb k p1 _ h4) (ob (o_b h5) (ob (o_b h6) ob0)))) (by kernel_rfl))
  ·refine zo g4 (fun h7 g5 => ?_) (fun h7 g5 => ?_)
   ·exact zr (g := zxc) g5 (zqc [(68, 1, 1, .c (db v1)), (68, 2, 1, .c (db v3)), (68, 3, 0, .q (xb false)), (68, 7, 0, .q (xb false)), (68, 9, 2, .q (xb true))] [] (ob (zdb k p0 _ h2) (ob (zdb k p1 _ h4) (ob (o_b h5) (ob (o_b h6) (ob (o_b h7) ob0))))) (by kernel_rfl))
   ·refine zo g5 (fun h8 g6 => ?_) (fun h8 g6 => ?_)
    ·exact zr (g := zxc) g6 (zqc [(68, 1, 1, .c (db v1)), (68, 2, 1, .c (db v3)), (68, 3, 0, .q (xb false)), (68, 7, 0, .q (xb false)), (68, 9, 2, .q (xb false)), (68, 11, 2, .q (xb true))] [] (ob (zdb k p0 _ h2) (ob (zdb k p1 _ h4) (ob (o_b h5) (ob (o_b h6) (ob (o_b h7) (ob (o_b h8) ob0)))))) (by kernel_rfl))
    ·exact zr (g := zxc) g6 (zqc [(68, 1, 1, .c (db v1)), (68, 2, 1, .c (db v3)), (68, 3, 0, .q (xb false)), (68, 7, 0, .q (xb false)), (68, 9, 2, .q (xb false)), (68, 11, 2, .q (xb false))] [] (ob (zdb k p0 _ h2) (ob (zdb k p1 _ h4) (ob (o_b h5) (ob (o_b h6) (ob (o_b h7) (ob (o_b h8) ob0)))))) (by kernel_rfl))
noncomputable def zsv (p0 p1 : (SL Int)) (s1_5 : Int) : TM := [(0, (.d (dl eI p0.1 p0.2))), (1, (.d (dl eI p1.1 p1.2))), (4, (xi 0)), (9, (.d (dl eI p0.1 p0.2))), (10, (xi (p0.1.length : Int))), (11, (xi s1_5))]
noncomputable def z3i (p0 p1 : (SL Int)) (s1_5 : Int) : St := ⟨(zsv p0 p1 s1_5), ⟨[], []⟩, []⟩
noncomputable def zRv (p0 p1 : (SL Int)) (r : zt7) : TM := [(0, (.d (dl eI p0.1 p0.2))), (1, (.d (dl eI p1.1 p1.2))), (4, (xi 1)), (9, (.d (dl eI p0.1 p0.2))), (10, (xi (p0.1.length : Int))), (11, (xi r.1)), (12, (xb true)), (5, (xi r.1)), (6, (xi r.2)), (19, (xb true))]
noncomputable def zwd (p0 p1 : (SL Int)) (r : zt7) : St := ⟨(zRv p0 p1 r), ⟨[], []⟩, []⟩
noncomputable def zxv (p0 p1 : (SL Int)) (r : (Int × Int × Int × Int)) : TM := [(0, (.d (dl eI p0.1 p0.2))), (1, (.d (dl eI p1.1 p1.2))), (4, (xi r.1)), (9, (.d (dl eI p0.1 p0.2))), (10, (xi (p0.1.length : Int))), (11, (xi r.2.1)), (12, (xb true)), (5, (xi r.2.1)), (6, (xi r.2.2.1)), (19, (xb false)), (7, (xi r.2.2.2)), (8, (xi r.1)), (28, (xb true))]
noncomputable def zxd (p0 p1 : (SL Int)) (r : (Int × Int × Int × Int)) : St := ⟨(zxv p0 p1 r), ⟨[], []⟩, []⟩
noncomputable def zNu (p0 p1 : (SL Int)) (r : Int) : TM := [(0, (.d (dl eI p0.1 p0.2))), (1, (.d (dl eI p1.1 p1.2))), (4, (xi 0)), (9, (.d (dl eI p0.1 p0.2))), (10, (xi (p0.1.length : Int))), (11, (xi r)), (12, (xb false))]
noncomputable def zEb (p0 p1 : (SL Int)) (r : Int) : St := ⟨(zNu p0 p1 r), ⟨[], []⟩, []⟩
noncomputable def z5i (p0 p1 : (SL Int)) : ((Int × Int) ⊕ ((Int × Int × Int × Int) ⊕ Int)) → Ex × St := Sum.elim (fun r => (.ret, zwd p0 p1 r)) (Sum.elim (fun r => (.ret, zxd p0 p1 r)) (fun r => ((.exit 0), zEb p0 p1 r)))
theorem zoc (k : Nat) (p0 p1 : (SL Int)) (s1_5 : Int) (x : Int ⊕ ((Int × Int) ⊕ ((Int × Int × Int × Int) ⊕ Int))) (h : zje k p0 p1 s1_5 = some x) : zL TE 69 (blk TE 69 0) (fun s : Int => z3i p0 p1 s) (z5i p0 p1) s1_5 x := by
 unfold zje at h
 refine zo h (fun h201 g1 => ?_) (fun h201 g1 => ?_)
 ·refine zk g1 (fun v202 h203 g2 => ?_)
  refine zo g2 (fun h204 g3 => ?_) (fun h204 g3 => ?_)
  ·exact zqo [(69, 2, 0, .q (xb true)), (69, 3, 1, .q (.d (.pin [(di v202)]))), (69, 4, 2, .q (xi (p1.1.length : Int))), (69, 4, 3, .q (xb true))] [] g3 (ob (o_b h201) (ob (o_ia (e := eI) 1 h203 rfl) (ob (zq eI p1.1) (ob (o_b h204) ob0)))) (by kernel_rfl)
  ·refine zk g3 (fun v205 h206 g4 => ?_)
   refine zk g4 (fun v207 h208 g5 => ?_)
   refine zo g5 (fun h209 g6 => ?_) (fun h209 g6 => ?_)
   ·exact zqo [(69, 2, 0, .q (xb true)), (69, 3, 1, .q (.d (.pin [(di v202)]))), (69, 4, 2, .q (xi (p1.1.length : Int))), (69, 4, 3, .q (xb false)), (69, 6, 2, .q (.d (.pin [(di v205)]))), (69, 7, 2, .c (di v207)), (69, 8, 1, .q (xb true))] [] g6 (ob (o_b h201) (ob (o_ia (e := eI) 1 h203 rfl) (ob (zq eI p1.1) (ob (o_b h204) (ob (o_ia (e := eI) 1 h206 rfl) (ob (z3e k v202 v205 _ h208) (ob (o_b h209) ob0))))))) (by kernel_rfl)
   ·exact zqn (w64 (s1_5 + 1)) [] [(69, 2, 0, .q (xb true)), (69, 3, 1, .q (.d (.pin [(di v202)]))), (69, 4, 2, .q (xi (p1.1.length : Int))), (69, 4, 3, .q (xb false)), (69, 6, 2, .q (.d (.pin [(di v205)]))), (69, 7, 2, .c (di v207)), (69, 8, 1, .q (xb false))] [] g6 (ob (o_b h201) (ob (o_ia (e := eI) 1 h203 rfl) (ob (zq eI p1.1) (ob (o_b h204) (ob (o_ia (e := eI) 1 h206 rfl) (ob (z3e k v202 v205 _ h208) (ob (o_b h209) ob0))))))) (by kernel_rfl)
 ·exact zqo [(69, 2, 0, .q (xb false))] [] g1 (ob (o_b h201) ob0) (by kernel_rfl)
theorem zug (k : Nat) (p0 p1 : (SL Int)) (r : Int) (h : z7e k p0 p1 = some r) : zB TE (ev TE) 69 [(dl eI p0.1 p0.2), (dl eI p1.1 p1.2)] = some (zkc r) := by
 unfold z7e at h
 refine zk h (fun v1 h2 g1 => ?_)
 refine zqd g1 (fun v4 hh g2_0 => ?_) (fun w1_0 hh g2_0 => ?_)
 ·subst hh
  exact zr (g := zkc) g2_0 (zqc [(69, 1, 1, .q (xi (p0.1.length : Int)))] [(69, 0, (.ret, zwd p0 p1 v4))] (ob (zq eI p0.1) (ob (zC (id := 0) (r' := (.ret, zwd p0 p1 v4)) (zYd (zoc k p0 p1) k _ _ h2) rfl) ob0)) (by kernel_rfl))
 ·subst hh
  refine zqd g2_0 (fun v4 hh g2_1 => ?_) (fun v4 hh g2_1 => ?_)
  ·subst hh
   exact zr (g := zkc) g2_1 (zqc [(69, 1, 1, .q (xi (p0.1.length : Int)))] [(69, 0, (.ret, zxd p0 p1 v4))] (ob (zq eI p0.1) (ob (zC (id := 0) (r' := (.ret, zxd p0 p1 v4)) (zYd (zoc k p0 p1) k _ _ h2) rfl) ob0)) (by kernel_rfl))
  ·subst hh
   refine zo g2_1 (fun h5 g3 => ?_) (fun h5 g3 => ?_)
   ·exact zr (g := zkc) g3 (zqc [(69, 1, 1, .q (xi (p0.1.length : Int))), (69, 11, 1, .q (xi (p0.1.length : Int))), (69, 11, 3, .q (xi (p1.1.length : Int))), (69, 11, 4, .q (xb true))] [(69, 0, (.nor, zEb p0 p1 v4))] (ob (zq eI p0.1) (ob (zC (id := 0) (r' := (.nor, zEb p0 p1 v4)) (zYd (zoc k p0 p1) k _ _ h2) rfl) (ob (zq eI p0.1) (ob (zq eI p1.1) (ob (o_b h5) ob0))))) (by kernel_rfl))
   ·exact zr (g := zkc) g3 (zqc [(69, 1, 1, .q (xi (p0.1.length : Int))), (69, 11, 1, .q (xi (p0.1.length : Int))), (69, 11, 3, .q (xi (p1.1.length : Int))), (69, 11, 4, .q (xb false))] [(69, 0, (.nor, zEb p0 p1 v4))] (ob (zq eI p0.1) (ob (zC (id := 0) (r' := (.nor, zEb p0 p1 v4)) (zYd (zoc k p0 p1) k _ _ h2) rfl) (ob (zq eI p0.1) (ob (zq eI p1.1) (ob (o_b h5) ob0))))) (by kernel_rfl))
noncomputable def zDv (p0 : (SL Int)) (s1_5 : Int) : TM := [(0, (.d (dl eI p0.1 p0.2))), (2, (xi 0)), (3, (xi 0)), (6, (.d (dl eI p0.1 p0.2))), (7, (xi (p0.1.length : Int))), (8, (xi s1_5))]
noncomputable def z9n (p0 : (SL Int)) (s1_5 : Int) : St := ⟨(zDv p0 s1_5), ⟨[], []⟩, []⟩
noncomputable def z2u (p0 : (SL Int)) (r : zt7) : TM := [(0, (.d (dl eI p0.1 p0.2))), (2, (xi r.1)), (3, (xi 0)), (6, (.d (dl eI p0.1 p0.2))), (7, (xi (p0.1.length : Int))), (8, (xi r.2)), (9, (xb true)), (5, (xi r.1)), (14, (xb true))]
noncomputable def zAh (p0 : (SL Int)) (r : zt7) : St := ⟨(z2u p0 r), ⟨[], []⟩, []⟩
noncomputable def zLu (p0 : (SL Int)) (r : Int) : TM := [(0, (.d (dl eI p0.1 p0.2))), (2, (xi 0)), (3, (xi 0)), (6, (.d (dl eI p0.1 p0.2))), (7, (xi (p0.1.length : Int))), (8, (xi r)), (9, (xb false))]
noncomputable def zth (p0 : (SL Int)) (r : Int) : St := ⟨(zLu p0 r), ⟨[], []⟩, []⟩
noncomputable def z7n (p0 : (SL Int)) : ((Int × Int) ⊕ Int) → Ex × St := Sum.elim (fun r => (.ret, zAh p0 r)) (fun r => ((.exit 0), zth p0 r))
theorem zfk (k : Nat) (p0 : (SL Int)) (s1_5 : Int) (x : Int ⊕ ((Int × Int) ⊕ Int)) (h : zkj k p0 s1_5 = some x) : zL TE 67 (blk TE 67 0) (fun s : Int => z9n p0 s) (z7n p0) s1_5 x := by
 unfold zkj at h
 refine zo h (fun h201 g1 => ?_) (fun h201 g1 => ?_)
 ·refine zk g1 (fun v202 h203 g2 => ?_)
  refine zo g2 (fun h204 g3 => ?_) (fun h204 g3 => ?_)
  ·exact zqo [(67, 3, 0, .q (xb true)), (67, 4, 0, .q (.d (.pin [(di v202)]))), (67, 5, 2, .q (xb true))] [] g3 (ob (o_b h201) (ob (o_ia (e := eI) 1 h203 rfl) (ob (o_b h204) ob0))) (by kernel_rfl)
  ·exact zqn (w64 (s1_5 + 1)) [] [(67, 3, 0, .q (xb true)), (67, 4, 0, .q (.d (.pin [(di v202)]))), (67, 5, 2, .q (xb false))] [] g3 (ob (o_b h201) (ob (o_ia (e := eI) 1 h203 rfl) (ob (o_b h204) ob0))) (by kernel_rfl)
 ·exact zqo [(67, 3, 0, .q (xb false))] [] g1 (ob (o_b h201) ob0) (by kernel_rfl)
theorem zfm (k : Nat) (p0 : (SL Int)) (r : Int) (h : zCl k p0 = some r) : zB TE (ev TE) 67 [(dl eI p0.1 p0.2)] = some (znk r) := by
 unfold zCl at h
 refine zk h (fun v1 h2 g1 => ?_)
 refine zqd g1 (fun v4 hh g2_0 => ?_) (fun v4 hh g2_0 => ?_)
 ·subst hh
  exact zr (g := znk) g2_0 (zqc [(67, 2, 1, .q (xi (p0.1.length : Int)))] [(67, 0, (.ret, zAh p0 v4))] (ob (zq eI p0.1) (ob (zC (id := 0) (r' := (.ret, zAh p0 v4)) (zYd (zfk k p0) k _ _ h2) rfl) ob0)) (by kernel_rfl))
 ·subst hh
  exact zr (g := znk) g2_0 (zqc [(67, 2, 1, .q (xi (p0.1.length : Int)))] [(67, 0, (.nor, zth p0 v4))] (ob (zq eI p0.1) (ob (zC (id := 0) (r' := (.nor, zth p0 v4)) (zYd (zfk k p0) k _ _ h2) rfl) ob0)) (by kernel_rfl))
noncomputable def zOv (p0 : zb) (v1 : Int) (s1_9 : (SL Int)) (s1_11 : Int) (s6_20 : (List Int)) (s6_15 : Int) : TM := [(0, (.d (.agg (zd p0)))), (zsp 1), (2, (.d (.sl [] .nil))), (3, (xi 0)), (4, (xi v1)), (12, (xb false)), (15, (xb false)), (5, (.d (dl eI s1_9.1 s1_9.2))), (19, (xi (zQi 1 (p0.Letters.1.length : Int)))), (20, (xi s1_11)), (21, (xb true)), (6, (xi s1_11)), (7, (.row 0 7 s6_20.length)), (25, (xi (p0.Letters.1.length : Int))), (26, (xi s6_15))]
noncomputable def zUm (p0 : zb) (v1 : Int) (s1_9 : (SL Int)) (s1_11 s6_15 : Int) (s6_20 : (List Int)) : St := ⟨(zOv p0 v1 s1_9 s1_11 s6_20 s6_15), ⟨[(zc 1 (zd p0)), (7, (rowO true 1 eI s6_20 true))], []⟩, []⟩
noncomputable def zSu (p0 : zb) (v1 : Int) (s1_9 : (SL Int)) (s1_11 : Int) (r : (Int × (List Int))) : TM := [(0, (.d (.agg (zd p0)))), (zsp 1), (2, (.d (.sl [] .nil))), (3, (xi 0)), (4, (xi v1)), (12, (xb false)), (15, (xb false)), (5, (.d (dl eI s1_9.1 s1_9.2))), (19, (xi (zQi 1 (p0.Letters.1.length : Int)))), (20, (xi s1_11)), (21, (xb true)), (6, (xi s1_11)), (7, (.row 0 7 r.2.length)), (25, (xi (p0.Letters.1.length : Int))), (26, (xi r.1)), (27, (xb false))]
noncomputable def zbg (p0 : zb) (v1 : Int) (s1_9 : (SL Int)) (s1_11 : Int) (r : (Int × (List Int))) : St := ⟨(zSu p0 v1 s1_9 s1_11 r), ⟨[(zc 1 (zd p0)), (7, (rowO true 1 eI r.2 true))], []⟩, []⟩
noncomputable def zan (p0 : zb) (v1 : Int) (s1_9 : (SL Int)) (s1_11 : Int) : (Int × (List Int)) → Ex × St := fun r => ((.exit 2), zbg p0 v1 s1_9 s1_11 r)
theorem zkm (k : Nat) (p0 : zb) (v1 : Int) (s1_9 : (SL Int)) (s1_11 s6_15 : Int) (s6_20 : (List Int)) (x : (Int × (List Int)) ⊕ (Int × (List Int))) (h : zlh k p0 v1 s1_9 s1_11 s6_15 s6_20 = some x) : zL TE 28 (blk TE 28 2) (fun s : (Int × (List Int)) => zUm p0 v1 s1_9 s1_11 s.1 s.2) (zan p0 v1 s1_9 s1_11) (s6_15, s6_20) x := by
 unfold zlh at h
 refine zo h (fun h801 g1 => ?_) (fun h801 g1 => ?_)
 ·refine zo g1 (fun h802 g2 => ?_) (fun h802 g2 => ?_)
  ·cases g2
  ·refine zo g2 (fun h803 g3 => ?_) (fun h803 g3 => ?_)
   ·refine zDb g3 (fun h804 g4 => ?_)
    exact zqn ((w64 (s6_15 + 1)), (s6_20 ++ [s6_15])) [7] [(28, 12, 0, .q (xb true)), (28, 14, 2, .q (xi (zvp s1_11 s6_15))), (28, 14, 4, .q (xb true)), (28, 15, 3, .ap (s6_20 ++ [s6_15]).length (rowO true 1 eI (s6_20 ++ [s6_15]) true))] [] g4 (ob (o_b h801) (ob (zGt (x := s1_11) h802) (ob (o_b h803) (ob (o_ap (b := true) (z := 1) (e := eI) (l := s6_20) (w := true) s6_15 (fun _ => rfl) h804) (ob (zmg true 1 eI (s6_20 ++ [s6_15]) true) ob0))))) (by kernel_rfl)
   ·exact zqn ((w64 (s6_15 + 1)), s6_20) [7] [(28, 12, 0, .q (xb true)), (28, 14, 2, .q (xi (zvp s1_11 s6_15))), (28, 14, 4, .q (xb false))] [] g3 (ob (o_b h801) (ob (zGt (x := s1_11) h802) (ob (o_b h803) (ob (zmg true 1 eI s6_20 true) ob0)))) (by kernel_rfl)
 ·exact zqo [(28, 12, 0, .q (xb false))] [] g1 (ob (o_b h801) ob0) (by kernel_rfl)
noncomputable def ziv (p0 : zb) (v1 : Int) (s1_9 : (SL Int)) (s1_11 : Int) (v602 : (Int × (List Int))) (r : Bool) : TM := [(0, (.d (.agg (zd p0)))), (zsp 1), (2, (.d (.sl [] .nil))), (3, (xi 0)), (4, (xi v1)), (12, (xb false)), (15, (xb false)), (5, (.d (dl eI s1_9.1 s1_9.2))), (19, (xi (zQi 1 (p0.Letters.1.length : Int)))), (20, (xi s1_11)), (21, (xb true)), (6, (xi s1_11)), (7, (.row 0 7 v602.2.length)), (25, (xi (p0.Letters.1.length : Int))), (26, (xi v602.1)), (27, (xb false)), (59, (xb r))]
noncomputable def zOd (p0 : zb) (v1 : Int) (s1_9 : (SL Int)) (s1_11 : Int) (v602 : (Int × (List Int))) (r : Bool) : St := ⟨(ziv p0 v1 s1_9 s1_11 v602 r), ⟨[(zc 1 (zd p0)), (7, (rowO true 1 eI v602.2 false))], []⟩, []⟩
noncomputable def zMt (p0 : zb) (v1 : Int) (s1_9 : (SL Int)) (s1_11 : Int) (v602 : (Int × (List Int))) : TM := [(0, (.d (.agg (zd p0)))), (zsp 1), (2, (.d (.sl [] .nil))), (3, (xi 0)), (4, (xi v1)), (12, (xb false)), (15, (xb false)), (5, (.d (dl eI s1_9.1 s1_9.2))), (19, (xi (zQi 1 (p0.Letters.1.length : Int)))), (20, (xi s1_11)), (21, (xb true)), (6, (xi s1_11)), (7, (.row 0 7 v602.2.length)), (25, (xi (p0.Letters.1.length : Int))), (26, (xi v602.1)), (27, (xb false))]
theorem zDm (k : Nat) (p0 : zb) (v1 : Int) (s1_9 : (SL Int)) (s1_11 : Int) (v602 : (Int × (List Int))) (r : Bool) (h : zmh k p0 v1 s1_9 s1_11 v602 = some r) : ev TE 28 (rgn TE 28 17) ⟨(zMt p0 v1 s1_9 s1_11 v602), ⟨[(zc 1 (zd p0)), (7, (rowO true 1 eI v602.2 true))], []⟩, []⟩ = some (.nor, zOd p0 v1 s1_9 s1_11 v602 r) := by
 unfold zmh at h
 refine zo h (fun h901 g1 => ?_) (fun h901 g1 => ?_)
 ·refine zk g1 (fun v902 h903 g2 => ?_)
  refine zk g2 (fun v904 h905 g3 => ?_)
  exact zw (g := fun r => (Ex.nor, zOd p0 v1 s1_9 s1_11 v602 r)) g3 (zqe [(28, 17, 2, .q (xb true)), (28, 17, 18, .cr [((dl eI v602.2 (rcap true v602.2)), (rowO true 1 eI v602.2 false))] (.agg (zd v902))), (28, 17, 19, .c (db v904))] [] (ob (o_b h901) (ob (o_cr true 1 eI v602.2 true 0 7) (ob (zsi k p0 (v602.2, (rcap true v602.2)) _ h903) (ob (zqg k v902 _ h905) ob0)))) (by kernel_rfl))
 ·refine zk g1 (fun v902 h903 g2 => ?_)
  refine zk g2 (fun v904 h905 g3 => ?_)
  refine zk g3 (fun v906 h907 g4 => ?_)
  refine zo g4 (fun h908 g5 => ?_) (fun h908 g5 => ?_)
  ·refine zk g5 (fun v909 h910 g6 => ?_)
   refine zk g6 (fun v911 h912 g7 => ?_)
   exact zw (g := fun r => (Ex.nor, zOd p0 v1 s1_9 s1_11 v602 r)) g7 (zqe [(28, 17, 2, .q (xb false)), (28, 17, 4, .q (xi (v602.2.length : Int))), (28, 17, 6, .q (xi (s1_9.1.length : Int))), (28, 17, 7, .c (di v902)), (28, 17, 10, .cr [((dl eI v602.2 (rcap true v602.2)), (rowO true 1 eI v602.2 false))] (di v904)), (28, 17, 12, .c (di v906)), (28, 17, 15, .q (xb true)), (28, 17, 18, .cr [((dl eI v602.2 (rcap true v602.2)), (rowO true 1 eI v602.2 false))] (.agg (zd v909))), (28, 17, 19, .c (db v911))] [] (ob (o_b h901) (ob (z5j true 1 eI v602.2 true) (ob (zq eI s1_9.1) (ob (z3e k (v602.2.length : Int) (s1_9.1.length : Int) _ h903) (ob (o_cr true 1 eI v602.2 true 0 7) (ob (zug k (v602.2, (rcap true v602.2)) s1_9 _ h905) (ob (zfm k ([v902, v904], .ex) _ h907) (ob (o_b h908) (ob (o_cr true 1 eI v602.2 false 0 7) (ob (zsi k p0 (v602.2, (rcap true v602.2)) _ h910) (ob (zqg k v909 _ h912) ob0))))))))))) (by kernel_rfl))
  ·exact zw (g := fun r => (Ex.nor, zOd p0 v1 s1_9 s1_11 v602 r)) g5 (zqe [(28, 17, 2, .q (xb false)), (28, 17, 4, .q (xi (v602.2.length : Int))), (28, 17, 6, .q (xi (s1_9.1.length : Int))), (28, 17, 7, .c (di v902)), (28, 17, 10, .cr [((dl eI v602.2 (rcap true v602.2)), (rowO true 1 eI v602.2 false))] (di v904)), (28, 17, 12, .c (di v906)), (28, 17, 15, .q (xb false))] [] (ob (o_b h901) (ob (z5j true 1 eI v602.2 true) (ob (zq eI s1_9.1) (ob (z3e k (v602.2.length : Int) (s1_9.1.length : Int) _ h903) (ob (o_cr true 1 eI v602.2 true 0 7) (ob (zug k (v602.2, (rcap true v602.2)) s1_9 _ h905) (ob (zfm k ([v902, v904], .ex) _ h907) (ob (o_b h908) ob0)))))))) (by kernel_rfl))
noncomputable def znv (p0 : zb) (v1 : Int) (r : ((SL Int) × Bool)) (s1_11 : Int) (v602 : (Int × (List Int))) : TM := [(0, (.d (.agg (zd p0)))), (zsp 1), (2, (.d (.sl [] .nil))), (3, (xi 0)), (4, (xi v1)), (12, (xb false)), (15, (xb false)), (5, (.d (dl eI r.1.1 r.1.2))), (19, (xi (zQi 1 (p0.Letters.1.length : Int)))), (20, (xi s1_11)), (21, (xb true)), (6, (xi s1_11)), (7, (.row 0 7 v602.2.length)), (25, (xi (p0.Letters.1.length : Int))), (26, (xi v602.1)), (27, (xb false)), (59, (xb r.2))]
noncomputable def zZe (p0 : zb) (v1 : Int) (s1_9 : (SL Int)) (s1_11 : Int) (v602 : (Int × (List Int))) (v604 : Bool) (r : ((SL Int) × Bool)) : St := ⟨(znv p0 v1 r s1_11 v602), ⟨[(zc 1 (zd p0)), (7, (rowO true 1 eI v602.2 false))], []⟩, []⟩
theorem zFm (k : Nat) (p0 : zb) (v1 : Int) (s1_9 : (SL Int)) (s1_11 : Int) (v602 : (Int × (List Int))) (v604 : Bool) (r : ((SL Int) × Bool)) (h : zBh k p0 v1 s1_9 s1_11 v602 v604 = some r) : ev TE 28 (cnd TE 28 59) ⟨(zMt p0 v1 s1_9 s1_11 v602 ++ [(59, (xb v604))]), ⟨[(zc 1 (zd p0)), (7, (rowO true 1 eI v602.2 false))], []⟩, []⟩ = some (.nor, zZe p0 v1 s1_9 s1_11 v602 v604 r) := by
 unfold zBh at h
 refine zo h (fun h1001 g1 => ?_) (fun h1001 g1 => ?_)
 ·subst h1001
  exact zw (g := fun r => (Ex.nor, zZe p0 v1 s1_9 s1_11 v602 true r)) g1 (zqe [(28, 18, 1, .fz (dl eI v602.2 (rcap true v602.2)) (rowO true 1 eI v602.2 false))] [] (ob (o_cr true 1 eI v602.2 false 0 7) ob0) (by kernel_rfl))
 ·subst h1001
  exact zw (g := fun r => (Ex.nor, zZe p0 v1 s1_9 s1_11 v602 false r)) g1 (zqe [] [] ob0 (by kernel_rfl))
noncomputable def zPu (p0 : zb) (v1 : Int) (s1_9 : (SL Int)) (s1_11 : Int) : TM := [(0, (.d (.agg (zd p0)))), (zsp 1), (2, (.d (.sl [] .nil))), (3, (xi 0)), (4, (xi v1)), (12, (xb false)), (15, (xb false)), (5, (.d (dl eI s1_9.1 s1_9.2))), (19, (xi (zQi 1 (p0.Letters.1.length : Int)))), (20, (xi s1_11))]
noncomputable def zHm (p0 : zb) (v1 : Int) (s1_9 : (SL Int)) (s1_11 : Int) : St := ⟨(zPu p0 v1 s1_9 s1_11), ⟨[(zc 1 (zd p0))], []⟩, []⟩
noncomputable def zgv (p0 : zb) (v1 : Int) (r : ((SL Int) × Int)) : TM := [(0, (.d (.agg (zd p0)))), (zsp 1), (2, (.d (.sl [] .nil))), (3, (xi 0)), (4, (xi v1)), (12, (xb false)), (15, (xb false)), (5, (.d (dl eI r.1.1 r.1.2))), (19, (xi (zQi 1 (p0.Letters.1.length : Int)))), (20, (xi r.2)), (21, (xb false))]
noncomputable def zcg (p0 : zb) (v1 : Int) (r : ((SL Int) × Int)) : St := ⟨(zgv p0 v1 r), ⟨[(zc 1 (zd p0))], []⟩, []⟩
noncomputable def zSm (p0 : zb) (v1 : Int) : ((SL Int) × Int) → Ex × St := fun r => ((.exit 0), zcg p0 v1 r)
theorem zAm (k : Nat) (p0 : zb) (v1 : Int) (s1_9 : (SL Int)) (s1_11 : Int) (x : ((SL Int) × Int) ⊕ ((SL Int) × Int)) (h : zyh k p0 v1 s1_9 s1_11 = some x) : zL TE 28 (blk TE 28 0) (fun s : ((SL Int) × Int) => zHm p0 v1 s.1 s.2) (zSm p0 v1) (s1_9, s1_11) x := by
 unfold zyh at h
 refine zo h (fun h601 g1 => ?_) (fun h601 g1 => ?_)
 ·refine zk g1 (fun v602 h603 g2 => ?_)
  refine zk g2 (fun v604 h605 g3 => ?_)
  refine zk g3 (fun v606 h607 g4 => ?_)
  exact zqn (v606.1, (w64 (s1_11 + 1))) [] [(28, 8, 0, .q (xb true)), (28, 11, 2, .q (xi (p0.Letters.1.length : Int)))] [(28, 2, (.nor, zbg p0 v1 s1_9 s1_11 v602)), (28, 1000017, (.nor, zOd p0 v1 s1_9 s1_11 v602 v604)), (28, 2000059, (.nor, zZe p0 v1 s1_9 s1_11 v602 v604 v606))] g4 (ob (o_b h601) (ob (zq za p0.Letters.1) (ob (zC (id := 2) (r' := (.nor, zbg p0 v1 s1_9 s1_11 v602)) (zHc (zkm k p0 v1 s1_9 s1_11) k _ _ h603) rfl) (ob (zDm k p0 v1 s1_9 s1_11 v602 _ h605) (ob (zFm k p0 v1 s1_9 s1_11 v602 v604 _ h607) ob0))))) (by kernel_rfl)
 ·exact zqo [(28, 8, 0, .q (xb false))] [] g1 (ob (o_b h601) ob0) (by kernel_rfl)
theorem znb (k : Nat) (p0 : zb) (r : ((SL Int) × Int)) (h : zhj k p0 = some r) : zB TE (ev TE) 28 [(.agg (zd p0))] = some (zvg r) := by
 unfold zhj at h
 refine zk h (fun v1 h2 g1 => ?_)
 refine zo g1 (fun h3 g2 => ?_) (fun h3 g2 => ?_)
 ·exact zr (g := zvg) g2 (zqc [(28, 1, 1, .c (di v1)), (28, 2, 1, .q (xb true))] [] (ob (zF k p0 _ h2) (ob (o_b h3) ob0)) (by kernel_rfl))
 ·refine zk g2 (fun v4 h5 g3 => ?_)
  refine zo g3 (fun h6 g4 => ?_) (fun h6 g4 => ?_)
  ·subst h6
   exact zr (g := zvg) g4 (zqc [(28, 1, 1, .c (di v1)), (28, 2, 1, .q (xb false)), (28, 4, 1, .c (db true))] [] (ob (zF k p0 _ h2) (ob (o_b h3) (ob (zqg k p0 _ h5) ob0))) (by kernel_rfl))
  ·subst h6
   refine zo g4 (fun h7 g5 => ?_) (fun h7 g5 => ?_)
   ·cases g5
   ·refine zk g5 (fun v8 h9 g6 => ?_)
    exact zr (g := zvg) g6 (zqc [(28, 1, 1, .c (di v1)), (28, 2, 1, .q (xb false)), (28, 4, 1, .c (db false)), (28, 7, 2, .q (xi (p0.Letters.1.length : Int))), (28, 7, 3, .q (xi (zQi 1 (p0.Letters.1.length : Int)))), (28, 20, 2, .q (xi (v8.1.1.length : Int))), (28, 20, 4, .q (xi (v8.1.1.length : Int))), (28, 20, 5, .q (.d (dl eI v8.1.1 (ccap v8.1.2))))] [(28, 0, (.nor, zcg p0 v1 v8))] (ob (zF k p0 _ h2) (ob (o_b h3) (ob (zqg k p0 _ h5) (ob (zq za p0.Letters.1) (ob (zKv (x := 1) h7) (ob (zC (id := 0) (r' := (.nor, zcg p0 v1 v8)) (zHc (zAm k p0 v1) k _ _ h9) rfl) (ob (zq eI v8.1.1) (ob (zq eI v8.1.1) (ob (zSl (e := eI) (z := 1) v8.1.1 v8.1.2) ob0))))))))) (by kernel_rfl))
noncomputable def zWu (p0 p1 : (SL (SL Int))) (s1_3 : Bool) (s1_4 : Int) (r : Bool) : TM := [(0, (.d (dl (eL eI) p0.1 p0.2))), (1, (.d (dl (eL eI) p1.1 p1.2))), (4, (xb false)), (5, (xb s1_3)), (6, (xi s1_4)), (18, (xb r))]
noncomputable def zBb (p0 p1 : (SL (SL Int))) (s1_3 : Bool) (s1_4 : Int) (r : Bool) : St := ⟨(zWu p0 p1 s1_3 s1_4 r), ⟨[], []⟩, []⟩
noncomputable def zQt (p0 p1 : (SL (SL Int))) (s1_3 : Bool) (s1_4 : Int) : TM := [(0, (.d (dl (eL eI) p0.1 p0.2))), (1, (.d (dl (eL eI) p1.1 p1.2))), (4, (xb false)), (5, (xb s1_3)), (6, (xi s1_4))]
theorem zhf (k : Nat) (p0 p1 : (SL (SL Int))) (s1_3 : Bool) (s1_4 : Int) (r : Bool) (h : zZd k p0 p1 s1_3 s1_4 = some r) : ev TE 34 (rgn TE 34 3) ⟨(zQt p0 p1 s1_3 s1_4), ⟨[], []⟩, []⟩ = some (.nor, zBb p0 p1 s1_3 s1_4 r) := by
 unfold zZd at h
 refine zo h (fun h401 g1 => ?_) (fun h401 g1 => ?_)
 ·exact zw (g := fun r => (Ex.nor, zBb p0 p1 s1_3 s1_4 r)) g1 (zqe [(34, 3, 1, .q (xb true)), (34, 3, 4, .q (xi (p0.1.length : Int)))] [] (ob (o_b h401) (ob (zq (eL eI) p0.1) ob0)) (by kernel_rfl))
 ·exact zw (g := fun r => (Ex.nor, zBb p0 p1 s1_3 s1_4 r)) g1 (zqe [(34, 3, 1, .q (xb false))] [] (ob (o_b h401) ob0) (by kernel_rfl))
noncomputable def zIi (p0 p1 : (SL (SL Int))) (s1_3 : Bool) (s1_4 : Int) : St := ⟨(zQt p0 p1 s1_3 s1_4), ⟨[], []⟩, []⟩
noncomputable def zFv (p0 p1 : (SL (SL Int))) (r : zt1) : TM := [(0, (.d (dl (eL eI) p0.1 p0.2))), (1, (.d (dl (eL eI) p1.1 p1.2))), (4, (xb false)), (5, (xb r.1)), (6, (xi r.2)), (18, (xb false))]
noncomputable def zed (p0 p1 : (SL (SL Int))) (r : zt1) : St := ⟨(zFv p0 p1 r), ⟨[], []⟩, []⟩
noncomputable def zHi (p0 p1 : (SL (SL Int))) : (Bool × Int) → Ex × St := fun r => ((.exit 0), zed p0 p1 r)
theorem zpi (k : Nat) (p0 p1 : (SL (SL Int))) (s1_3 : Bool) (s1_4 : Int) (x : (Bool × Int) ⊕ (Bool × Int)) (h : z1d k p0 p1 s1_3 s1_4 = some x) : zL TE 34 (blk TE 34 0) (fun s : (Bool × Int) => zIi p0 p1 s.1 s.2) (zHi p0 p1) (s1_3, s1_4) x := by
 unfold z1d at h
 refine zk h (fun v301 h302 g1 => ?_)
 refine zo g1 (fun h303 g2 => ?_) (fun h303 g2 => ?_)
 ·subst h303
  refine zk g2 (fun v304 h305 g3 => ?_)
  refine zk g3 (fun v306 h307 g4 => ?_)
  refine zk g4 (fun v308 h309 g5 => ?_)
  exact zqn (v308, (w64 (s1_4 + 1))) [] [(34, 5, 2, .q (.d (.pin [(dl eI v304.1 v304.2)]))), (34, 5, 6, .q (.d (.pin [(dl eI v306.1 v306.2)]))), (34, 5, 8, .c (db v308))] [(34, 1000003, (.nor, zBb p0 p1 s1_3 s1_4 true))] g5 (ob (zhf k p0 p1 s1_3 s1_4 _ h302) (ob (o_ia (e := (eL eI)) 1 h305 rfl) (ob (o_ia (e := (eL eI)) 1 h307 rfl) (ob (zaf k v304 v306 _ h309) ob0)))) (by kernel_rfl)
 ·subst h303
  exact zqo [] [(34, 1000003, (.nor, zBb p0 p1 s1_3 s1_4 false))] g2 (ob (zhf k p0 p1 s1_3 s1_4 _ h302) ob0) (by kernel_rfl)
theorem zIc (k : Nat) (p0 p1 : (SL (SL Int))) (r : Bool) (h : zLe k p0 p1 = some r) : zB TE (ev TE) 34 [(dl (eL eI) p0.1 p0.2), (dl (eL eI) p1.1 p1.2)] = some (zrg r) := by
 unfold zLe at h
 refine zk h (fun v1 h2 g1 => ?_)
 exact zr (g := zrg) g1 (zqc [(34, 1, 1, .q (xi (p0.1.length : Int))), (34, 1, 3, .q (xi (p1.1.length : Int)))] [(34, 0, (.nor, zed p0 p1 v1))] (ob (zq (eL eI) p0.1) (ob (zq (eL eI) p1.1) (ob (zC (id := 0) (r' := (.nor, zed p0 p1 v1)) (zHc (zpi k p0 p1) k _ _ h2) rfl) ob0))) (by kernel_rfl))
noncomputable def zAv (v3 v7 : zt1) (v11 : zt7) (v15 : ((SL Int) × Int)) (r : Bool) : TM := [(0, (xb false)), (1, (xb v3.1)), (2, (xi v3.2)), (3, (xb v7.1)), (4, (xi v7.2)), (5, (xi v11.1)), (6, (xi v11.2)), (7, (.d (dl eI v15.1.1 v15.1.2))), (8, (xi v15.2)), (69, (xb r))]
noncomputable def zA (v3 v7 : zt1) (v11 : zt7) (v15 : ((SL Int) × Int)) (r : Bool) : St := ⟨(zAv v3 v7 v11 v15 r), ⟨[], []⟩, []⟩
noncomputable def z7u (v3 v7 : zt1) (v11 : zt7) (v15 : ((SL Int) × Int)) : TM := [(0, (xb false)), (1, (xb v3.1)), (2, (xi v3.2)), (3, (xb v7.1)), (4, (xi v7.2)), (5, (xi v11.1)), (6, (xi v11.2)), (7, (.d (dl eI v15.1.1 v15.1.2))), (8, (xi v15.2))]
end Go.AM

