/- The statement NamesakeTrue holds for every input that its row lets in. Conditions: none. -/
import Derived.Test.YtbigoihkijjeiaaDoorC
set_option linter.all false
set_option linter.unusedVariables false
set_option maxRecDepth 100000
namespace Go.AM
open Go Go.Proofs
def zsp (n : Nat) : Nat × X := (n, .ptr 0 n 0)
def zc (n : Nat) (l : List D) : Nat × O := (n, .cells (l.map .d))
section
variable {E : Env} {fid : Nat} {c : Code}
theorem zqn {S R : Type} {S0 : S → St} {R0 : R → Ex × St} {s : S} {x : S ⊕ R} (s' : S) (rs : List Nat) (V : Ovs) (C : Cuts) (h : some (Sum.inl s') = some x) {P : List Prop} (hP : All P) (hr : zRk E V C rs 80 fid c (S0 s) = some (.inl (S0 s'), P)) : zF E fid c S0 R0 s x := zSw h hP hr
theorem zqo {S R : Type} {S0 : S → St} {R0 : R → Ex × St} {s : S} {r : R} {x : S ⊕ R} (V : Ovs) (C : Cuts) (h : some (Sum.inr r) = some x) {P : List Prop} (hP : All P) (hr : zRk E V C [] 80 fid c (S0 s) = some (.inr (R0 r), P)) : zF E fid c S0 R0 s x := zux h hP hr
theorem znc {A0 R : Type} {S0 : A0 → St} {R0 : R → Ex × St} {W : A0 → Option ((A0) ⊕ R)} (h : ∀ b0 x, W b0 = some x → zF E fid c S0 R0 b0 x) : ∀ (m : Nat) (s : A0) (r : R), iter (fun s => W s) m s = some r → ev E fid c (S0 s) = some (R0 r) := zGk fun s x e => h s x e
theorem zQb {A0 A1 R : Type} {S0 : A0 × A1 → St} {R0 : R → Ex × St} {W : A0 → A1 → Option ((A0 × A1) ⊕ R)} (h : ∀ b0 b1 x, W b0 b1 = some x → zF E fid c S0 R0 (b0, b1) x) : ∀ (m : Nat) (s : A0 × A1) (r : R), iter (fun s => W s.1 s.2) m s = some r → ev E fid c (S0 s) = some (R0 r) := zGk fun s x e => h s.1 s.2 x e
theorem zYi {A0 A1 A2 R : Type} {S0 : A0 × A1 × A2 → St} {R0 : R → Ex × St} {W : A0 → A1 → A2 → Option ((A0 × A1 × A2) ⊕ R)} (h : ∀ b0 b1 b2 x, W b0 b1 b2 = some x → zF E fid c S0 R0 (b0, b1, b2) x) : ∀ (m : Nat) (s : A0 × A1 × A2) (r : R), iter (fun s => W s.1 s.2.1 s.2.2) m s = some r → ev E fid c (S0 s) = some (R0 r) := zGk fun s x e => h s.1 s.2.1 s.2.2 x e
theorem zex {A0 A1 A2 A3 R : Type} {S0 : A0 × A1 × A2 × A3 → St} {R0 : R → Ex × St} {W : A0 → A1 → A2 → A3 → Option ((A0 × A1 × A2 × A3) ⊕ R)} (h : ∀ b0 b1 b2 b3 x, W b0 b1 b2 b3 = some x → zF E fid c S0 R0 (b0, b1, b2, b3) x) : ∀ (m : Nat) (s : A0 × A1 × A2 × A3) (r : R), iter (fun s => W s.1 s.2.1 s.2.2.1 s.2.2.2) m s = some r → ev E fid c (S0 s) = some (R0 r) := zGk fun s x e => h s.1 s.2.1 s.2.2.1 s.2.2.2 x e
theorem zXA {A0 A1 A2 A3 A4 R : Type} {S0 : A0 × A1 × A2 × A3 × A4 → St} {R0 : R → Ex × St} {W : A0 → A1 → A2 → A3 → A4 → Option ((A0 × A1 × A2 × A3 × A4) ⊕ R)} (h : ∀ b0 b1 b2 b3 b4 x, W b0 b1 b2 b3 b4 = some x → zF E fid c S0 R0 (b0, b1, b2, b3, b4) x) : ∀ (m : Nat) (s : A0 × A1 × A2 × A3 × A4) (r : R), iter (fun s => W s.1 s.2.1 s.2.2.1 s.2.2.2.1 s.2.2.2.2) m s = some r → ev E fid c (S0 s) = some (R0 r) := zGk fun s x e => h s.1 s.2.1 s.2.2.1 s.2.2.2.1 s.2.2.2.2 x e
theorem zYA {A0 A1 A2 A3 A4 A5 R : Type} {S0 : A0 × A1 × A2 × A3 × A4 × A5 → St} {R0 : R → Ex × St} {W : A0 → A1 → A2 → A3 → A4 → A5 → Option ((A0 × A1 × A2 × A3 × A4 × A5) ⊕ R)} (h : ∀ b0 b1 b2 b3 b4 b5 x, W b0 b1 b2 b3 b4 b5 = some x → zF E fid c S0 R0 (b0, b1, b2, b3, b4, b5) x) : ∀ (m : Nat) (s : A0 × A1 × A2 × A3 × A4 × A5) (r : R), iter (fun s => W s.1 s.2.1 s.2.2.1 s.2.2.2.1 s.2.2.2.2.1 s.2.2.2.2.2) m s = some r → ev E fid c (S0 s) = some (R0 r) := zGk fun s x e => h s.1 s.2.1 s.2.2.1 s.2.2.2.1 s.2.2.2.2.1 s.2.2.2.2.2 x e
theorem zqe {st : St} {r : Ex × St} {P : List Prop} (V : Ovs) (C : Cuts) (hP : All P) (h : evV E V C 80 fid c st = some (r, P)) : ev E fid c st = some r := zqx hP h
theorem zqc {f : Nat} {ds : List D} {d : D} {P : List Prop} (V : Ovs) (C : Cuts) (hP : All P) (h : zbs E V C 80 f ds = some (d, P)) : zx E (ev E) f ds = some d := zjw hP h
theorem zqr {f : Nat} {ds : List D} {d : D} {P : List Prop} (V : Ovs) (C : Cuts) (res : List D) (hP : All P) (h : z7q E V C 80 f ds res = some (d, P)) : zx E (ev E) f ds = some d := zrv hP h
end
section
variable {α : Type}
theorem zqa (T : TypeId) (bt lv s : Nat) (n : Int) (b : Bool) (z : Nat) (e : α → List D) (l : List α) (w : Bool) {y : α} (ha : arT TE.P T = none) (hs : slT TE.P T = some (z, bt)) (h : idx l n = some y) : iaX TE.P (fun _ _ => some (rowO b z e l w)) T (.row lv s l.length) (xi n) = some (.rp lv s l.length n.toNat 0) := z8y ha hs h
theorem zql (T : TypeId) (q : Nat × Bool) (lv s o : Nat) (n : Int) (x : X) (b : Bool) (z : Nat) (e : α → List D) (l : List α) (w : Bool) {y : α} (ht : tyT TE.P T = some q) (h : idx l n = some y) (hx : (zbj q.2 q.1 ((e y).drop o)).map X.d = some x) : ldX TE.P (fun _ _ => some (rowO b z e l w)) T (.rp lv s l.length n.toNat o) = some x := z8x ht h hx
theorem zqf (T : TypeId) (q : Nat × Nat × Bool) (lv s o f : Nat) (n : Int) (b : Bool) (z : Nat) (e : α → List D) (l : List α) (w : Bool) {y : α} (hf : fdT TE.P T f = some q) (hq : q.2.1 ≠ 0) (h : idx l n = some y) : faX TE.P (fun _ _ => some (rowO b z e l w)) T (.rp lv s l.length n.toNat o) f = some (.rp lv s l.length n.toNat (o + q.1)) := zuy hf hq h
end
theorem zw (k : Nat) (p0 p1 p2 : Int) (r : Bool) (h : zT k p0 p1 p2 = some r) : zx TE (ev TE) 51 [(di p0), (di p1), (di p2)] = some (zZi r) := by
 unfold zT at h
 refine zm h (fun h1 g1 => ?_) (fun h1 g1 => ?_)
 ·exact zt (g := zZi) g1 (zqc [(51, 1, 3, .q (xb true))] [] (ob (o_b h1) ob0) (by kernel_rfl))
 ·exact zt (g := zZi) g1 (zqc [(51, 1, 3, .q (xb false))] [] (ob (o_b h1) ob0) (by kernel_rfl))
noncomputable def zk1 (p0 : (SL (Nat → Int))) (p1 : zt11) (s1_4 : Int) : TM := [(0, (.d (dl (aI 2) p0.1 p0.2))), (1, (.d (.agg (aI 2 p1)))), (zsp 3), (4, (xi 0)), (7, (xi (p0.1.length : Int))), (8, (xi s1_4))]
noncomputable def zrk (p0 : (SL (Nat → Int))) (p1 : zt11) (s1_4 : Int) : St := ⟨(zk1 p0 p1 s1_4), ⟨[(zc 3 (aI 2 p1))], []⟩, []⟩
noncomputable def zk2 (p0 : (SL (Nat → Int))) (p1 : zt11) (r : Int) : TM := [(0, (.d (dl (aI 2) p0.1 p0.2))), (1, (.d (.agg (aI 2 p1)))), (zsp 3), (4, (xi r)), (7, (xi (p0.1.length : Int))), (8, (xi r)), (9, (xb true)), (5, (xi r)), (16, (xb true))]
noncomputable def z6d (p0 : (SL (Nat → Int))) (p1 : zt11) (r : Int) : St := ⟨(zk2 p0 p1 r), ⟨[(zc 3 (aI 2 p1))], []⟩, []⟩
noncomputable def zk3 (p0 : (SL (Nat → Int))) (p1 : zt11) (r : Int) : TM := [(0, (.d (dl (aI 2) p0.1 p0.2))), (1, (.d (.agg (aI 2 p1)))), (zsp 3), (4, (xi 0)), (7, (xi (p0.1.length : Int))), (8, (xi r)), (9, (xb false))]
noncomputable def z5d (p0 : (SL (Nat → Int))) (p1 : zt11) (r : Int) : St := ⟨(zk3 p0 p1 r), ⟨[(zc 3 (aI 2 p1))], []⟩, []⟩
noncomputable def zpk (p0 : (SL (Nat → Int))) (p1 : zt11) : (Int ⊕ Int) → Ex × St := Sum.elim (fun r => (.ret, z6d p0 p1 r)) (fun r => ((.exit 0), z5d p0 p1 r))
theorem zDg (k : Nat) (p0 : (SL (Nat → Int))) (p1 : zt11) (s1_4 : Int) (x : Int ⊕ (Int ⊕ Int)) (h : z9b k p0 p1 s1_4 = some x) : zF TE 84 (blk TE 84 0) (fun s : Int => zrk p0 p1 s) (zpk p0 p1) s1_4 x := by
 unfold z9b at h
 refine zm h (fun h201 g1 => ?_) (fun h201 g1 => ?_)
 ·refine zi g1 (fun v202 h203 g2 => ?_)
  refine zm g2 (fun h204 g3 => ?_) (fun h204 g3 => ?_)
  ·exact zqo [(84, 2, 0, .q (xb true)), (84, 4, 3, .q (.d (.pin (aI 2 v202)))), (84, 4, 5, .q (xb true))] [] g3 (ob (o_b h201) (ob (o_ia (e := (aI 2)) 2 h203 rfl) (ob (o_b h204) ob0))) (by kernel_rfl)
  ·exact zqn (w64 (s1_4 + 1)) [] [(84, 2, 0, .q (xb true)), (84, 4, 3, .q (.d (.pin (aI 2 v202)))), (84, 4, 5, .q (xb false))] [] g3 (ob (o_b h201) (ob (o_ia (e := (aI 2)) 2 h203 rfl) (ob (o_b h204) ob0))) (by kernel_rfl)
 ·exact zqo [(84, 2, 0, .q (xb false))] [] g1 (ob (o_b h201) ob0) (by kernel_rfl)
theorem zVk (k : Nat) (p0 : (SL (Nat → Int))) (p1 : zt11) (r : Int) (h : zge k p0 p1 = some r) : zx TE (ev TE) 84 [(dl (aI 2) p0.1 p0.2), (.agg (aI 2 p1))] = some (zvf r) := by
 unfold zge at h
 refine zi h (fun v1 h2 g1 => ?_)
 refine zJb g1 (fun v4 hh g2_0 => ?_) (fun v4 hh g2_0 => ?_)
 ·subst hh
  exact zt (g := zvf) g2_0 (zqc [(84, 1, 1, .q (xi (p0.1.length : Int)))] [(84, 0, (.ret, z6d p0 p1 v4))] (ob (zp (aI 2) p0.1) (ob (zu (id := 0) (r' := (.ret, z6d p0 p1 v4)) (znc (zDg k p0 p1) k _ _ h2) rfl) ob0)) (by kernel_rfl))
 ·subst hh
  exact zt (g := zvf) g2_0 (zqc [(84, 1, 1, .q (xi (p0.1.length : Int)))] [(84, 0, (.nor, z5d p0 p1 v4))] (ob (zp (aI 2) p0.1) (ob (zu (id := 0) (r' := (.nor, z5d p0 p1 v4)) (znc (zDg k p0 p1) k _ _ h2) rfl) ob0)) (by kernel_rfl))
theorem z5j (k : Nat) (p0 : (SL (Nat → Int))) (p1 : zt11) (r : Bool) (h : z8b k p0 p1 = some r) : zx TE (ev TE) 55 [(dl (aI 2) p0.1 p0.2), (.agg (aI 2 p1))] = some (zZg r) := by
 unfold z8b at h
 refine zi h (fun v1 h2 g1 => ?_)
 exact zt (g := zZg) g1 (zqc [(55, 1, 2, .c (di v1))] [] (ob (zVk k p0 p1 _ h2) ob0) (by kernel_rfl))
noncomputable def zk4 (p0 : za) (r : Bool) : TM := [(0, (.d (.agg (zb p0)))), (zsp 1), (2, (xi 0)), (3, (xi (p0.Letters.1.length : Int))), (4, (xi (p0.Far.1.length : Int))), (5, (xb r))]
noncomputable def zvc (p0 : za) (r : Bool) : St := ⟨(zk4 p0 r), ⟨[(zc 1 (zb p0))], []⟩, []⟩
noncomputable def zk5 (p0 : za) : TM := [(0, (.d (.agg (zb p0)))), (zsp 1), (2, (xi 0)), (3, (xi (p0.Letters.1.length : Int))), (4, (xi (p0.Far.1.length : Int)))]
theorem zek (k : Nat) (p0 : za) (r : Bool) (h : zHf k p0 = some r) : ev TE 16 (rgn TE 16 2) ⟨(zk5 p0), ⟨[(zc 1 (zb p0))], []⟩, []⟩ = some (.nor, zvc p0 r) := by
 unfold zHf at h
 refine zi h (fun v201 h202 g1 => ?_)
 refine zm g1 (fun h203 g2 => ?_) (fun h203 g2 => ?_)
 ·refine zi g2 (fun v204 h205 g3 => ?_)
  refine zm g3 (fun h206 g4 => ?_) (fun h206 g4 => ?_)
  ·refine zm g4 (fun h207 g5 => ?_) (fun h207 g5 => ?_)
   ·refine zi g5 (fun v208 h209 g6 => ?_)
    exact zq (g := fun r => (Ex.nor, zvc p0 r)) g6 (zqe [(16, 2, 1, .c (db v201)), (16, 2, 2, .q (xb true)), (16, 2, 4, .c (db v204)), (16, 2, 6, .q (xb true)), (16, 2, 9, .q (xi (p0.Apart.1.length : Int))), (16, 2, 12, .q (xb true)), (16, 2, 15, .c (db v208))] [] (ob (zw k (p0.Letters.1.length : Int) 1 8 _ h202) (ob (o_b h203) (ob (zw k (p0.Far.1.length : Int) 1 6 _ h205) (ob (o_b h206) (ob (zp (aI 2) p0.Apart.1) (ob (o_b h207) (ob (zw k p0.Most 1 8 _ h209) ob0))))))) (by kernel_rfl))
   ·exact zq (g := fun r => (Ex.nor, zvc p0 r)) g5 (zqe [(16, 2, 1, .c (db v201)), (16, 2, 2, .q (xb true)), (16, 2, 4, .c (db v204)), (16, 2, 6, .q (xb true)), (16, 2, 9, .q (xi (p0.Apart.1.length : Int))), (16, 2, 12, .q (xb false))] [] (ob (zw k (p0.Letters.1.length : Int) 1 8 _ h202) (ob (o_b h203) (ob (zw k (p0.Far.1.length : Int) 1 6 _ h205) (ob (o_b h206) (ob (zp (aI 2) p0.Apart.1) (ob (o_b h207) ob0)))))) (by kernel_rfl))
  ·exact zq (g := fun r => (Ex.nor, zvc p0 r)) g4 (zqe [(16, 2, 1, .c (db v201)), (16, 2, 2, .q (xb true)), (16, 2, 4, .c (db v204)), (16, 2, 6, .q (xb false))] [] (ob (zw k (p0.Letters.1.length : Int) 1 8 _ h202) (ob (o_b h203) (ob (zw k (p0.Far.1.length : Int) 1 6 _ h205) (ob (o_b h206) ob0)))) (by kernel_rfl))
 ·exact zq (g := fun r => (Ex.nor, zvc p0 r)) g2 (zqe [(16, 2, 1, .c (db v201)), (16, 2, 2, .q (xb false))] [] (ob (zw k (p0.Letters.1.length : Int) 1 8 _ h202) (ob (o_b h203) ob0)) (by kernel_rfl))
noncomputable def zk6 (p0 : za) (r : Bool) (s2_8 s2_11 : Int) : TM := zk4 p0 r ++ [(6, (xi s2_8)), (39, (.d (dl zd p0.Letters.1 p0.Letters.2))), (40, (xi (p0.Letters.1.length : Int))), (41, (xi s2_11)), (42, (xb true)), (zsp 8)]
noncomputable def zZb (p0 : za) (s2_7 : Bool) (s2_8 s2_11 : Int) (v402 : zn) (r : Bool) : St := ⟨(zk6 p0 r s2_8 s2_11), ⟨[(zc 1 (zb p0)), (zc 8 (zd v402))], []⟩, []⟩
noncomputable def zk7 (p0 : za) (s2_7 : Bool) (s2_8 s2_11 : Int) : TM := zk5 p0 ++ [(5, (xb s2_7)), (6, (xi s2_8)), (39, (.d (dl zd p0.Letters.1 p0.Letters.2))), (40, (xi (p0.Letters.1.length : Int))), (41, (xi s2_11)), (42, (xb true)), (zsp 8)]
theorem zbo (k : Nat) (p0 : za) (s2_7 : Bool) (s2_8 s2_11 : Int) (v402 : zn) (r : Bool) (h : z3g k p0 s2_7 s2_8 s2_11 v402 = some r) : ev TE 16 (rgn TE 16 7) ⟨(zk7 p0 s2_7 s2_8 s2_11), ⟨[(zc 1 (zb p0)), (zc 8 (zd v402))], []⟩, []⟩ = some (.nor, zZb p0 s2_7 s2_8 s2_11 v402 r) := by
 unfold z3g at h
 refine zm h (fun h501 g1 => ?_) (fun h501 g1 => ?_)
 ·refine zi g1 (fun v502 h503 g2 => ?_)
  refine zm g2 (fun h504 g3 => ?_) (fun h504 g3 => ?_)
  ·refine zi g3 (fun v505 h506 g4 => ?_)
   refine zm g4 (fun h507 g5 => ?_) (fun h507 g5 => ?_)
   ·refine zi g5 (fun v508 h509 g6 => ?_)
    refine zm g6 (fun h510 g7 => ?_) (fun h510 g7 => ?_)
    ·refine zm g7 (fun h511 g8 => ?_) (fun h511 g8 => ?_)
     ·refine zi g8 (fun v512 h513 g9 => ?_)
      exact zq (g := fun r => (Ex.nor, zZb p0 s2_7 s2_8 s2_11 v402 r)) g9 (zqe [(16, 7, 1, .q (xb true)), (16, 7, 5, .c (db v502)), (16, 7, 7, .q (xb true)), (16, 7, 12, .c (db v505)), (16, 7, 14, .q (xb true)), (16, 7, 21, .c (db v508)), (16, 7, 23, .q (xb true)), (16, 7, 29, .q (xb true)), (16, 7, 32, .c (db v512))] [] (ob (o_b h501) (ob (zw k v402.Day s2_8 20000 _ h503) (ob (o_b h504) (ob (zw k v402.Place 0 (w64 ((p0.Far.1.length : Int) - 1)) _ h506) (ob (o_b h507) (ob (zw k v402.Born.Low 0 v402.Born.High _ h509) (ob (o_b h510) (ob (o_b h511) (ob (zw k v402.Account 0 1000 _ h513) ob0))))))))) (by kernel_rfl))
     ·exact zq (g := fun r => (Ex.nor, zZb p0 s2_7 s2_8 s2_11 v402 r)) g8 (zqe [(16, 7, 1, .q (xb true)), (16, 7, 5, .c (db v502)), (16, 7, 7, .q (xb true)), (16, 7, 12, .c (db v505)), (16, 7, 14, .q (xb true)), (16, 7, 21, .c (db v508)), (16, 7, 23, .q (xb true)), (16, 7, 29, .q (xb false))] [] (ob (o_b h501) (ob (zw k v402.Day s2_8 20000 _ h503) (ob (o_b h504) (ob (zw k v402.Place 0 (w64 ((p0.Far.1.length : Int) - 1)) _ h506) (ob (o_b h507) (ob (zw k v402.Born.Low 0 v402.Born.High _ h509) (ob (o_b h510) (ob (o_b h511) ob0)))))))) (by kernel_rfl))
    ·exact zq (g := fun r => (Ex.nor, zZb p0 s2_7 s2_8 s2_11 v402 r)) g7 (zqe [(16, 7, 1, .q (xb true)), (16, 7, 5, .c (db v502)), (16, 7, 7, .q (xb true)), (16, 7, 12, .c (db v505)), (16, 7, 14, .q (xb true)), (16, 7, 21, .c (db v508)), (16, 7, 23, .q (xb false))] [] (ob (o_b h501) (ob (zw k v402.Day s2_8 20000 _ h503) (ob (o_b h504) (ob (zw k v402.Place 0 (w64 ((p0.Far.1.length : Int) - 1)) _ h506) (ob (o_b h507) (ob (zw k v402.Born.Low 0 v402.Born.High _ h509) (ob (o_b h510) ob0))))))) (by kernel_rfl))
   ·exact zq (g := fun r => (Ex.nor, zZb p0 s2_7 s2_8 s2_11 v402 r)) g5 (zqe [(16, 7, 1, .q (xb true)), (16, 7, 5, .c (db v502)), (16, 7, 7, .q (xb true)), (16, 7, 12, .c (db v505)), (16, 7, 14, .q (xb false))] [] (ob (o_b h501) (ob (zw k v402.Day s2_8 20000 _ h503) (ob (o_b h504) (ob (zw k v402.Place 0 (w64 ((p0.Far.1.length : Int) - 1)) _ h506) (ob (o_b h507) ob0))))) (by kernel_rfl))
  ·exact zq (g := fun r => (Ex.nor, zZb p0 s2_7 s2_8 s2_11 v402 r)) g3 (zqe [(16, 7, 1, .q (xb true)), (16, 7, 5, .c (db v502)), (16, 7, 7, .q (xb false))] [] (ob (o_b h501) (ob (zw k v402.Day s2_8 20000 _ h503) (ob (o_b h504) ob0))) (by kernel_rfl))
 ·exact zq (g := fun r => (Ex.nor, zZb p0 s2_7 s2_8 s2_11 v402 r)) g1 (zqe [(16, 7, 1, .q (xb false))] [] (ob (o_b h501) ob0) (by kernel_rfl))
noncomputable def zk8 (p0 : za) (s2_7 : Bool) (s2_8 s2_11 : Int) : TM := zk5 p0 ++ [(5, (xb s2_7)), (6, (xi s2_8)), (39, (.d (dl zd p0.Letters.1 p0.Letters.2))), (40, (xi (p0.Letters.1.length : Int))), (41, (xi s2_11))]
noncomputable def zap (p0 : za) (s2_7 : Bool) (s2_8 s2_11 : Int) : St := ⟨(zk8 p0 s2_7 s2_8 s2_11), ⟨[(zc 1 (zb p0))], []⟩, []⟩
noncomputable def zk9 (p0 : za) (r : zt9) : TM := zk5 p0 ++ [(5, (xb r.1)), (6, (xi r.2.1)), (39, (.d (dl zd p0.Letters.1 p0.Letters.2))), (40, (xi (p0.Letters.1.length : Int))), (41, (xi r.2.2)), (42, (xb false))]
noncomputable def z7d (p0 : za) (r : zt9) : St := ⟨(zk9 p0 r), ⟨[(zc 1 (zb p0))], []⟩, []⟩
noncomputable def zdp (p0 : za) : (Bool × Int × Int) → Ex × St := fun r => ((.exit 0), z7d p0 r)
theorem zik (k : Nat) (p0 : za) (s2_7 : Bool) (s2_8 s2_11 : Int) (x : (Bool × Int × Int) ⊕ (Bool × Int × Int)) (h : zje k p0 s2_7 s2_8 s2_11 = some x) : zF TE 16 (blk TE 16 0) (fun s : (Bool × Int × Int) => zap p0 s.1 s.2.1 s.2.2) (zdp p0) (s2_7, s2_8, s2_11) x := by
 unfold zje at h
 refine zm h (fun h401 g1 => ?_) (fun h401 g1 => ?_)
 ·refine zi g1 (fun v402 h403 g2 => ?_)
  refine zi g2 (fun v404 h405 g3 => ?_)
  exact zqn (v404, v402.Day, (w64 (s2_11 + 1))) [] [(16, 5, 0, .q (xb true)), (16, 6, 0, .q (.d (.pin (zd v402))))] [(16, 1000007, (.nor, zZb p0 s2_7 s2_8 s2_11 v402 v404))] g3 (ob (o_b h401) (ob (o_ia (e := zd) 6 h403 rfl) (ob (zbo k p0 s2_7 s2_8 s2_11 v402 _ h405) ob0))) (by kernel_rfl)
 ·exact zqo [(16, 5, 0, .q (xb false))] [] g1 (ob (o_b h401) ob0) (by kernel_rfl)
noncomputable def zkx (p0 : za) (r : Bool) (v3 : zt9) (s5_15 : Int) (v1002 : (SL Int)) : TM := zk4 p0 r ++ [(6, (xi v3.2.1)), (39, (.d (dl zd p0.Letters.1 p0.Letters.2))), (40, (xi (p0.Letters.1.length : Int))), (41, (xi v3.2.2)), (42, (xb false)), (83, (.d (dl (eL eI) p0.Far.1 p0.Far.2))), (84, (xi (p0.Far.1.length : Int))), (85, (xi s5_15)), (86, (xb true)), (9, (xi s5_15)), (10, (.d (dl eI v1002.1 v1002.2)))]
noncomputable def zVf (p0 : za) (v3 : zt9) (s5_7 : Bool) (s5_15 : Int) (v1002 : (SL Int)) (r : Bool) : St := ⟨(zkx p0 r v3 s5_15 v1002), ⟨[(zc 1 (zb p0))], []⟩, []⟩
noncomputable def zGA (p0 : za) (s5_7 : Bool) (v3 : zt9) (s5_15 : Int) (v1002 : (SL Int)) : TM := zk5 p0 ++ [(5, (xb s5_7)), (6, (xi v3.2.1)), (39, (.d (dl zd p0.Letters.1 p0.Letters.2))), (40, (xi (p0.Letters.1.length : Int))), (41, (xi v3.2.2)), (42, (xb false)), (83, (.d (dl (eL eI) p0.Far.1 p0.Far.2))), (84, (xi (p0.Far.1.length : Int))), (85, (xi s5_15)), (86, (xb true)), (9, (xi s5_15)), (10, (.d (dl eI v1002.1 v1002.2)))]
theorem z5n (k : Nat) (p0 : za) (v3 : zt9) (s5_7 : Bool) (s5_15 : Int) (v1002 : (SL Int)) (r : Bool) (h : zHg k p0 v3 s5_7 s5_15 v1002 = some r) : ev TE 16 (rgn TE 16 13) ⟨(zGA p0 s5_7 v3 s5_15 v1002), ⟨[(zc 1 (zb p0))], []⟩, []⟩ = some (.nor, zVf p0 v3 s5_7 s5_15 v1002 r) := by
 unfold zHg at h
 refine zm h (fun h1101 g1 => ?_) (fun h1101 g1 => ?_)
 ·exact zq (g := fun r => (Ex.nor, zVf p0 v3 s5_7 s5_15 v1002 r)) g1 (zqe [(16, 13, 1, .q (xb true)), (16, 13, 3, .q (xi (v1002.1.length : Int)))] [] (ob (o_b h1101) (ob (zp eI v1002.1) ob0)) (by kernel_rfl))
 ·exact zq (g := fun r => (Ex.nor, zVf p0 v3 s5_7 s5_15 v1002 r)) g1 (zqe [(16, 13, 1, .q (xb false))] [] (ob (o_b h1101) ob0) (by kernel_rfl))
noncomputable def zFA (p0 : za) (r : Bool) (v3 : zt9) (s5_15 : Int) (v1002 : (SL Int)) (s11_21 v1302 : Int) : TM := zkx p0 r v3 s5_15 v1002 ++ [(97, (.d (dl eI v1002.1 v1002.2))), (98, (xi (v1002.1.length : Int))), (99, (xi s11_21)), (100, (xb true)), (11, (xi s11_21)), (12, (xi v1302))]
noncomputable def z2c (p0 : za) (v3 : zt9) (s5_15 : Int) (v1002 : (SL Int)) (s11_7 : Bool) (s11_21 v1302 : Int) (r : Bool) : St := ⟨(zFA p0 r v3 s5_15 v1002 s11_21 v1302), ⟨[(zc 1 (zb p0))], []⟩, []⟩
noncomputable def z4z (p0 : za) (s11_7 : Bool) (v3 : zt9) (s5_15 : Int) (v1002 : (SL Int)) (s11_21 v1302 : Int) : TM := zk5 p0 ++ [(5, (xb s11_7)), (6, (xi v3.2.1)), (39, (.d (dl zd p0.Letters.1 p0.Letters.2))), (40, (xi (p0.Letters.1.length : Int))), (41, (xi v3.2.2)), (42, (xb false)), (83, (.d (dl (eL eI) p0.Far.1 p0.Far.2))), (84, (xi (p0.Far.1.length : Int))), (85, (xi s5_15)), (86, (xb true)), (9, (xi s5_15)), (10, (.d (dl eI v1002.1 v1002.2))), (97, (.d (dl eI v1002.1 v1002.2))), (98, (xi (v1002.1.length : Int))), (99, (xi s11_21)), (100, (xb true)), (11, (xi s11_21)), (12, (xi v1302))]
theorem zRn (k : Nat) (p0 : za) (v3 : zt9) (s5_15 : Int) (v1002 : (SL Int)) (s11_7 : Bool) (s11_21 v1302 : Int) (r : Bool) (h : zKg k p0 v3 s5_15 v1002 s11_7 s11_21 v1302 = some r) : ev TE 16 (rgn TE 16 17) ⟨(z4z p0 s11_7 v3 s5_15 v1002 s11_21 v1302), ⟨[(zc 1 (zb p0))], []⟩, []⟩ = some (.nor, z2c p0 v3 s5_15 v1002 s11_7 s11_21 v1302 r) := by
 unfold zKg at h
 refine zm h (fun h1401 g1 => ?_) (fun h1401 g1 => ?_)
 ·refine zi g1 (fun v1402 h1403 g2 => ?_)
  refine zm g2 (fun h1404 g3 => ?_) (fun h1404 g3 => ?_)
  ·refine zm g3 (fun h1405 g4 => ?_) (fun h1405 g4 => ?_)
   ·exact zq (g := fun r => (Ex.nor, z2c p0 v3 s5_15 v1002 s11_7 s11_21 v1302 r)) g4 (zqe [(16, 17, 1, .q (xb true)), (16, 17, 3, .c (db v1402)), (16, 17, 5, .q (xb true)), (16, 17, 9, .q (xb true))] [] (ob (o_b h1401) (ob (zw k v1302 0 400 _ h1403) (ob (o_b h1404) (ob (o_b h1405) ob0)))) (by kernel_rfl))
   ·exact zq (g := fun r => (Ex.nor, z2c p0 v3 s5_15 v1002 s11_7 s11_21 v1302 r)) g4 (zqe [(16, 17, 1, .q (xb true)), (16, 17, 3, .c (db v1402)), (16, 17, 5, .q (xb true)), (16, 17, 9, .q (xb false))] [] (ob (o_b h1401) (ob (zw k v1302 0 400 _ h1403) (ob (o_b h1404) (ob (o_b h1405) ob0)))) (by kernel_rfl))
  ·exact zq (g := fun r => (Ex.nor, z2c p0 v3 s5_15 v1002 s11_7 s11_21 v1302 r)) g3 (zqe [(16, 17, 1, .q (xb true)), (16, 17, 3, .c (db v1402)), (16, 17, 5, .q (xb false))] [] (ob (o_b h1401) (ob (zw k v1302 0 400 _ h1403) (ob (o_b h1404) ob0))) (by kernel_rfl))
 ·exact zq (g := fun r => (Ex.nor, z2c p0 v3 s5_15 v1002 s11_7 s11_21 v1302 r)) g1 (zqe [(16, 17, 1, .q (xb false))] [] (ob (o_b h1401) ob0) (by kernel_rfl))
noncomputable def zXz (p0 : za) (s11_7 : Bool) (v3 : zt9) (s5_15 : Int) (v1002 : (SL Int)) (s11_21 : Int) : TM := zk5 p0 ++ [(5, (xb s11_7)), (6, (xi v3.2.1)), (39, (.d (dl zd p0.Letters.1 p0.Letters.2))), (40, (xi (p0.Letters.1.length : Int))), (41, (xi v3.2.2)), (42, (xb false)), (83, (.d (dl (eL eI) p0.Far.1 p0.Far.2))), (84, (xi (p0.Far.1.length : Int))), (85, (xi s5_15)), (86, (xb true)), (9, (xi s5_15)), (10, (.d (dl eI v1002.1 v1002.2))), (97, (.d (dl eI v1002.1 v1002.2))), (98, (xi (v1002.1.length : Int))), (99, (xi s11_21))]
noncomputable def zyo (p0 : za) (v3 : zt9) (s5_15 : Int) (v1002 : (SL Int)) (s11_7 : Bool) (s11_21 : Int) : St := ⟨(zXz p0 s11_7 v3 s5_15 v1002 s11_21), ⟨[(zc 1 (zb p0))], []⟩, []⟩
noncomputable def zLA (p0 : za) (r : zt1) (v3 : zt9) (s5_15 : Int) (v1002 : (SL Int)) : TM := zk5 p0 ++ [(5, (xb r.1)), (6, (xi v3.2.1)), (39, (.d (dl zd p0.Letters.1 p0.Letters.2))), (40, (xi (p0.Letters.1.length : Int))), (41, (xi v3.2.2)), (42, (xb false)), (83, (.d (dl (eL eI) p0.Far.1 p0.Far.2))), (84, (xi (p0.Far.1.length : Int))), (85, (xi s5_15)), (86, (xb true)), (9, (xi s5_15)), (10, (.d (dl eI v1002.1 v1002.2))), (97, (.d (dl eI v1002.1 v1002.2))), (98, (xi (v1002.1.length : Int))), (99, (xi r.2)), (100, (xb false))]
noncomputable def zbh (p0 : za) (v3 : zt9) (s5_15 : Int) (v1002 : (SL Int)) (r : zt1) : St := ⟨(zLA p0 r v3 s5_15 v1002), ⟨[(zc 1 (zb p0))], []⟩, []⟩
noncomputable def zFo (p0 : za) (v3 : zt9) (s5_15 : Int) (v1002 : (SL Int)) : (Bool × Int) → Ex × St := fun r => ((.exit 4), zbh p0 v3 s5_15 v1002 r)
theorem zOn (k : Nat) (p0 : za) (v3 : zt9) (s5_15 : Int) (v1002 : (SL Int)) (s11_7 : Bool) (s11_21 : Int) (x : (Bool × Int) ⊕ (Bool × Int)) (h : z5e k p0 v3 s5_15 v1002 s11_7 s11_21 = some x) : zF TE 16 (blk TE 16 4) (fun s : (Bool × Int) => zyo p0 v3 s5_15 v1002 s.1 s.2) (zFo p0 v3 s5_15 v1002) (s11_7, s11_21) x := by
 unfold z5e at h
 refine zm h (fun h1301 g1 => ?_) (fun h1301 g1 => ?_)
 ·refine zi g1 (fun v1302 h1303 g2 => ?_)
  refine zi g2 (fun v1304 h1305 g3 => ?_)
  exact zqn (v1304, (w64 (s11_21 + 1))) [] [(16, 15, 0, .q (xb true)), (16, 16, 1, .q (.d (.pin [(di v1302)])))] [(16, 1000017, (.nor, z2c p0 v3 s5_15 v1002 s11_7 s11_21 v1302 v1304))] g3 (ob (o_b h1301) (ob (o_ia (e := eI) 1 h1303 rfl) (ob (zRn k p0 v3 s5_15 v1002 s11_7 s11_21 v1302 _ h1305) ob0))) (by kernel_rfl)
 ·exact zqo [(16, 15, 0, .q (xb false))] [] g1 (ob (o_b h1301) ob0) (by kernel_rfl)
noncomputable def zKz (p0 : za) (s5_7 : Bool) (v3 : zt9) (s5_15 : Int) : TM := zk5 p0 ++ [(5, (xb s5_7)), (6, (xi v3.2.1)), (39, (.d (dl zd p0.Letters.1 p0.Letters.2))), (40, (xi (p0.Letters.1.length : Int))), (41, (xi v3.2.2)), (42, (xb false)), (83, (.d (dl (eL eI) p0.Far.1 p0.Far.2))), (84, (xi (p0.Far.1.length : Int))), (85, (xi s5_15))]
noncomputable def z9o (p0 : za) (v3 : zt9) (s5_7 : Bool) (s5_15 : Int) : St := ⟨(zKz p0 s5_7 v3 s5_15), ⟨[(zc 1 (zb p0))], []⟩, []⟩
noncomputable def zUA (p0 : za) (r : zt1) (v3 : zt9) : TM := zk5 p0 ++ [(5, (xb r.1)), (6, (xi v3.2.1)), (39, (.d (dl zd p0.Letters.1 p0.Letters.2))), (40, (xi (p0.Letters.1.length : Int))), (41, (xi v3.2.2)), (42, (xb false)), (83, (.d (dl (eL eI) p0.Far.1 p0.Far.2))), (84, (xi (p0.Far.1.length : Int))), (85, (xi r.2)), (86, (xb false))]
noncomputable def zde (p0 : za) (v3 : zt9) (r : zt1) : St := ⟨(zUA p0 r v3), ⟨[(zc 1 (zb p0))], []⟩, []⟩
noncomputable def zgp (p0 : za) (v3 : zt9) : (Bool × Int) → Ex × St := fun r => ((.exit 2), zde p0 v3 r)
theorem zck (k : Nat) (p0 : za) (v3 : zt9) (s5_7 : Bool) (s5_15 : Int) (x : (Bool × Int) ⊕ (Bool × Int)) (h : zhe k p0 v3 s5_7 s5_15 = some x) : zF TE 16 (blk TE 16 2) (fun s : (Bool × Int) => z9o p0 v3 s.1 s.2) (zgp p0 v3) (s5_7, s5_15) x := by
 unfold zhe at h
 refine zm h (fun h1001 g1 => ?_) (fun h1001 g1 => ?_)
 ·refine zi g1 (fun v1002 h1003 g2 => ?_)
  refine zi g2 (fun v1004 h1005 g3 => ?_)
  refine zi g3 (fun v1006 h1007 g4 => ?_)
  exact zqn (v1006.1, (w64 (s5_15 + 1))) [] [(16, 11, 0, .q (xb true)), (16, 12, 1, .q (.d (.pin [(dl eI v1002.1 v1002.2)]))), (16, 14, 1, .q (xi (v1002.1.length : Int)))] [(16, 1000013, (.nor, zVf p0 v3 s5_7 s5_15 v1002 v1004)), (16, 4, (.nor, zbh p0 v3 s5_15 v1002 v1006))] g4 (ob (o_b h1001) (ob (o_ia (e := (eL eI)) 1 h1003 rfl) (ob (z5n k p0 v3 s5_7 s5_15 v1002 _ h1005) (ob (zp eI v1002.1) (ob (zu (id := 4) (r' := (.nor, zbh p0 v3 s5_15 v1002 v1006)) (zQb (zOn k p0 v3 s5_15 v1002) k _ _ h1007) rfl) ob0))))) (by kernel_rfl)
 ·exact zqo [(16, 11, 0, .q (xb false))] [] g1 (ob (o_b h1001) ob0) (by kernel_rfl)
noncomputable def zaA (p0 : za) (r : Bool) (v3 : zt9) (v5 : zt1) (s14_19 : Int) : TM := zk4 p0 r ++ [(6, (xi v3.2.1)), (39, (.d (dl zd p0.Letters.1 p0.Letters.2))), (40, (xi (p0.Letters.1.length : Int))), (41, (xi v3.2.2)), (42, (xb false)), (83, (.d (dl (eL eI) p0.Far.1 p0.Far.2))), (84, (xi (p0.Far.1.length : Int))), (85, (xi v5.2)), (86, (xb false)), (121, (.d (dl (aI 2) p0.Apart.1 p0.Apart.2))), (122, (xi (p0.Apart.1.length : Int))), (123, (xi s14_19)), (124, (xb true)), (zsp 14), (13, (xi s14_19))]
noncomputable def zZc (p0 : za) (v3 : zt9) (v5 : zt1) (s14_7 : Bool) (s14_19 : Int) (v1602 : zt11) (r : Bool) : St := ⟨(zaA p0 r v3 v5 s14_19), ⟨[(zc 1 (zb p0)), (zc 14 (aI 2 v1602))], []⟩, []⟩
noncomputable def zwA (p0 : za) (s14_7 : Bool) (v3 : zt9) (v5 : zt1) (s14_19 : Int) : TM := zk5 p0 ++ [(5, (xb s14_7)), (6, (xi v3.2.1)), (39, (.d (dl zd p0.Letters.1 p0.Letters.2))), (40, (xi (p0.Letters.1.length : Int))), (41, (xi v3.2.2)), (42, (xb false)), (83, (.d (dl (eL eI) p0.Far.1 p0.Far.2))), (84, (xi (p0.Far.1.length : Int))), (85, (xi v5.2)), (86, (xb false)), (121, (.d (dl (aI 2) p0.Apart.1 p0.Apart.2))), (122, (xi (p0.Apart.1.length : Int))), (123, (xi s14_19)), (124, (xb true)), (zsp 14), (13, (xi s14_19))]
theorem z1n (k : Nat) (p0 : za) (v3 : zt9) (v5 : zt1) (s14_7 : Bool) (s14_19 : Int) (v1602 : zt11) (r : Bool) (h : zzg k p0 v3 v5 s14_7 s14_19 v1602 = some r) : ev TE 16 (rgn TE 16 23) ⟨(zwA p0 s14_7 v3 v5 s14_19), ⟨[(zc 1 (zb p0)), (zc 14 (aI 2 v1602))], []⟩, []⟩ = some (.nor, zZc p0 v3 v5 s14_7 s14_19 v1602 r) := by
 unfold zzg at h
 refine zm h (fun h1701 g1 => ?_) (fun h1701 g1 => ?_)
 ·refine zi g1 (fun v1702 h1703 g2 => ?_)
  refine zm g2 (fun h1704 g3 => ?_) (fun h1704 g3 => ?_)
  ·refine zm g3 (fun h1705 g4 => ?_) (fun h1705 g4 => ?_)
   ·refine zib g4 (fun h1706 g5 => ?_)
    refine zi g5 (fun v1707 h1708 g6 => ?_)
    exact zq (g := fun r => (Ex.nor, zZc p0 v3 v5 s14_7 s14_19 v1602 r)) g6 (zqe [(16, 23, 1, .q (xb true)), (16, 23, 7, .c (db v1702)), (16, 23, 9, .q (xb true)), (16, 23, 15, .q (xb true)), (16, 23, 19, .q (.d (dl (aI 2) (p0.Apart.1.take s14_19.toNat) (pcap p0.Apart.2 (s14_19 == (p0.Apart.1.length : Int)))))), (16, 23, 21, .c (db v1707))] [] (ob (o_b h1701) (ob (zw k (v1602 0) 0 (w64 ((v1602 1) - 1)) _ h1703) (ob (o_b h1704) (ob (o_b h1705) (ob (zks (e := (aI 2)) (z := 2) (n := s14_19) p0.Apart.1 p0.Apart.2 h1706) (ob (z5j k ((p0.Apart.1.take s14_19.toNat), (pcap p0.Apart.2 (s14_19 == (p0.Apart.1.length : Int)))) v1602 _ h1708) ob0)))))) (by kernel_rfl))
   ·exact zq (g := fun r => (Ex.nor, zZc p0 v3 v5 s14_7 s14_19 v1602 r)) g4 (zqe [(16, 23, 1, .q (xb true)), (16, 23, 7, .c (db v1702)), (16, 23, 9, .q (xb true)), (16, 23, 15, .q (xb false))] [] (ob (o_b h1701) (ob (zw k (v1602 0) 0 (w64 ((v1602 1) - 1)) _ h1703) (ob (o_b h1704) (ob (o_b h1705) ob0)))) (by kernel_rfl))
  ·exact zq (g := fun r => (Ex.nor, zZc p0 v3 v5 s14_7 s14_19 v1602 r)) g3 (zqe [(16, 23, 1, .q (xb true)), (16, 23, 7, .c (db v1702)), (16, 23, 9, .q (xb false))] [] (ob (o_b h1701) (ob (zw k (v1602 0) 0 (w64 ((v1602 1) - 1)) _ h1703) (ob (o_b h1704) ob0))) (by kernel_rfl))
 ·exact zq (g := fun r => (Ex.nor, zZc p0 v3 v5 s14_7 s14_19 v1602 r)) g1 (zqe [(16, 23, 1, .q (xb false))] [] (ob (o_b h1701) ob0) (by kernel_rfl))
noncomputable def zMz (p0 : za) (s14_7 : Bool) (v3 : zt9) (v5 : zt1) (s14_19 : Int) : TM := zk5 p0 ++ [(5, (xb s14_7)), (6, (xi v3.2.1)), (39, (.d (dl zd p0.Letters.1 p0.Letters.2))), (40, (xi (p0.Letters.1.length : Int))), (41, (xi v3.2.2)), (42, (xb false)), (83, (.d (dl (eL eI) p0.Far.1 p0.Far.2))), (84, (xi (p0.Far.1.length : Int))), (85, (xi v5.2)), (86, (xb false)), (121, (.d (dl (aI 2) p0.Apart.1 p0.Apart.2))), (122, (xi (p0.Apart.1.length : Int))), (123, (xi s14_19))]
noncomputable def zCo (p0 : za) (v3 : zt9) (v5 : zt1) (s14_7 : Bool) (s14_19 : Int) : St := ⟨(zMz p0 s14_7 v3 v5 s14_19), ⟨[(zc 1 (zb p0))], []⟩, []⟩
noncomputable def zpA (p0 : za) (r : zt1) (v3 : zt9) (v5 : zt1) : TM := zk5 p0 ++ [(5, (xb r.1)), (6, (xi v3.2.1)), (39, (.d (dl zd p0.Letters.1 p0.Letters.2))), (40, (xi (p0.Letters.1.length : Int))), (41, (xi v3.2.2)), (42, (xb false)), (83, (.d (dl (eL eI) p0.Far.1 p0.Far.2))), (84, (xi (p0.Far.1.length : Int))), (85, (xi v5.2)), (86, (xb false)), (121, (.d (dl (aI 2) p0.Apart.1 p0.Apart.2))), (122, (xi (p0.Apart.1.length : Int))), (123, (xi r.2)), (124, (xb false))]
noncomputable def zJd (p0 : za) (v3 : zt9) (v5 r : zt1) : St := ⟨(zpA p0 r v3 v5), ⟨[(zc 1 (zb p0))], []⟩, []⟩
noncomputable def z9n (p0 : za) (v3 : zt9) (v5 : zt1) : (Bool × Int) → Ex × St := fun r => ((.exit 6), zJd p0 v3 v5 r)
theorem zAj (k : Nat) (p0 : za) (v3 : zt9) (v5 : zt1) (s14_7 : Bool) (s14_19 : Int) (x : (Bool × Int) ⊕ (Bool × Int)) (h : zQd k p0 v3 v5 s14_7 s14_19 = some x) : zF TE 16 (blk TE 16 6) (fun s : (Bool × Int) => zCo p0 v3 v5 s.1 s.2) (z9n p0 v3 v5) (s14_7, s14_19) x := by
 unfold zQd at h
 refine zm h (fun h1601 g1 => ?_) (fun h1601 g1 => ?_)
 ·refine zi g1 (fun v1602 h1603 g2 => ?_)
  refine zi g2 (fun v1604 h1605 g3 => ?_)
  exact zqn (v1604, (w64 (s14_19 + 1))) [] [(16, 21, 0, .q (xb true)), (16, 22, 1, .q (.d (.pin (aI 2 v1602))))] [(16, 1000023, (.nor, zZc p0 v3 v5 s14_7 s14_19 v1602 v1604))] g3 (ob (o_b h1601) (ob (o_ia (e := (aI 2)) 2 h1603 rfl) (ob (z1n k p0 v3 v5 s14_7 s14_19 v1602 _ h1605) ob0))) (by kernel_rfl)
 ·exact zqo [(16, 21, 0, .q (xb false))] [] g1 (ob (o_b h1601) ob0) (by kernel_rfl)
theorem zA (k : Nat) (p0 : za) (r : Int) (h : z1b k p0 = some r) : zx TE (ev TE) 16 [(.agg (zb p0))] = some (zhj r) := by
 unfold z1b at h
 refine zi h (fun v1 h2 g1 => ?_)
 refine zi g1 (fun v3 h4 g2 => ?_)
 refine zi g2 (fun v5 h6 g3 => ?_)
 refine zi g3 (fun v7 h8 g4 => ?_)
 refine zm g4 (fun h9 g5 => ?_) (fun h9 g5 => ?_)
 ·exact zt (g := zhj) g5 (zqc [(16, 1, 2, .q (xi (p0.Letters.1.length : Int))), (16, 1, 5, .q (xi (p0.Far.1.length : Int))), (16, 4, 2, .q (xi (p0.Letters.1.length : Int))), (16, 10, 2, .q (xi (p0.Far.1.length : Int))), (16, 20, 2, .q (xi (p0.Apart.1.length : Int))), (16, 25, 1, .q (xb true))] [(16, 1000002, (.nor, zvc p0 v1)), (16, 0, (.nor, z7d p0 v3)), (16, 2, (.nor, zde p0 v3 v5)), (16, 6, (.nor, zJd p0 v3 v5 v7))] (ob (zp zd p0.Letters.1) (ob (zp (eL eI) p0.Far.1) (ob (zek k p0 _ h2) (ob (zp zd p0.Letters.1) (ob (zu (id := 0) (r' := (.nor, z7d p0 v3)) (zYi (zik k p0) k _ _ h4) rfl) (ob (zp (eL eI) p0.Far.1) (ob (zu (id := 2) (r' := (.nor, zde p0 v3 v5)) (zQb (zck k p0 v3) k _ _ h6) rfl) (ob (zp (aI 2) p0.Apart.1) (ob (zu (id := 6) (r' := (.nor, zJd p0 v3 v5 v7)) (zQb (zAj k p0 v3 v5) k _ _ h8) rfl) (ob (o_b h9) ob0)))))))))) (by kernel_rfl))
 ·exact zt (g := zhj) g5 (zqc [(16, 1, 2, .q (xi (p0.Letters.1.length : Int))), (16, 1, 5, .q (xi (p0.Far.1.length : Int))), (16, 4, 2, .q (xi (p0.Letters.1.length : Int))), (16, 10, 2, .q (xi (p0.Far.1.length : Int))), (16, 20, 2, .q (xi (p0.Apart.1.length : Int))), (16, 25, 1, .q (xb false))] [(16, 1000002, (.nor, zvc p0 v1)), (16, 0, (.nor, z7d p0 v3)), (16, 2, (.nor, zde p0 v3 v5)), (16, 6, (.nor, zJd p0 v3 v5 v7))] (ob (zp zd p0.Letters.1) (ob (zp (eL eI) p0.Far.1) (ob (zek k p0 _ h2) (ob (zp zd p0.Letters.1) (ob (zu (id := 0) (r' := (.nor, z7d p0 v3)) (zYi (zik k p0) k _ _ h4) rfl) (ob (zp (eL eI) p0.Far.1) (ob (zu (id := 2) (r' := (.nor, zde p0 v3 v5)) (zQb (zck k p0 v3) k _ _ h6) rfl) (ob (zp (aI 2) p0.Apart.1) (ob (zu (id := 6) (r' := (.nor, zJd p0 v3 v5 v7)) (zQb (zAj k p0 v3 v5) k _ _ h8) rfl) (ob (o_b h9) ob0)))))))))) (by kernel_rfl))
theorem zz (k : Nat) (p0 p1 p2 : Int) (r : Bool) (h : zU k p0 p1 p2 = some r) : zx TE (ev TE) 40 [(di p0), (di p1), (di p2)] = some (zih r) := by
 unfold zU at h
 refine zm h (fun h1 g1 => ?_) (fun h1 g1 => ?_)
 ·exact zt (g := zih) g1 (zqc [(40, 1, 3, .q (xb true))] [] (ob (o_b h1) ob0) (by kernel_rfl))
 ·exact zt (g := zih) g1 (zqc [(40, 1, 3, .q (xb false))] [] (ob (o_b h1) ob0) (by kernel_rfl))
theorem zbn (k : Nat) (p0 : zN) (p1 p2 : Int) (r : Bool) (h : zee k p0 p1 p2 = some r) : zx TE (ev TE) 56 [(.agg [(di p0.Low), (di p0.High)]), (di p1), (di p2)] = some (zQe r) := by
 unfold zee at h
 refine zm h (fun h1 g1 => ?_) (fun h1 g1 => ?_)
 ·refine zm g1 (fun h2 g2 => ?_) (fun h2 g2 => ?_)
  ·exact zt (g := zQe) g2 (zqc [(56, 1, 4, .q (xb true)), (56, 1, 11, .q (xb true))] [] (ob (o_b h1) (ob (o_b h2) ob0)) (by kernel_rfl))
  ·exact zt (g := zQe) g2 (zqc [(56, 1, 4, .q (xb true)), (56, 1, 11, .q (xb false))] [] (ob (o_b h1) (ob (o_b h2) ob0)) (by kernel_rfl))
 ·exact zt (g := zQe) g1 (zqc [(56, 1, 4, .q (xb false))] [] (ob (o_b h1) ob0) (by kernel_rfl))
noncomputable def z3v (p0 : za) (r : Bool) : TM := [(0, (.d (.agg (zb p0)))), (zsp 1), (2, (xb false)), (3, (xb r))]
noncomputable def zzb (p0 : za) (r : Bool) : St := ⟨(z3v p0 r), ⟨[(zc 1 (zb p0))], []⟩, []⟩
theorem zPl (k : Nat) (p0 : za) (r : Bool) (h : zSe k p0 = some r) : ev TE 37 (rgn TE 37 1) ⟨[(0, (.d (.agg (zb p0)))), (zsp 1), (2, (xb false))], ⟨[(zc 1 (zb p0))], []⟩, []⟩ = some (.nor, zzb p0 r) := by
 unfold zSe at h
 refine zi h (fun v201 h202 g1 => ?_)
 refine zm g1 (fun h203 g2 => ?_) (fun h203 g2 => ?_)
 ·refine zi g2 (fun v204 h205 g3 => ?_)
  refine zm g3 (fun h206 g4 => ?_) (fun h206 g4 => ?_)
  ·refine zi g4 (fun v207 h208 g5 => ?_)
   refine zm g5 (fun h209 g6 => ?_) (fun h209 g6 => ?_)
   ·refine zm g6 (fun h210 g7 => ?_) (fun h210 g7 => ?_)
    ·refine zi g7 (fun v211 h212 g8 => ?_)
     exact zq (g := fun r => (Ex.nor, zzb p0 r)) g8 (zqe [(37, 1, 1, .c (di v201)), (37, 1, 3, .q (xb true)), (37, 1, 6, .q (xi (p0.Letters.1.length : Int))), (37, 1, 7, .c (db v204)), (37, 1, 9, .q (xb true)), (37, 1, 12, .q (xi (p0.Far.1.length : Int))), (37, 1, 13, .c (db v207)), (37, 1, 15, .q (xb true)), (37, 1, 18, .q (xi (p0.Apart.1.length : Int))), (37, 1, 21, .q (xb true)), (37, 1, 24, .c (db v211))] [] (ob (zA k p0 _ h202) (ob (o_b h203) (ob (zp zd p0.Letters.1) (ob (zz k (p0.Letters.1.length : Int) 1 8 _ h205) (ob (o_b h206) (ob (zp (eL eI) p0.Far.1) (ob (zz k (p0.Far.1.length : Int) 1 6 _ h208) (ob (o_b h209) (ob (zp (aI 2) p0.Apart.1) (ob (o_b h210) (ob (zz k p0.Most 1 8 _ h212) ob0))))))))))) (by kernel_rfl))
    ·exact zq (g := fun r => (Ex.nor, zzb p0 r)) g7 (zqe [(37, 1, 1, .c (di v201)), (37, 1, 3, .q (xb true)), (37, 1, 6, .q (xi (p0.Letters.1.length : Int))), (37, 1, 7, .c (db v204)), (37, 1, 9, .q (xb true)), (37, 1, 12, .q (xi (p0.Far.1.length : Int))), (37, 1, 13, .c (db v207)), (37, 1, 15, .q (xb true)), (37, 1, 18, .q (xi (p0.Apart.1.length : Int))), (37, 1, 21, .q (xb false))] [] (ob (zA k p0 _ h202) (ob (o_b h203) (ob (zp zd p0.Letters.1) (ob (zz k (p0.Letters.1.length : Int) 1 8 _ h205) (ob (o_b h206) (ob (zp (eL eI) p0.Far.1) (ob (zz k (p0.Far.1.length : Int) 1 6 _ h208) (ob (o_b h209) (ob (zp (aI 2) p0.Apart.1) (ob (o_b h210) ob0)))))))))) (by kernel_rfl))
   ·exact zq (g := fun r => (Ex.nor, zzb p0 r)) g6 (zqe [(37, 1, 1, .c (di v201)), (37, 1, 3, .q (xb true)), (37, 1, 6, .q (xi (p0.Letters.1.length : Int))), (37, 1, 7, .c (db v204)), (37, 1, 9, .q (xb true)), (37, 1, 12, .q (xi (p0.Far.1.length : Int))), (37, 1, 13, .c (db v207)), (37, 1, 15, .q (xb false))] [] (ob (zA k p0 _ h202) (ob (o_b h203) (ob (zp zd p0.Letters.1) (ob (zz k (p0.Letters.1.length : Int) 1 8 _ h205) (ob (o_b h206) (ob (zp (eL eI) p0.Far.1) (ob (zz k (p0.Far.1.length : Int) 1 6 _ h208) (ob (o_b h209) ob0)))))))) (by kernel_rfl))
  ·exact zq (g := fun r => (Ex.nor, zzb p0 r)) g4 (zqe [(37, 1, 1, .c (di v201)), (37, 1, 3, .q (xb true)), (37, 1, 6, .q (xi (p0.Letters.1.length : Int))), (37, 1, 7, .c (db v204)), (37, 1, 9, .q (xb false))] [] (ob (zA k p0 _ h202) (ob (o_b h203) (ob (zp zd p0.Letters.1) (ob (zz k (p0.Letters.1.length : Int) 1 8 _ h205) (ob (o_b h206) ob0))))) (by kernel_rfl))
 ·exact zq (g := fun r => (Ex.nor, zzb p0 r)) g2 (zqe [(37, 1, 1, .c (di v201)), (37, 1, 3, .q (xb false))] [] (ob (zA k p0 _ h202) (ob (o_b h203) ob0)) (by kernel_rfl))
noncomputable def zBA (p0 : za) (s2_5 : Bool) (s2_6 : Int) (r : Bool) : TM := [(0, (.d (.agg (zb p0)))), (zsp 1), (2, (xb false)), (3, (xb s2_5)), (4, (xi s2_6)), (42, (xb r))]
noncomputable def zUc (p0 : za) (s2_5 : Bool) (s2_6 : Int) (r : Bool) : St := ⟨(zBA p0 s2_5 s2_6 r), ⟨[(zc 1 (zb p0))], []⟩, []⟩
noncomputable def zBx (p0 : za) (s2_5 : Bool) (s2_6 : Int) : TM := [(0, (.d (.agg (zb p0)))), (zsp 1), (2, (xb false)), (3, (xb s2_5)), (4, (xi s2_6))]
theorem zki (k : Nat) (p0 : za) (s2_5 : Bool) (s2_6 : Int) (r : Bool) (h : zoc k p0 s2_5 s2_6 = some r) : ev TE 37 (rgn TE 37 3) ⟨(zBx p0 s2_5 s2_6), ⟨[(zc 1 (zb p0))], []⟩, []⟩ = some (.nor, zUc p0 s2_5 s2_6 r) := by
 unfold zoc at h
 refine zm h (fun h801 g1 => ?_) (fun h801 g1 => ?_)
 ·exact zq (g := fun r => (Ex.nor, zUc p0 s2_5 s2_6 r)) g1 (zqe [(37, 3, 1, .q (xb true)), (37, 3, 5, .q (xi (p0.Far.1.length : Int)))] [] (ob (o_b h801) (ob (zp (eL eI) p0.Far.1) ob0)) (by kernel_rfl))
 ·exact zq (g := fun r => (Ex.nor, zUc p0 s2_5 s2_6 r)) g1 (zqe [(37, 3, 1, .q (xb false))] [] (ob (o_b h801) ob0) (by kernel_rfl))
noncomputable def zTz (p0 : za) (s8_5 : Bool) (s2_6 s8_8 : Int) (r : Bool) : TM := [(0, (.d (.agg (zb p0)))), (zsp 1), (2, (xb false)), (3, (xb s8_5)), (4, (xi s2_6)), (42, (xb true)), (5, (xi s8_8)), (65, (xb r))]
noncomputable def zCc (p0 : za) (s2_6 : Int) (s8_5 : Bool) (s8_8 : Int) (r : Bool) : St := ⟨(zTz p0 s8_5 s2_6 s8_8 r), ⟨[(zc 1 (zb p0))], []⟩, []⟩
noncomputable def zzx (p0 : za) (s8_5 : Bool) (s2_6 s8_8 : Int) : TM := [(0, (.d (.agg (zb p0)))), (zsp 1), (2, (xb false)), (3, (xb s8_5)), (4, (xi s2_6)), (42, (xb true)), (5, (xi s8_8))]
theorem zWh (k : Nat) (p0 : za) (s2_6 : Int) (s8_5 : Bool) (s8_8 : Int) (r : Bool) (h : zcc k p0 s2_6 s8_5 s8_8 = some r) : ev TE 37 (rgn TE 37 7) ⟨(zzx p0 s8_5 s2_6 s8_8), ⟨[(zc 1 (zb p0))], []⟩, []⟩ = some (.nor, zCc p0 s2_6 s8_5 s8_8 r) := by
 unfold zcc at h
 refine zm h (fun h1101 g1 => ?_) (fun h1101 g1 => ?_)
 ·refine zi g1 (fun v1102 h1103 g2 => ?_)
  exact zq (g := fun r => (Ex.nor, zCc p0 s2_6 s8_5 s8_8 r)) g2 (zqe [(37, 7, 1, .q (xb true)), (37, 7, 6, .q (.d (.pin [(dl eI v1102.1 v1102.2)]))), (37, 7, 8, .q (xi (v1102.1.length : Int)))] [] (ob (o_b h1101) (ob (o_ia (e := (eL eI)) 1 h1103 rfl) (ob (zp eI v1102.1) ob0))) (by kernel_rfl))
 ·exact zq (g := fun r => (Ex.nor, zCc p0 s2_6 s8_5 s8_8 r)) g1 (zqe [(37, 7, 1, .q (xb false))] [] (ob (o_b h1101) ob0) (by kernel_rfl))
noncomputable def zum (p0 : za) (s2_6 : Int) (s8_5 : Bool) (s8_8 : Int) : St := ⟨(zzx p0 s8_5 s2_6 s8_8), ⟨[(zc 1 (zb p0))], []⟩, []⟩
noncomputable def zZz (p0 : za) (r : zt1) (s2_6 : Int) : TM := [(0, (.d (.agg (zb p0)))), (zsp 1), (2, (xb false)), (3, (xb r.1)), (4, (xi s2_6)), (42, (xb true)), (5, (xi r.2)), (65, (xb false))]
noncomputable def z0f (p0 : za) (s2_6 : Int) (r : zt1) : St := ⟨(zZz p0 r s2_6), ⟨[(zc 1 (zb p0))], []⟩, []⟩
noncomputable def zPm (p0 : za) (s2_6 : Int) : (Bool × Int) → Ex × St := fun r => ((.exit 2), z0f p0 s2_6 r)
theorem zHl (k : Nat) (p0 : za) (s2_6 : Int) (s8_5 : Bool) (s8_8 : Int) (x : (Bool × Int) ⊕ (Bool × Int)) (h : zuc k p0 s2_6 s8_5 s8_8 = some x) : zF TE 37 (blk TE 37 2) (fun s : (Bool × Int) => zum p0 s2_6 s.1 s.2) (zPm p0 s2_6) (s8_5, s8_8) x := by
 unfold zuc at h
 refine zi h (fun v1001 h1002 g1 => ?_)
 refine zm g1 (fun h1003 g2 => ?_) (fun h1003 g2 => ?_)
 ·subst h1003
  refine zi g2 (fun v1004 h1005 g3 => ?_)
  refine zi g3 (fun v1006 h1007 g4 => ?_)
  refine zi g4 (fun v1008 h1009 g5 => ?_)
  exact zqn (v1008, (w64 (s8_8 + 1))) [] [(37, 9, 3, .q (.d (.pin [(dl eI v1004.1 v1004.2)]))), (37, 9, 6, .q (.d (.pin [(di v1006)]))), (37, 9, 8, .c (db v1008))] [(37, 1000007, (.nor, zCc p0 s2_6 s8_5 s8_8 true))] g5 (ob (zWh k p0 s2_6 s8_5 s8_8 _ h1002) (ob (o_ia (e := (eL eI)) 1 h1005 rfl) (ob (o_ia (e := eI) 1 h1007 rfl) (ob (zz k v1006 0 400 _ h1009) ob0)))) (by kernel_rfl)
 ·subst h1003
  exact zqo [] [(37, 1000007, (.nor, zCc p0 s2_6 s8_5 s8_8 false))] g2 (ob (zWh k p0 s2_6 s8_5 s8_8 _ h1002) ob0) (by kernel_rfl)
noncomputable def zMm (p0 : za) (s2_5 : Bool) (s2_6 : Int) : St := ⟨(zBx p0 s2_5 s2_6), ⟨[(zc 1 (zb p0))], []⟩, []⟩
noncomputable def z6z (p0 : za) (r : zt1) : TM := [(0, (.d (.agg (zb p0)))), (zsp 1), (2, (xb false)), (3, (xb r.1)), (4, (xi r.2)), (42, (xb false))]
noncomputable def zUf (p0 : za) (r : zt1) : St := ⟨(z6z p0 r), ⟨[(zc 1 (zb p0))], []⟩, []⟩
noncomputable def zYm (p0 : za) : (Bool × Int) → Ex × St := fun r => ((.exit 0), zUf p0 r)
theorem zem (k : Nat) (p0 : za) (s2_5 : Bool) (s2_6 : Int) (x : (Bool × Int) ⊕ (Bool × Int)) (h : zpc k p0 s2_5 s2_6 = some x) : zF TE 37 (blk TE 37 0) (fun s : (Bool × Int) => zMm p0 s.1 s.2) (zYm p0) (s2_5, s2_6) x := by
 unfold zpc at h
 refine zi h (fun v701 h702 g1 => ?_)
 refine zm g1 (fun h703 g2 => ?_) (fun h703 g2 => ?_)
 ·subst h703
  refine zi g2 (fun v704 h705 g3 => ?_)
  refine zi g3 (fun v706 h707 g4 => ?_)
  exact zqn (v706.1, (w64 (s2_6 + 1))) [] [(37, 5, 3, .q (.d (.pin [(dl eI v704.1 v704.2)]))), (37, 5, 5, .q (xi (v704.1.length : Int))), (37, 5, 8, .q (xi (p0.Far.1.length : Int)))] [(37, 1000003, (.nor, zUc p0 s2_5 s2_6 true)), (37, 2, (.nor, z0f p0 s2_6 v706))] g4 (ob (zki k p0 s2_5 s2_6 _ h702) (ob (o_ia (e := (eL eI)) 1 h705 rfl) (ob (zp eI v704.1) (ob (zp (eL eI) p0.Far.1) (ob (zu (id := 2) (r' := (.nor, z0f p0 s2_6 v706)) (zQb (zHl k p0 s2_6) k _ _ h707) rfl) ob0))))) (by kernel_rfl)
 ·subst h703
  exact zqo [] [(37, 1000003, (.nor, zUc p0 s2_5 s2_6 false))] g2 (ob (zki k p0 s2_5 s2_6 _ h702) ob0) (by kernel_rfl)
noncomputable def zAA (p0 : za) (s11_5 : Bool) (v3 : zt1) (s11_8 : Int) (r : Bool) : TM := [(0, (.d (.agg (zb p0)))), (zsp 1), (2, (xb false)), (3, (xb s11_5)), (4, (xi v3.2)), (42, (xb false)), (6, (xi s11_8)), (84, (xb r))]
noncomputable def zGc (p0 : za) (v3 : zt1) (s11_5 : Bool) (s11_8 : Int) (r : Bool) : St := ⟨(zAA p0 s11_5 v3 s11_8 r), ⟨[(zc 1 (zb p0))], []⟩, []⟩
noncomputable def zWv (p0 : za) (s11_5 : Bool) (v3 : zt1) (s11_8 : Int) : TM := [(0, (.d (.agg (zb p0)))), (zsp 1), (2, (xb false)), (3, (xb s11_5)), (4, (xi v3.2)), (42, (xb false)), (6, (xi s11_8))]
theorem zMh (k : Nat) (p0 : za) (v3 : zt1) (s11_5 : Bool) (s11_8 : Int) (r : Bool) (h : zdc k p0 v3 s11_5 s11_8 = some r) : ev TE 37 (rgn TE 37 11) ⟨(zWv p0 s11_5 v3 s11_8), ⟨[(zc 1 (zb p0))], []⟩, []⟩ = some (.nor, zGc p0 v3 s11_5 s11_8 r) := by
 unfold zdc at h
 refine zm h (fun h1501 g1 => ?_) (fun h1501 g1 => ?_)
 ·exact zq (g := fun r => (Ex.nor, zGc p0 v3 s11_5 s11_8 r)) g1 (zqe [(37, 11, 1, .q (xb true)), (37, 11, 5, .q (xi (p0.Letters.1.length : Int)))] [] (ob (o_b h1501) (ob (zp zd p0.Letters.1) ob0)) (by kernel_rfl))
 ·exact zq (g := fun r => (Ex.nor, zGc p0 v3 s11_5 s11_8 r)) g1 (zqe [(37, 11, 1, .q (xb false))] [] (ob (o_b h1501) ob0) (by kernel_rfl))
noncomputable def zVz (p0 : za) (r : Bool) (v3 : zt1) (s11_8 : Int) : TM := z3v p0 r ++ [(4, (xi v3.2)), (42, (xb false)), (6, (xi s11_8)), (84, (xb true)), (zsp 7)]
noncomputable def zAc (p0 : za) (v3 : zt1) (s11_5 : Bool) (s11_8 : Int) (v1404 : zn) (r : Bool) : St := ⟨(zVz p0 r v3 s11_8), ⟨[(zc 1 (zb p0)), (zc 7 (zd v1404))], []⟩, []⟩
theorem zdl (k : Nat) (p0 : za) (v3 : zt1) (s11_5 : Bool) (s11_8 : Int) (v1404 : zn) (r : Bool) (h : zse k p0 v3 s11_5 s11_8 v1404 = some r) : ev TE 37 (rgn TE 37 14) ⟨(zWv p0 s11_5 v3 s11_8 ++ [(84, (xb true)), (zsp 7)]), ⟨[(zc 1 (zb p0)), (zc 7 (zd v1404))], []⟩, []⟩ = some (.nor, zAc p0 v3 s11_5 s11_8 v1404 r) := by
 unfold zse at h
 refine zi h (fun v1601 h1602 g1 => ?_)
 refine zm g1 (fun h1603 g2 => ?_) (fun h1603 g2 => ?_)
 ·refine zi g2 (fun v1604 h1605 g3 => ?_)
  refine zm g3 (fun h1606 g4 => ?_) (fun h1606 g4 => ?_)
  ·refine zi g4 (fun v1607 h1608 g5 => ?_)
   exact zq (g := fun r => (Ex.nor, zAc p0 v3 s11_5 s11_8 v1404 r)) g5 (zqe [(37, 14, 2, .c (db v1601)), (37, 14, 3, .q (xb true)), (37, 14, 8, .q (xi (p0.Far.1.length : Int))), (37, 14, 10, .c (db v1604)), (37, 14, 12, .q (xb true)), (37, 14, 15, .c (db v1607))] [] (ob (zz k v1404.Day 0 20000 _ h1602) (ob (o_b h1603) (ob (zp (eL eI) p0.Far.1) (ob (zz k v1404.Place 0 (w64 ((p0.Far.1.length : Int) - 1)) _ h1605) (ob (o_b h1606) (ob (zbn k v1404.Born 0 200 _ h1608) ob0)))))) (by kernel_rfl))
  ·exact zq (g := fun r => (Ex.nor, zAc p0 v3 s11_5 s11_8 v1404 r)) g4 (zqe [(37, 14, 2, .c (db v1601)), (37, 14, 3, .q (xb true)), (37, 14, 8, .q (xi (p0.Far.1.length : Int))), (37, 14, 10, .c (db v1604)), (37, 14, 12, .q (xb false))] [] (ob (zz k v1404.Day 0 20000 _ h1602) (ob (o_b h1603) (ob (zp (eL eI) p0.Far.1) (ob (zz k v1404.Place 0 (w64 ((p0.Far.1.length : Int) - 1)) _ h1605) (ob (o_b h1606) ob0))))) (by kernel_rfl))
 ·exact zq (g := fun r => (Ex.nor, zAc p0 v3 s11_5 s11_8 v1404 r)) g2 (zqe [(37, 14, 2, .c (db v1601)), (37, 14, 3, .q (xb false))] [] (ob (zz k v1404.Day 0 20000 _ h1602) (ob (o_b h1603) ob0)) (by kernel_rfl))
noncomputable def zFl (p0 : za) (v3 : zt1) (s11_5 : Bool) (s11_8 : Int) : St := ⟨(zWv p0 s11_5 v3 s11_8), ⟨[(zc 1 (zb p0))], []⟩, []⟩
noncomputable def ztA (p0 : za) (r v3 : zt1) : TM := [(0, (.d (.agg (zb p0)))), (zsp 1), (2, (xb false)), (3, (xb r.1)), (4, (xi v3.2)), (42, (xb false)), (6, (xi r.2)), (84, (xb false))]
noncomputable def zsf (p0 : za) (v3 r : zt1) : St := ⟨(ztA p0 r v3), ⟨[(zc 1 (zb p0))], []⟩, []⟩
noncomputable def z7l (p0 : za) (v3 : zt1) : (Bool × Int) → Ex × St := fun r => ((.exit 4), zsf p0 v3 r)
theorem zxl (k : Nat) (p0 : za) (v3 : zt1) (s11_5 : Bool) (s11_8 : Int) (x : (Bool × Int) ⊕ (Bool × Int)) (h : zfc k p0 v3 s11_5 s11_8 = some x) : zF TE 37 (blk TE 37 4) (fun s : (Bool × Int) => zFl p0 v3 s.1 s.2) (z7l p0 v3) (s11_5, s11_8) x := by
 unfold zfc at h
 refine zi h (fun v1401 h1402 g1 => ?_)
 refine zm g1 (fun h1403 g2 => ?_) (fun h1403 g2 => ?_)
 ·subst h1403
  refine zi g2 (fun v1404 h1405 g3 => ?_)
  refine zi g3 (fun v1406 h1407 g4 => ?_)
  exact zqn (v1406, (w64 (s11_8 + 1))) [] [(37, 13, 3, .q (.d (.pin (zd v1404))))] [(37, 1000011, (.nor, zGc p0 v3 s11_5 s11_8 true)), (37, 1000014, (.nor, zAc p0 v3 s11_5 s11_8 v1404 v1406))] g4 (ob (zMh k p0 v3 s11_5 s11_8 _ h1402) (ob (o_ia (e := zd) 6 h1405 rfl) (ob (zdl k p0 v3 s11_5 s11_8 v1404 _ h1407) ob0))) (by kernel_rfl)
 ·subst h1403
  exact zqo [] [(37, 1000011, (.nor, zGc p0 v3 s11_5 s11_8 false))] g2 (ob (zMh k p0 v3 s11_5 s11_8 _ h1402) ob0) (by kernel_rfl)
noncomputable def zxA (p0 : za) (s16_5 : Bool) (v3 v5 : zt1) (s16_10 : Int) (r : Bool) : TM := [(0, (.d (.agg (zb p0)))), (zsp 1), (2, (xb false)), (3, (xb s16_5)), (4, (xi v3.2)), (42, (xb false)), (6, (xi v5.2)), (84, (xb false)), (8, (xi s16_10)), (116, (xb r))]
noncomputable def zIc (p0 : za) (v3 v5 : zt1) (s16_5 : Bool) (s16_10 : Int) (r : Bool) : St := ⟨(zxA p0 s16_5 v3 v5 s16_10 r), ⟨[(zc 1 (zb p0))], []⟩, []⟩
noncomputable def zTv (p0 : za) (s16_5 : Bool) (v3 v5 : zt1) (s16_10 : Int) : TM := [(0, (.d (.agg (zb p0)))), (zsp 1), (2, (xb false)), (3, (xb s16_5)), (4, (xi v3.2)), (42, (xb false)), (6, (xi v5.2)), (84, (xb false)), (8, (xi s16_10))]
theorem zTh (k : Nat) (p0 : za) (v3 v5 : zt1) (s16_5 : Bool) (s16_10 : Int) (r : Bool) (h : zgc k p0 v3 v5 s16_5 s16_10 = some r) : ev TE 37 (rgn TE 37 16) ⟨(zTv p0 s16_5 v3 v5 s16_10), ⟨[(zc 1 (zb p0))], []⟩, []⟩ = some (.nor, zIc p0 v3 v5 s16_5 s16_10 r) := by
 unfold zgc at h
 refine zm h (fun h2001 g1 => ?_) (fun h2001 g1 => ?_)
 ·exact zq (g := fun r => (Ex.nor, zIc p0 v3 v5 s16_5 s16_10 r)) g1 (zqe [(37, 16, 1, .q (xb true)), (37, 16, 5, .q (xi (p0.Apart.1.length : Int)))] [] (ob (o_b h2001) (ob (zp (aI 2) p0.Apart.1) ob0)) (by kernel_rfl))
 ·exact zq (g := fun r => (Ex.nor, zIc p0 v3 v5 s16_5 s16_10 r)) g1 (zqe [(37, 16, 1, .q (xb false))] [] (ob (o_b h2001) ob0) (by kernel_rfl))
noncomputable def zjA (p0 : za) (r : Bool) (v3 v5 : zt1) (s16_10 : Int) : TM := z3v p0 r ++ [(4, (xi v3.2)), (42, (xb false)), (6, (xi v5.2)), (84, (xb false)), (8, (xi s16_10)), (116, (xb true))]
noncomputable def zYd (p0 : za) (v3 v5 : zt1) (s16_5 : Bool) (s16_10 : Int) (r : Bool) : St := ⟨(zjA p0 r v3 v5 s16_10), ⟨[(zc 1 (zb p0))], []⟩, []⟩
theorem zul (k : Nat) (p0 : za) (v3 v5 : zt1) (s16_5 : Bool) (s16_10 : Int) (r : Bool) (h : zme k p0 v3 v5 s16_5 s16_10 = some r) : ev TE 37 (rgn TE 37 18) ⟨(zTv p0 s16_5 v3 v5 s16_10 ++ [(116, (xb true))]), ⟨[(zc 1 (zb p0))], []⟩, []⟩ = some (.nor, zYd p0 v3 v5 s16_5 s16_10 r) := by
 unfold zme at h
 refine zi h (fun v2101 h2102 g1 => ?_)
 refine zi g1 (fun v2103 h2104 g2 => ?_)
 refine zm g2 (fun h2105 g3 => ?_) (fun h2105 g3 => ?_)
 ·refine zi g3 (fun v2106 h2107 g4 => ?_)
  refine zi g4 (fun v2108 h2109 g5 => ?_)
  exact zq (g := fun r => (Ex.nor, zYd p0 v3 v5 s16_5 s16_10 r)) g5 (zqe [(37, 18, 3, .q (.d (.pin (aI 2 v2101)))), (37, 18, 8, .q (xi (p0.Letters.1.length : Int))), (37, 18, 10, .c (db v2103)), (37, 18, 11, .q (xb true)), (37, 18, 15, .q (.d (.pin (aI 2 v2106)))), (37, 18, 20, .q (xi (p0.Letters.1.length : Int))), (37, 18, 22, .c (db v2108))] [] (ob (o_ia (e := (aI 2)) 2 h2102 rfl) (ob (zp zd p0.Letters.1) (ob (zz k (v2101 0) 0 (w64 ((p0.Letters.1.length : Int) - 1)) _ h2104) (ob (o_b h2105) (ob (o_ia (e := (aI 2)) 2 h2107 rfl) (ob (zp zd p0.Letters.1) (ob (zz k (v2106 1) 0 (w64 ((p0.Letters.1.length : Int) - 1)) _ h2109) ob0))))))) (by kernel_rfl))
 ·exact zq (g := fun r => (Ex.nor, zYd p0 v3 v5 s16_5 s16_10 r)) g3 (zqe [(37, 18, 3, .q (.d (.pin (aI 2 v2101)))), (37, 18, 8, .q (xi (p0.Letters.1.length : Int))), (37, 18, 10, .c (db v2103)), (37, 18, 11, .q (xb false))] [] (ob (o_ia (e := (aI 2)) 2 h2102 rfl) (ob (zp zd p0.Letters.1) (ob (zz k (v2101 0) 0 (w64 ((p0.Letters.1.length : Int) - 1)) _ h2104) (ob (o_b h2105) ob0)))) (by kernel_rfl))
noncomputable def zGl (p0 : za) (v3 v5 : zt1) (s16_5 : Bool) (s16_10 : Int) : St := ⟨(zTv p0 s16_5 v3 v5 s16_10), ⟨[(zc 1 (zb p0))], []⟩, []⟩
noncomputable def zzA (p0 : za) (r v3 v5 : zt1) : TM := [(0, (.d (.agg (zb p0)))), (zsp 1), (2, (xb false)), (3, (xb r.1)), (4, (xi v3.2)), (42, (xb false)), (6, (xi v5.2)), (84, (xb false)), (8, (xi r.2)), (116, (xb false))]
noncomputable def zBf (p0 : za) (v3 v5 r : zt1) : St := ⟨(zzA p0 r v3 v5), ⟨[(zc 1 (zb p0))], []⟩, []⟩
noncomputable def zhm (p0 : za) (v3 v5 : zt1) : (Bool × Int) → Ex × St := fun r => ((.exit 6), zBf p0 v3 v5 r)
theorem zjl (k : Nat) (p0 : za) (v3 v5 : zt1) (s16_5 : Bool) (s16_10 : Int) (x : (Bool × Int) ⊕ (Bool × Int)) (h : zac k p0 v3 v5 s16_5 s16_10 = some x) : zF TE 37 (blk TE 37 6) (fun s : (Bool × Int) => zGl p0 v3 v5 s.1 s.2) (zhm p0 v3 v5) (s16_5, s16_10) x := by
 unfold zac at h
 refine zi h (fun v1901 h1902 g1 => ?_)
 refine zm g1 (fun h1903 g2 => ?_) (fun h1903 g2 => ?_)
 ·subst h1903
  refine zi g2 (fun v1904 h1905 g3 => ?_)
  exact zqn (v1904, (w64 (s16_10 + 1))) [] [] [(37, 1000016, (.nor, zIc p0 v3 v5 s16_5 s16_10 true)), (37, 1000018, (.nor, zYd p0 v3 v5 s16_5 s16_10 v1904))] g3 (ob (zTh k p0 v3 v5 s16_5 s16_10 _ h1902) (ob (zul k p0 v3 v5 s16_5 s16_10 _ h1905) ob0)) (by kernel_rfl)
 ·subst h1903
  exact zqo [] [(37, 1000016, (.nor, zIc p0 v3 v5 s16_5 s16_10 false))] g2 (ob (zTh k p0 v3 v5 s16_5 s16_10 _ h1902) ob0) (by kernel_rfl)
theorem zgb (k : Nat) (p0 : za) (r : Bool) (h : zCe k p0 = some r) : zx TE (ev TE) 37 [(.agg (zb p0))] = some (zBj r) := by
 unfold zCe at h
 refine zi h (fun v1 h2 g1 => ?_)
 refine zi g1 (fun v3 h4 g2 => ?_)
 refine zi g2 (fun v5 h6 g3 => ?_)
 refine zi g3 (fun v7 h8 g4 => ?_)
 exact zt (g := zBj) g4 (zqc [] [(37, 1000001, (.nor, zzb p0 v1)), (37, 0, (.nor, zUf p0 v3)), (37, 4, (.nor, zsf p0 v3 v5)), (37, 6, (.nor, zBf p0 v3 v5 v7))] (ob (zPl k p0 _ h2) (ob (zu (id := 0) (r' := (.nor, zUf p0 v3)) (zQb (zem k p0) k _ _ h4) rfl) (ob (zu (id := 4) (r' := (.nor, zsf p0 v3 v5)) (zQb (zxl k p0 v3) k _ _ h6) rfl) (ob (zu (id := 6) (r' := (.nor, zBf p0 v3 v5 v7)) (zQb (zjl k p0 v3 v5) k _ _ h8) rfl) ob0)))) (by kernel_rfl))
theorem zwk (k : Nat) (p0 p1 : Int) (r : zN) (h : zEh k p0 p1 = some r) : zx TE (ev TE) 46 [(di p0), (di p1)] = some (zcl r) := by
 unfold zEh at h
 exact zt (g := zcl) h (zqc [] [] ob0 (by kernel_rfl))
theorem zcd (k : Nat) (p0 p1 p2 p3 p4 : Int) (r : zn) (h : zjc k p0 p1 p2 p3 p4 = some r) : zx TE (ev TE) 81 [(di p0), (di p1), (di p2), (di p3), (di p4)] = some (z2i r) := by
 unfold zjc at h
 refine zi h (fun v1 h2 g1 => ?_)
 exact zt (g := z2i) g1 (zqc [(81, 1, 4, .c (.agg [(di v1.Low), (di v1.High)]))] [] (ob (zwk k p2 p3 _ h2) ob0) (by kernel_rfl))
theorem zk (k : Nat) (p0 : Int) (r : za) (h : zhb k p0 = some r) : zx TE (ev TE) 50 [(di p0)] = some (zXj r) := by
 unfold zhb at h
 refine zi h (fun v1 h2 g1 => ?_)
 refine zi g1 (fun v3 h4 g2 => ?_)
 refine zi g2 (fun v5 h6 g3 => ?_)
 refine zi g3 (fun v7 h8 g4 => ?_)
 refine zi g4 (fun v9 h10 g5 => ?_)
 refine zi g5 (fun v11 h12 g6 => ?_)
 exact zt (g := zXj) g6 (zqr [(50, 1, 0, .c (.agg (zd v1))), (50, 1, 1, .c (.agg (zd v3))), (50, 1, 2, .c (.agg (zd v5))), (50, 1, 3, .c (.agg (zd v7))), (50, 1, 4, .c (.agg (zd v9))), (50, 2, 2, .q (.rp 0 9 ([v1, v3, v5, v7, v9] : List zn).length (4 : Int).toNat 0)), (50, 2, 3, .q (.rp 0 9 ([v1, v3, v5, v7, v9] : List zn).length (4 : Int).toNat 4)), (50, 2, 4, .rs (rowO false 6 zd (([v1, v3, v5, v7, v9] : List zn).set (4 : Int).toNat (⟨v11.Day, v11.Place, v11.Born, true, v11.Account⟩ : zn)) true)), (50, 2, 999, .nm [] [(3, 0, (([v1, v3, v5, v7, v9] : List zn).set (4 : Int).toNat (⟨v11.Day, v11.Place, v11.Born, true, v11.Account⟩ : zn)).length)])] [] [(.agg [(dl zd (([v1, v3, v5, v7, v9] : List zn).set (4 : Int).toNat (⟨v11.Day, v11.Place, v11.Born, true, v11.Account⟩ : zn)) (rcap false (([v1, v3, v5, v7, v9] : List zn).set (4 : Int).toNat (⟨v11.Day, v11.Place, v11.Born, true, v11.Account⟩ : zn)))), (.sl [[(.sl [[(di 0)], [(di 5)]] .ex)], [(.sl [[(di 5)], [(di 0)]] .ex)]] .ex), (.sl [] .nil), (di p0)])] (ob (zcd k 10 0 50 60 7 _ h2) (ob (zcd k 12 1 40 55 0 _ h4) (ob (zcd k 20 0 56 70 0 _ h6) (ob (zcd k 30 1 50 58 7 _ h8) (ob (zcd k 40 0 30 45 0 _ h10) (ob (zqa 22 48 0 9 4 false 6 zd ([v1, v3, v5, v7, v9] : List zn) true (by kernel_rfl) (by kernel_rfl) h12) (ob (zqf 60 (4, 1, false) 0 9 0 3 4 false 6 zd ([v1, v3, v5, v7, v9] : List zn) true (by kernel_rfl) (by decide) h12) (ob (o_rs (b := false) (z := 6) (e := zd) (l := ([v1, v3, v5, v7, v9] : List zn)) (o := 4) (n := 1) (ds := [(db true)]) (i := 4) (y' := (⟨v11.Day, v11.Place, v11.Born, true, v11.Account⟩ : zn)) h12 (Nat.le_of_ble_eq_true rfl) rfl) (ob (show ([v1, v3, v5, v7, v9] : List zn).length = (([v1, v3, v5, v7, v9] : List zn).set (4 : Int).toNat (⟨v11.Day, v11.Place, v11.Born, true, v11.Account⟩ : zn)).length by simp) (ob (show zFc ⟨[(9, (rowO false 6 zd (([v1, v3, v5, v7, v9] : List zn).set (4 : Int).toNat (⟨v11.Day, v11.Place, v11.Born, true, v11.Account⟩ : zn)) true))], []⟩ _ = _ from (o_s1 (x := (.agg [(.row 0 9 (([v1, v3, v5, v7, v9] : List zn).set (4 : Int).toNat (⟨v11.Day, v11.Place, v11.Born, true, v11.Account⟩ : zn)).length), (.d (.sl [[(.sl [[(di 0)], [(di 5)]] .ex)], [(.sl [[(di 5)], [(di 0)]] .ex)]] .ex)), (.d (.sl [] .nil)), (xi p0)])) (zav (o_c1 (zko false 6 zd (([v1, v3, v5, v7, v9] : List zn).set (4 : Int).toNat (⟨v11.Day, v11.Place, v11.Born, true, v11.Account⟩ : zn)) true rfl) (o_cd (o_cd (o_cd o_c0))))) o_s0)) ob0)))))))))) (by kernel_rfl))
noncomputable def z9z (p0 : za) (s1_6 : Int) : TM := [(0, (.d (.agg (zb p0)))), (zsp 1), (zsp 2), (zsp 3), (10, (.d (dl (aI 2) p0.Apart.1 p0.Apart.2))), (11, (xi (p0.Apart.1.length : Int))), (12, (xi s1_6))]
noncomputable def zOo (p0 : za) (s1_6 : Int) (s1_16 : (List (zl × Bool))) : St := ⟨(z9z p0 s1_6), ⟨[(zc 1 (zb p0)), (2, (.cells [(.d (.sl [] .nil)), (.d (.sl [] .nil)), (.d (.sl [] .nil)), (xi 0), (.d (.mp []))])), (7, (.map (em (fun k => D.agg (zh k)) (fun b => D.b b) s1_16))), (3, (.cells (((zb p0).map .d) ++ [(.map 0 7)])))], []⟩, []⟩
noncomputable def zqA (p0 : za) (r : (Int × (List (zl × Bool)))) : TM := [(0, (.d (.agg (zb p0)))), (zsp 1), (zsp 2), (zsp 3), (10, (.d (dl (aI 2) p0.Apart.1 p0.Apart.2))), (11, (xi (p0.Apart.1.length : Int))), (12, (xi r.1)), (13, (xb false))]
noncomputable def zjh (p0 : za) (r : (Int × (List (zl × Bool)))) : St := ⟨(zqA p0 r), ⟨[(zc 1 (zb p0)), (2, (.cells [(.d (.sl [] .nil)), (.d (.sl [] .nil)), (.d (.sl [] .nil)), (xi 0), (.d (.mp []))])), (7, (.map (em (fun k => D.agg (zh k)) (fun b => D.b b) r.2))), (3, (.cells (((zb p0).map .d) ++ [(.map 0 7)])))], []⟩, []⟩
noncomputable def zJo (p0 : za) : (Int × (List (zl × Bool))) → Ex × St := fun r => ((.exit 0), zjh p0 r)
theorem z3n (k : Nat) (p0 : za) (s1_6 : Int) (s1_16 : (List (zl × Bool))) (x : (Int × (List (zl × Bool))) ⊕ (Int × (List (zl × Bool)))) (h : zbf k p0 s1_6 s1_16 = some x) : zF TE 52 (blk TE 52 0) (fun s : (Int × (List (zl × Bool))) => zOo p0 s.1 s.2) (zJo p0) (s1_6, s1_16) x := by
 unfold zbf at h
 refine zm h (fun h201 g1 => ?_) (fun h201 g1 => ?_)
 ·refine zi g1 (fun v202 h203 g2 => ?_)
  exact zqn ((w64 (s1_6 + 1)), (mset zr (⟨(v202 0), (v202 1)⟩ : zl) true s1_16)) [] [(52, 3, 0, .q (xb true)), (52, 4, 0, .q (.d (.pin (aI 2 v202)))), (52, 5, 7, .mp (em (fun k => D.agg (zh k)) (fun b => D.b b) (mset zr (⟨(v202 0), (v202 1)⟩ : zl) true s1_16)))] [] g2 (ob (o_b h201) (ob (o_ia (e := (aI 2)) 2 h203 rfl) (ob (zls (ek := (fun k => D.agg (zh k))) (evl := (fun b => D.b b)) (q := zr) (fun _ _ => rfl) (⟨(v202 0), (v202 1)⟩ : zl) true s1_16) ob0))) (by kernel_rfl)
 ·exact zqo [(52, 3, 0, .q (xb false))] [] g1 (ob (o_b h201) ob0) (by kernel_rfl)
theorem zsb (k : Nat) (p0 : za) (r : zj) (h : z6b k p0 = some r) : zx TE (ev TE) 52 [(.agg (zb p0))] = some (zAl r) := by
 unfold z6b at h
 refine zi h (fun v1 h2 g1 => ?_)
 exact zt (g := zAl) g1 (zqc [(52, 2, 2, .q (xi (p0.Apart.1.length : Int)))] [(52, 0, (.nor, zjh p0 v1))] (ob (zp (aI 2) p0.Apart.1) (ob (zu (id := 0) (r' := (.nor, zjh p0 v1)) (zQb (z3n k p0) k _ _ h2) rfl) ob0)) (by kernel_rfl))
theorem zId (k : Nat) (r : zt3) (h : zoi k = some r) : zx TE (ev TE) 82 [] = some (zCl r) := by
 unfold zoi at h
 exact zt (g := zCl) h (zqc [] [] ob0 (by kernel_rfl))
noncomputable def zRA (p0 : zt3) (s1_5 : zt6) (s1_3 : Int) : TM := [(0, (.d (.agg (aB 8 p0)))), (zsp 1), (2, (.d (.sl [] .nil))), (3, (.row 0 3 s1_5.length)), (6, (.d (.agg (aB 8 p0)))), (7, (xi s1_3))]
noncomputable def zol (p0 : zt3) (s1_3 : Int) (s1_5 : zt6) : St := ⟨(zRA p0 s1_5 s1_3), ⟨[(zc 1 (aB 8 p0)), (3, (rowO true 1 eI s1_5 true))], []⟩, []⟩
noncomputable def z5z (p0 : zt3) (r : (Int × (List Int))) : TM := [(0, (.d (.agg (aB 8 p0)))), (zsp 1), (2, (.d (.sl [] .nil))), (3, (.row 0 3 r.2.length)), (6, (.d (.agg (aB 8 p0)))), (7, (xi r.1)), (8, (xb false))]
noncomputable def z4e (p0 : zt3) (r : (Int × (List Int))) : St := ⟨(z5z p0 r), ⟨[(zc 1 (aB 8 p0)), (3, (rowO true 1 eI r.2 true))], []⟩, []⟩
noncomputable def zpl (p0 : zt3) : (Int × (List Int)) → Ex × St := fun r => ((.exit 0), z4e p0 r)
theorem z0k (k : Nat) (p0 : zt3) (s1_3 : Int) (s1_5 : zt6) (x : (Int × (List Int)) ⊕ (Int × (List Int))) (h : zVc k p0 s1_3 s1_5 = some x) : zF TE 110 (blk TE 110 0) (fun s : (Int × (List Int)) => zol p0 s.1 s.2) (zpl p0) (s1_3, s1_5) x := by
 unfold zVc at h
 refine zm h (fun h301 g1 => ?_) (fun h301 g1 => ?_)
 ·refine zib g1 (fun h302 g2 => ?_)
  refine zm g2 (fun h303 g3 => ?_) (fun h303 g3 => ?_)
  ·refine zib g3 (fun h304 g4 => ?_)
   exact zqn ((w64 (s1_3 + 1)), (s1_5 ++ [s1_3])) [3] [(110, 3, 0, .q (xb true)), (110, 4, 1, .q (xb (p0 s1_3.toNat))), (110, 5, 0, .q (xb true)), (110, 6, 3, .ap (s1_5 ++ [s1_3]).length (rowO true 1 eI (s1_5 ++ [s1_3]) true))] [] g4 (ob (o_b h301) (ob (zww 8 p0 s1_3 h302) (ob (o_b h303) (ob (o_ap (b := true) (z := 1) (e := eI) (l := s1_5) (w := true) s1_3 (fun _ => rfl) h304) (ob (zWd true 1 eI (s1_5 ++ [s1_3]) true) ob0))))) (by kernel_rfl)
  ·exact zqn ((w64 (s1_3 + 1)), s1_5) [3] [(110, 3, 0, .q (xb true)), (110, 4, 1, .q (xb (p0 s1_3.toNat))), (110, 5, 0, .q (xb false))] [] g3 (ob (o_b h301) (ob (zww 8 p0 s1_3 h302) (ob (o_b h303) (ob (zWd true 1 eI s1_5 true) ob0)))) (by kernel_rfl)
 ·exact zqo [(110, 3, 0, .q (xb false))] [] g1 (ob (o_b h301) ob0) (by kernel_rfl)
theorem z0d (k : Nat) (p0 : zt3) (r : (SL Int)) (h : z3b k p0 = some r) : zx TE (ev TE) 110 [(.agg (aB 8 p0))] = some (zSi r) := by
 unfold z3b at h
 refine zi h (fun v1 h2 g1 => ?_)
 exact zt (g := zSi) g1 (zqr [] [(110, 0, (.nor, z4e p0 v1))] [(dl eI v1.2 (rcap true v1.2))] (ob (zu (id := 0) (r' := (.nor, z4e p0 v1)) (zQb (z0k k p0) k _ _ h2) rfl) (ob (show zFc ⟨[(3, (rowO true 1 eI v1.2 true))], []⟩ _ = _ from (o_s1 (x := (.row 0 3 v1.2.length)) (zen true 1 eI v1.2 true rfl) o_s0)) ob0)) (by kernel_rfl))
noncomputable def z0z (s1_0 : Int) (p1 : (SL Int)) (s1_5 : Int) : TM := [(0, (xi s1_0)), (1, (.d (dl eI p1.1 p1.2))), (4, (xi 0)), (7, (.d (dl eI p1.1 p1.2))), (8, (xi (p1.1.length : Int))), (9, (xi s1_5))]
noncomputable def znl (p1 : (SL Int)) (s1_0 s1_5 : Int) : St := ⟨(z0z s1_0 p1 s1_5), ⟨[], []⟩, []⟩
noncomputable def zuA (r : zt0) (p1 : (SL Int)) : TM := [(0, (xi r.1)), (1, (.d (dl eI p1.1 p1.2))), (4, (xi 0)), (7, (.d (dl eI p1.1 p1.2))), (8, (xi (p1.1.length : Int))), (9, (xi r.2)), (10, (xb false))]
noncomputable def zYe (p1 : (SL Int)) (r : zt0) : St := ⟨(zuA r p1), ⟨[], []⟩, []⟩
noncomputable def zzl (p1 : (SL Int)) : (Int × Int) → Ex × St := fun r => ((.exit 0), zYe p1 r)
theorem z3k (k : Nat) (p1 : (SL Int)) (s1_0 s1_5 : Int) (x : (Int × Int) ⊕ (Int × Int)) (h : zyb k p1 s1_0 s1_5 = some x) : zF TE 76 (blk TE 76 0) (fun s : (Int × Int) => znl p1 s.1 s.2) (zzl p1) (s1_0, s1_5) x := by
 unfold zyb at h
 refine zm h (fun h201 g1 => ?_) (fun h201 g1 => ?_)
 ·refine zi g1 (fun v202 h203 g2 => ?_)
  exact zqn ((if v202 > s1_0 then v202 else s1_0), (w64 (s1_5 + 1))) [] [(76, 2, 0, .q (xb true)), (76, 3, 0, .q (.d (.pin [(di v202)])))] [] g2 (ob (o_b h201) (ob (o_ia (e := eI) 1 h203 rfl) ob0)) (by kernel_rfl)
 ·exact zqo [(76, 2, 0, .q (xb false))] [] g1 (ob (o_b h201) ob0) (by kernel_rfl)
theorem zae (k : Nat) (p0 : Int) (p1 : (SL Int)) (r : Int) (h : zDb k p0 p1 = some r) : zx TE (ev TE) 76 [(di p0), (dl eI p1.1 p1.2)] = some (zTi r) := by
 unfold zDb at h
 refine zi h (fun v1 h2 g1 => ?_)
 exact zt (g := zTi) g1 (zqc [(76, 1, 1, .q (xi (p1.1.length : Int)))] [(76, 0, (.nor, zYe p1 v1))] (ob (zp eI p1.1) (ob (zu (id := 0) (r' := (.nor, zYe p1 v1)) (zQb (z3k k p1) k _ _ h2) rfl) ob0)) (by kernel_rfl))
noncomputable def zCA (p0 : zj) (p1 : zt3) (p2 : Int) (v3 : (SL Int)) (s1_10 : Int) : TM := [(0, (.d (.agg (zo p0)))), (1, (.d (.agg (aB 8 p1)))), (2, (xi p2)), (zsp 3), (zsp 4), (6, (xb false)), (zsp 7), (19, (.d (dl eI v3.1 v3.2))), (20, (xi (v3.1.length : Int))), (21, (xi s1_10))]
noncomputable def zan (p0 : zj) (p1 : zt3) (p2 : Int) (v3 : (SL Int)) (s1_10 s1_17 s1_18 : Int) : St := ⟨(zCA p0 p1 p2 v3 s1_10), ⟨[(zc 3 (zo p0)), (zc 4 (aB 8 p1)), (7, (.cells [(xi s1_17), (xi s1_18)]))], []⟩, []⟩
noncomputable def zbA (p0 : zj) (p1 : zt3) (p2 : Int) (v3 : (SL Int)) (r : (Int × Int × Int)) : TM := [(0, (.d (.agg (zo p0)))), (1, (.d (.agg (aB 8 p1)))), (2, (xi p2)), (zsp 3), (zsp 4), (6, (xb false)), (zsp 7), (19, (.d (dl eI v3.1 v3.2))), (20, (xi (v3.1.length : Int))), (21, (xi r.1)), (22, (xb false))]
noncomputable def zeg (p0 : zj) (p1 : zt3) (p2 : Int) (v3 : (SL Int)) (r : (Int × Int × Int)) : St := ⟨(zbA p0 p1 p2 v3 r), ⟨[(zc 3 (zo p0)), (zc 4 (aB 8 p1)), (7, (.cells [(xi r.2.1), (xi r.2.2)]))], []⟩, []⟩
noncomputable def z2m (p0 : zj) (p1 : zt3) (p2 : Int) (v3 : (SL Int)) : (Int × Int × Int) → Ex × St := fun r => ((.exit 0), zeg p0 p1 p2 v3 r)
theorem zsm (k : Nat) (p0 : zj) (p1 : zt3) (p2 : Int) (v3 : (SL Int)) (s1_10 s1_17 s1_18 : Int) (x : (Int × Int × Int) ⊕ (Int × Int × Int)) (h : zPd k p0 p1 p2 v3 s1_10 s1_17 s1_18 = some x) : zF TE 112 (blk TE 112 0) (fun s : (Int × Int × Int) => zan p0 p1 p2 v3 s.1 s.2.1 s.2.2) (z2m p0 p1 p2 v3) (s1_10, s1_17, s1_18) x := by
 unfold zPd at h
 refine zm h (fun h201 g1 => ?_) (fun h201 g1 => ?_)
 ·refine zi g1 (fun v202 h203 g2 => ?_)
  refine zi g2 (fun v204 h205 g3 => ?_)
  refine zi g3 (fun v206 h207 g4 => ?_)
  refine zi g4 (fun v208 h209 g5 => ?_)
  exact zqn ((w64 (s1_10 + 1)), v206, (w64 (0 - v208))) [] [(112, 3, 0, .q (xb true)), (112, 4, 0, .q (.d (.pin [(di v202)]))), (112, 5, 4, .q (.d (.pin (zd v204)))), (112, 6, 5, .c (di v206)), (112, 6, 13, .c (di v208))] [] g5 (ob (o_b h201) (ob (o_ia (e := eI) 1 h203 rfl) (ob (o_ia (e := zd) 6 h205 rfl) (ob (zae k s1_17 ([v204.Born.Low], .ex) _ h207) (ob (zae k (w64 (0 - s1_18)) ([(w64 (0 - v204.Born.High))], .ex) _ h209) ob0))))) (by kernel_rfl)
 ·exact zqo [(112, 3, 0, .q (xb false))] [] g1 (ob (o_b h201) ob0) (by kernel_rfl)
theorem zzj (k : Nat) (p0 : zj) (p1 : zt3) (p2 : Int) (r : Bool) (h : zVe k p0 p1 p2 = some r) : zx TE (ev TE) 112 [(.agg (zo p0)), (.agg (aB 8 p1)), (di p2)] = some (zjk r) := by
 unfold zVe at h
 refine zi h (fun v1 h2 g1 => ?_)
 refine zi g1 (fun v3 h4 g2 => ?_)
 refine zi g2 (fun v5 h6 g3 => ?_)
 exact zt (g := zjk) g3 (zqc [(112, 1, 4, .q (.d (.pin (zd v1)))), (112, 2, 1, .c (dl eI v3.1 v3.2)), (112, 2, 2, .q (xi (v3.1.length : Int)))] [(112, 0, (.nor, zeg p0 p1 p2 v3 v5))] (ob (o_ia (e := zd) 6 h2 rfl) (ob (z0d k p1 _ h4) (ob (zp eI v3.1) (ob (zu (id := 0) (r' := (.nor, zeg p0 p1 p2 v3 v5)) (zYi (zsm k p0 p1 p2 v3) k _ _ h6) rfl) ob0)))) (by kernel_rfl))
theorem zFj (k : Nat) (p0 : zj) (p1 : zt3) (r : Int) (h : zUd k p0 p1 = some r) : zx TE (ev TE) 116 [(.agg (zo p0)), (.agg (aB 8 p1))] = some (zYj r) := by
 unfold zUd at h
 refine zi h (fun v1 h2 g1 => ?_)
 refine zi g1 (fun v3 h4 g2 => ?_)
 exact zt (g := zYj) g2 (zqc [(116, 1, 1, .c (dl eI v1.1 v1.2)), (116, 2, 2, .q (xi (v1.1.length : Int))), (116, 2, 4, .q (.d (.pin [(di v3)])))] [] (ob (z0d k p1 _ h2) (ob (zp eI v1.1) (ob (o_ia (e := eI) 1 h4 rfl) ob0))) (by kernel_rfl))
theorem zUj (k : Nat) (p0 : zj) (p1 : zt3) (p2 : Int) (r : Bool) (h : zLf k p0 p1 p2 = some r) : zx TE (ev TE) 113 [(.agg (zo p0)), (.agg (aB 8 p1)), (di p2)] = some (zzk r) := by
 unfold zLf at h
 refine zi h (fun v1 h2 g1 => ?_)
 refine zi g1 (fun v3 h4 g2 => ?_)
 refine zi g2 (fun v5 h6 g3 => ?_)
 refine zi g3 (fun v7 h8 g4 => ?_)
 refine zi g4 (fun v9 h10 g5 => ?_)
 exact zt (g := zzk) g5 (zqc [(113, 1, 5, .c (di v1)), (113, 1, 6, .q (.d (.pin (zd v3)))), (113, 1, 12, .q (.d (.pin (zd v5)))), (113, 2, 10, .q (.d (.pin [(dl eI v7.1 v7.2)]))), (113, 2, 14, .q (.d (.pin [(di v9)])))] [] (ob (zFj k p0 p1 _ h2) (ob (o_ia (e := zd) 6 h4 rfl) (ob (o_ia (e := zd) 6 h6 rfl) (ob (o_ia (e := (eL eI)) 1 h8 rfl) (ob (o_ia (e := eI) 1 h10 rfl) ob0))))) (by kernel_rfl))
theorem z7i (k : Nat) (p0 : zj) (p1 : zt3) (p2 : Int) (r : Bool) (h : zGe k p0 p1 p2 = some r) : zx TE (ev TE) 114 [(.agg (zo p0)), (.agg (aB 8 p1)), (di p2)] = some (zIj r) := by
 unfold zGe at h
 refine zi h (fun v1 h2 g1 => ?_)
 refine zi g1 (fun v3 h4 g2 => ?_)
 exact zt (g := zIj) g2 (zqc [(114, 1, 5, .c (di v1)), (114, 1, 6, .q (.d (.pin (zd v3))))] [] (ob (zFj k p0 p1 _ h2) (ob (o_ia (e := zd) 6 h4 rfl) ob0)) (by kernel_rfl))
noncomputable def zHA (p0 : zj) (p1 : zt3) (p2 : Int) (v1 : (SL Int)) (s1_10 : Int) : TM := [(0, (.d (.agg (zo p0)))), (1, (.d (.agg (aB 8 p1)))), (2, (xi p2)), (zsp 3), (zsp 4), (6, (xb false)), (10, (.d (dl eI v1.1 v1.2))), (11, (xi (v1.1.length : Int))), (12, (xi s1_10))]
noncomputable def zZm (p0 : zj) (p1 : zt3) (p2 : Int) (v1 : (SL Int)) (s1_10 : Int) : St := ⟨(zHA p0 p1 p2 v1 s1_10), ⟨[(zc 3 (zo p0)), (zc 4 (aB 8 p1))], []⟩, []⟩
noncomputable def zfA (p0 : zj) (p1 : zt3) (p2 : Int) (v1 : (SL Int)) (r : zt0) : TM := [(0, (.d (.agg (zo p0)))), (1, (.d (.agg (aB 8 p1)))), (2, (xi p2)), (zsp 3), (zsp 4), (6, (xb false)), (10, (.d (dl eI v1.1 v1.2))), (11, (xi (v1.1.length : Int))), (12, (xi r.1)), (13, (xb true)), (8, (xi r.2)), (21, (xb true))]
noncomputable def zQf (p0 : zj) (p1 : zt3) (p2 : Int) (v1 : (SL Int)) (r : zt0) : St := ⟨(zfA p0 p1 p2 v1 r), ⟨[(zc 3 (zo p0)), (zc 4 (aB 8 p1))], []⟩, []⟩
noncomputable def zrA (p0 : zj) (p1 : zt3) (p2 : Int) (v1 : (SL Int)) (r : Int) : TM := [(0, (.d (.agg (zo p0)))), (1, (.d (.agg (aB 8 p1)))), (2, (xi p2)), (zsp 3), (zsp 4), (6, (xb false)), (10, (.d (dl eI v1.1 v1.2))), (11, (xi (v1.1.length : Int))), (12, (xi r)), (13, (xb false))]
noncomputable def zSf (p0 : zj) (p1 : zt3) (p2 : Int) (v1 : (SL Int)) (r : Int) : St := ⟨(zrA p0 p1 p2 v1 r), ⟨[(zc 3 (zo p0)), (zc 4 (aB 8 p1))], []⟩, []⟩
noncomputable def zGm (p0 : zj) (p1 : zt3) (p2 : Int) (v1 : (SL Int)) : ((Int × Int) ⊕ Int) → Ex × St := Sum.elim (fun r => (.ret, zQf p0 p1 p2 v1 r)) (fun r => ((.exit 0), zSf p0 p1 p2 v1 r))
theorem zni (k : Nat) (p0 : zj) (p1 : zt3) (p2 : Int) (v1 : (SL Int)) (s1_10 : Int) (x : Int ⊕ ((Int × Int) ⊕ Int)) (h : ztd k p0 p1 p2 v1 s1_10 = some x) : zF TE 115 (blk TE 115 0) (fun s : Int => zZm p0 p1 p2 v1 s) (zGm p0 p1 p2 v1) s1_10 x := by
 unfold ztd at h
 refine zm h (fun h201 g1 => ?_) (fun h201 g1 => ?_)
 ·refine zi g1 (fun v202 h203 g2 => ?_)
  refine zm g2 (fun h204 g3 => ?_) (fun h204 g3 => ?_)
  ·exact zqo [(115, 2, 0, .q (xb true)), (115, 3, 0, .q (.d (.pin [(di v202)]))), (115, 4, 5, .q (xb true))] [] g3 (ob (o_b h201) (ob (o_ia (e := eI) 1 h203 rfl) (ob (o_tr (zxm (ek := (fun k => D.agg (zh k))) (evl := (fun b => D.b b)) (q := zr) (fun _ _ => rfl) (⟨v202, p2⟩ : zl) p0.apart false) h204) ob0))) (by kernel_rfl)
  ·exact zqn (w64 (s1_10 + 1)) [] [(115, 2, 0, .q (xb true)), (115, 3, 0, .q (.d (.pin [(di v202)]))), (115, 4, 5, .q (xb false))] [] g3 (ob (o_b h201) (ob (o_ia (e := eI) 1 h203 rfl) (ob (o_tr (zxm (ek := (fun k => D.agg (zh k))) (evl := (fun b => D.b b)) (q := zr) (fun _ _ => rfl) (⟨v202, p2⟩ : zl) p0.apart false) h204) ob0))) (by kernel_rfl)
 ·exact zqo [(115, 2, 0, .q (xb false))] [] g1 (ob (o_b h201) ob0) (by kernel_rfl)
theorem z8i (k : Nat) (p0 : zj) (p1 : zt3) (p2 : Int) (r : Bool) (h : zEe k p0 p1 p2 = some r) : zx TE (ev TE) 115 [(.agg (zo p0)), (.agg (aB 8 p1)), (di p2)] = some (z8g r) := by
 unfold zEe at h
 refine zi h (fun v1 h2 g1 => ?_)
 refine zi g1 (fun v3 h4 g2 => ?_)
 refine zJb g2 (fun v6 hh g3_0 => ?_) (fun v6 hh g3_0 => ?_)
 ·subst hh
  exact zt (g := z8g) g3_0 (zqc [(115, 1, 1, .c (dl eI v1.1 v1.2)), (115, 1, 2, .q (xi (v1.1.length : Int)))] [(115, 0, (.ret, zQf p0 p1 p2 v1 v6))] (ob (z0d k p1 _ h2) (ob (zp eI v1.1) (ob (zu (id := 0) (r' := (.ret, zQf p0 p1 p2 v1 v6)) (znc (zni k p0 p1 p2 v1) k _ _ h4) rfl) ob0))) (by kernel_rfl))
 ·subst hh
  exact zt (g := z8g) g3_0 (zqc [(115, 1, 1, .c (dl eI v1.1 v1.2)), (115, 1, 2, .q (xi (v1.1.length : Int)))] [(115, 0, (.nor, zSf p0 p1 p2 v1 v6))] (ob (z0d k p1 _ h2) (ob (zp eI v1.1) (ob (zu (id := 0) (r' := (.nor, zSf p0 p1 p2 v1 v6)) (znc (zni k p0 p1 p2 v1) k _ _ h4) rfl) ob0))) (by kernel_rfl))
noncomputable def zQA (p0 : zj) (p1 : zt3) (p2 s1_9 : Int) : TM := [(0, (.d (.agg (zo p0)))), (1, (.d (.agg (aB 8 p1)))), (2, (xi p2)), (zsp 3), (zsp 4), (6, (xb false)), (11, (xb false)), (12, (.d (.agg [(.fn 112 [] []), (.fn 113 [] []), (.fn 114 [] []), (.fn 115 [] [])]))), (13, (xi s1_9))]
noncomputable def zEn (p0 : zj) (p1 : zt3) (p2 s1_9 : Int) : St := ⟨(zQA p0 p1 p2 s1_9), ⟨[(zc 3 (zo p0)), (zc 4 (aB 8 p1))], []⟩, []⟩
noncomputable def zQz (p0 : zj) (p1 : zt3) (p2 r : Int) : TM := [(0, (.d (.agg (zo p0)))), (1, (.d (.agg (aB 8 p1)))), (2, (xi p2)), (zsp 3), (zsp 4), (6, (xb false)), (11, (xb false)), (12, (.d (.agg [(.fn 112 [] []), (.fn 113 [] []), (.fn 114 [] []), (.fn 115 [] [])]))), (13, (xi r)), (14, (xb true)), (8, (.d (.fn 112 [] []))), (21, (xb true))]
noncomputable def zpg (p0 : zj) (p1 : zt3) (p2 r : Int) : St := ⟨(zQz p0 p1 p2 r), ⟨[(zc 3 (zo p0)), (zc 4 (aB 8 p1))], []⟩, []⟩
noncomputable def zsA (p0 : zj) (p1 : zt3) (p2 r : Int) : TM := [(0, (.d (.agg (zo p0)))), (1, (.d (.agg (aB 8 p1)))), (2, (xi p2)), (zsp 3), (zsp 4), (6, (xb false)), (11, (xb false)), (12, (.d (.agg [(.fn 112 [] []), (.fn 113 [] []), (.fn 114 [] []), (.fn 115 [] [])]))), (13, (xi r)), (14, (xb true)), (8, (.d (.fn 113 [] []))), (21, (xb true))]
noncomputable def zog (p0 : zj) (p1 : zt3) (p2 r : Int) : St := ⟨(zsA p0 p1 p2 r), ⟨[(zc 3 (zo p0)), (zc 4 (aB 8 p1))], []⟩, []⟩
noncomputable def zdA (p0 : zj) (p1 : zt3) (p2 r : Int) : TM := [(0, (.d (.agg (zo p0)))), (1, (.d (.agg (aB 8 p1)))), (2, (xi p2)), (zsp 3), (zsp 4), (6, (xb false)), (11, (xb false)), (12, (.d (.agg [(.fn 112 [] []), (.fn 113 [] []), (.fn 114 [] []), (.fn 115 [] [])]))), (13, (xi r)), (14, (xb true)), (8, (.d (.fn 114 [] []))), (21, (xb true))]
noncomputable def zqg (p0 : zj) (p1 : zt3) (p2 r : Int) : St := ⟨(zdA p0 p1 p2 r), ⟨[(zc 3 (zo p0)), (zc 4 (aB 8 p1))], []⟩, []⟩
noncomputable def zSA (p0 : zj) (p1 : zt3) (p2 r : Int) : TM := [(0, (.d (.agg (zo p0)))), (1, (.d (.agg (aB 8 p1)))), (2, (xi p2)), (zsp 3), (zsp 4), (6, (xb false)), (11, (xb false)), (12, (.d (.agg [(.fn 112 [] []), (.fn 113 [] []), (.fn 114 [] []), (.fn 115 [] [])]))), (13, (xi r)), (14, (xb true)), (8, (.d (.fn 115 [] []))), (21, (xb true))]
noncomputable def zsg (p0 : zj) (p1 : zt3) (p2 r : Int) : St := ⟨(zSA p0 p1 p2 r), ⟨[(zc 3 (zo p0)), (zc 4 (aB 8 p1))], []⟩, []⟩
noncomputable def zPz (p0 : zj) (p1 : zt3) (p2 r : Int) : TM := [(0, (.d (.agg (zo p0)))), (1, (.d (.agg (aB 8 p1)))), (2, (xi p2)), (zsp 3), (zsp 4), (6, (xb false)), (11, (xb false)), (12, (.d (.agg [(.fn 112 [] []), (.fn 113 [] []), (.fn 114 [] []), (.fn 115 [] [])]))), (13, (xi r)), (14, (xb false))]
noncomputable def zmg (p0 : zj) (p1 : zt3) (p2 r : Int) : St := ⟨(zPz p0 p1 p2 r), ⟨[(zc 3 (zo p0)), (zc 4 (aB 8 p1))], []⟩, []⟩
noncomputable def zFn (p0 : zj) (p1 : zt3) (p2 : Int) : (Int ⊕ (Int ⊕ (Int ⊕ (Int ⊕ Int)))) → Ex × St := Sum.elim (fun r => (.ret, zpg p0 p1 p2 r)) (Sum.elim (fun r => (.ret, zog p0 p1 p2 r)) (Sum.elim (fun r => (.ret, zqg p0 p1 p2 r)) (Sum.elim (fun r => (.ret, zsg p0 p1 p2 r)) (fun r => ((.exit 0), zmg p0 p1 p2 r)))))
theorem z7c (k : Nat) (p0 : zj) (p1 : zt3) (p2 s1_9 : Int) (x : Int ⊕ (Int ⊕ (Int ⊕ (Int ⊕ (Int ⊕ Int))))) (h : zXf k p0 p1 p2 s1_9 = some x) : zF TE 53 (blk TE 53 0) (fun s : Int => zEn p0 p1 p2 s) (zFn p0 p1 p2) s1_9 x := by
 unfold zXf at h
 refine zm h (fun h201 g1 => ?_) (fun h201 g1 => ?_)
 ·refine zm g1 (fun h202 g2 => ?_) (fun h202 g2 => ?_)
  ·refine zi g2 (fun v203 h204 g3 => ?_)
   refine zm g3 (fun h205 g4 => ?_) (fun h205 g4 => ?_)
   ·exact zqo [(53, 4, 0, .q (xb true)), (53, 5, 0, .q (.d (.fn 112 [] []))), (53, 6, 4, .c (db v203)), (53, 6, 5, .q (xb true))] [] g4 (ob (o_b h201) (ob (zln [(.fn 112 [] []), (.fn 113 [] []), (.fn 114 [] []), (.fn 115 [] [])] 4 1 false (j := 0) (eq_of_beq h202) (by decide)) (ob (zzj k p0 p1 p2 _ h204) (ob (o_b h205) ob0)))) (by kernel_rfl)
   ·exact zqn (w64 (s1_9 + 1)) [] [(53, 4, 0, .q (xb true)), (53, 5, 0, .q (.d (.fn 112 [] []))), (53, 6, 4, .c (db v203)), (53, 6, 5, .q (xb false))] [] g4 (ob (o_b h201) (ob (zln [(.fn 112 [] []), (.fn 113 [] []), (.fn 114 [] []), (.fn 115 [] [])] 4 1 false (j := 0) (eq_of_beq h202) (by decide)) (ob (zzj k p0 p1 p2 _ h204) (ob (o_b h205) ob0)))) (by kernel_rfl)
  ·refine zm g2 (fun h203 g3 => ?_) (fun h203 g3 => ?_)
   ·refine zi g3 (fun v204 h205 g4 => ?_)
    refine zm g4 (fun h206 g5 => ?_) (fun h206 g5 => ?_)
    ·exact zqo [(53, 4, 0, .q (xb true)), (53, 5, 0, .q (.d (.fn 113 [] []))), (53, 6, 4, .c (db v204)), (53, 6, 5, .q (xb true))] [] g5 (ob (o_b h201) (ob (zln [(.fn 112 [] []), (.fn 113 [] []), (.fn 114 [] []), (.fn 115 [] [])] 4 1 false (j := 1) (eq_of_beq h203) (by decide)) (ob (zUj k p0 p1 p2 _ h205) (ob (o_b h206) ob0)))) (by kernel_rfl)
    ·exact zqn (w64 (s1_9 + 1)) [] [(53, 4, 0, .q (xb true)), (53, 5, 0, .q (.d (.fn 113 [] []))), (53, 6, 4, .c (db v204)), (53, 6, 5, .q (xb false))] [] g5 (ob (o_b h201) (ob (zln [(.fn 112 [] []), (.fn 113 [] []), (.fn 114 [] []), (.fn 115 [] [])] 4 1 false (j := 1) (eq_of_beq h203) (by decide)) (ob (zUj k p0 p1 p2 _ h205) (ob (o_b h206) ob0)))) (by kernel_rfl)
   ·refine zm g3 (fun h204 g4 => ?_) (fun h204 g4 => ?_)
    ·refine zi g4 (fun v205 h206 g5 => ?_)
     refine zm g5 (fun h207 g6 => ?_) (fun h207 g6 => ?_)
     ·exact zqo [(53, 4, 0, .q (xb true)), (53, 5, 0, .q (.d (.fn 114 [] []))), (53, 6, 4, .c (db v205)), (53, 6, 5, .q (xb true))] [] g6 (ob (o_b h201) (ob (zln [(.fn 112 [] []), (.fn 113 [] []), (.fn 114 [] []), (.fn 115 [] [])] 4 1 false (j := 2) (eq_of_beq h204) (by decide)) (ob (z7i k p0 p1 p2 _ h206) (ob (o_b h207) ob0)))) (by kernel_rfl)
     ·exact zqn (w64 (s1_9 + 1)) [] [(53, 4, 0, .q (xb true)), (53, 5, 0, .q (.d (.fn 114 [] []))), (53, 6, 4, .c (db v205)), (53, 6, 5, .q (xb false))] [] g6 (ob (o_b h201) (ob (zln [(.fn 112 [] []), (.fn 113 [] []), (.fn 114 [] []), (.fn 115 [] [])] 4 1 false (j := 2) (eq_of_beq h204) (by decide)) (ob (z7i k p0 p1 p2 _ h206) (ob (o_b h207) ob0)))) (by kernel_rfl)
    ·refine zm g4 (fun h205 g5 => ?_) (fun h205 g5 => ?_)
     ·refine zi g5 (fun v206 h207 g6 => ?_)
      refine zm g6 (fun h208 g7 => ?_) (fun h208 g7 => ?_)
      ·exact zqo [(53, 4, 0, .q (xb true)), (53, 5, 0, .q (.d (.fn 115 [] []))), (53, 6, 4, .c (db v206)), (53, 6, 5, .q (xb true))] [] g7 (ob (o_b h201) (ob (zln [(.fn 112 [] []), (.fn 113 [] []), (.fn 114 [] []), (.fn 115 [] [])] 4 1 false (j := 3) (eq_of_beq h205) (by decide)) (ob (z8i k p0 p1 p2 _ h207) (ob (o_b h208) ob0)))) (by kernel_rfl)
      ·exact zqn (w64 (s1_9 + 1)) [] [(53, 4, 0, .q (xb true)), (53, 5, 0, .q (.d (.fn 115 [] []))), (53, 6, 4, .c (db v206)), (53, 6, 5, .q (xb false))] [] g7 (ob (o_b h201) (ob (zln [(.fn 112 [] []), (.fn 113 [] []), (.fn 114 [] []), (.fn 115 [] [])] 4 1 false (j := 3) (eq_of_beq h205) (by decide)) (ob (z8i k p0 p1 p2 _ h207) (ob (o_b h208) ob0)))) (by kernel_rfl)
     ·cases g5
 ·exact zqo [(53, 4, 0, .q (xb false))] [] g1 (ob (o_b h201) ob0) (by kernel_rfl)
theorem zic (k : Nat) (p0 : zj) (p1 : zt3) (p2 : Int) (r : Bool) (h : zob k p0 p1 p2 = some r) : zx TE (ev TE) 53 [(.agg (zo p0)), (.agg (aB 8 p1)), (di p2)] = some (zwc r) := by
 unfold zob at h
 refine zi h (fun v1 h2 g1 => ?_)
 refine zm g1 (fun h3 g2 => ?_) (fun h3 g2 => ?_)
 ·exact zt (g := zwc) g2 (zqc [(53, 1, 1, .c (.agg (aB 8 v1))), (53, 1, 2, .q (xb true))] [] (ob (zId k _ h2) (ob (o_b h3) ob0)) (by kernel_rfl))
 ·refine zi g2 (fun v4 h5 g3 => ?_)
  refine zJb g3 (fun v7 hh g4_0 => ?_) (fun w3_0 hh g4_0 => ?_)
  ·subst hh
   exact zt (g := zwc) g4_0 (zqc [(53, 1, 1, .c (.agg (aB 8 v1))), (53, 1, 2, .q (xb false))] [(53, 0, (.ret, zpg p0 p1 p2 v7))] (ob (zId k _ h2) (ob (o_b h3) (ob (zu (id := 0) (r' := (.ret, zpg p0 p1 p2 v7)) (znc (z7c k p0 p1 p2) k _ _ h5) rfl) ob0))) (by kernel_rfl))
  ·subst hh
   refine zJb g4_0 (fun v7 hh g4_1 => ?_) (fun w3_1 hh g4_1 => ?_)
   ·subst hh
    exact zt (g := zwc) g4_1 (zqc [(53, 1, 1, .c (.agg (aB 8 v1))), (53, 1, 2, .q (xb false))] [(53, 0, (.ret, zog p0 p1 p2 v7))] (ob (zId k _ h2) (ob (o_b h3) (ob (zu (id := 0) (r' := (.ret, zog p0 p1 p2 v7)) (znc (z7c k p0 p1 p2) k _ _ h5) rfl) ob0))) (by kernel_rfl))
   ·subst hh
    refine zJb g4_1 (fun v7 hh g4_2 => ?_) (fun w3_2 hh g4_2 => ?_)
    ·subst hh
     exact zt (g := zwc) g4_2 (zqc [(53, 1, 1, .c (.agg (aB 8 v1))), (53, 1, 2, .q (xb false))] [(53, 0, (.ret, zqg p0 p1 p2 v7))] (ob (zId k _ h2) (ob (o_b h3) (ob (zu (id := 0) (r' := (.ret, zqg p0 p1 p2 v7)) (znc (z7c k p0 p1 p2) k _ _ h5) rfl) ob0))) (by kernel_rfl))
    ·subst hh
     refine zJb g4_2 (fun v7 hh g4_3 => ?_) (fun v7 hh g4_3 => ?_)
     ·subst hh
      exact zt (g := zwc) g4_3 (zqc [(53, 1, 1, .c (.agg (aB 8 v1))), (53, 1, 2, .q (xb false))] [(53, 0, (.ret, zsg p0 p1 p2 v7))] (ob (zId k _ h2) (ob (o_b h3) (ob (zu (id := 0) (r' := (.ret, zsg p0 p1 p2 v7)) (znc (z7c k p0 p1 p2) k _ _ h5) rfl) ob0))) (by kernel_rfl))
     ·subst hh
      exact zt (g := zwc) g4_3 (zqc [(53, 1, 1, .c (.agg (aB 8 v1))), (53, 1, 2, .q (xb false))] [(53, 0, (.nor, zmg p0 p1 p2 v7))] (ob (zId k _ h2) (ob (o_b h3) (ob (zu (id := 0) (r' := (.nor, zmg p0 p1 p2 v7)) (znc (z7c k p0 p1 p2) k _ _ h5) rfl) ob0))) (by kernel_rfl))
noncomputable def zJA (p0 : za) (p1 : (SL Int)) (v1 s1_9 s1_12 : Int) : TM := [(0, (.d (.agg (zb p0)))), (1, (.d (dl eI p1.1 p1.2))), (zsp 2), (4, (xb false)), (5, (xi 0)), (6, (xi v1)), (17, (xb false)), (7, (xi s1_9)), (19, (.d (dl eI p1.1 p1.2))), (20, (xi (p1.1.length : Int))), (21, (xi s1_12))]
noncomputable def z5o (p0 : za) (p1 : (SL Int)) (v1 s1_9 s1_12 : Int) : St := ⟨(zJA p0 p1 v1 s1_9 s1_12), ⟨[(zc 2 (zb p0))], []⟩, []⟩
noncomputable def zgA (p0 : za) (p1 : (SL Int)) (v1 : Int) (r : (Int × Int × Int)) : TM := [(0, (.d (.agg (zb p0)))), (1, (.d (dl eI p1.1 p1.2))), (zsp 2), (4, (xb false)), (5, (xi 81)), (6, (xi v1)), (17, (xb false)), (7, (xi r.1)), (19, (.d (dl eI p1.1 p1.2))), (20, (xi (p1.1.length : Int))), (21, (xi r.2.1)), (22, (xb true)), (9, (xi r.2.2)), (33, (xb true))]
noncomputable def zJh (p0 : za) (p1 : (SL Int)) (v1 : Int) (r : (Int × Int × Int)) : St := ⟨(zgA p0 p1 v1 r), ⟨[(zc 2 (zb p0))], []⟩, []⟩
noncomputable def z1z (p0 : za) (p1 : (SL Int)) (v1 : Int) (r : zt0) : TM := [(0, (.d (.agg (zb p0)))), (1, (.d (dl eI p1.1 p1.2))), (zsp 2), (4, (xb false)), (5, (xi 0)), (6, (xi v1)), (17, (xb false)), (7, (xi r.1)), (19, (.d (dl eI p1.1 p1.2))), (20, (xi (p1.1.length : Int))), (21, (xi r.2)), (22, (xb false))]
noncomputable def zlc (p0 : za) (p1 : (SL Int)) (v1 : Int) (r : zt0) : St := ⟨(z1z p0 p1 v1 r), ⟨[(zc 2 (zb p0))], []⟩, []⟩
noncomputable def zXo (p0 : za) (p1 : (SL Int)) (v1 : Int) : ((Int × Int × Int) ⊕ (Int × Int)) → Ex × St := Sum.elim (fun r => (.ret, zJh p0 p1 v1 r)) (fun r => ((.exit 0), zlc p0 p1 v1 r))
theorem zWf (k : Nat) (p0 : za) (p1 : (SL Int)) (v1 s1_9 s1_12 : Int) (x : (Int × Int) ⊕ ((Int × Int × Int) ⊕ (Int × Int))) (h : zUi k p0 p1 v1 s1_9 s1_12 = some x) : zF TE 14 (blk TE 14 0) (fun s : (Int × Int) => z5o p0 p1 v1 s.1 s.2) (zXo p0 p1 v1) (s1_9, s1_12) x := by
 unfold zUi at h
 refine zm h (fun h201 g1 => ?_) (fun h201 g1 => ?_)
 ·refine zi g1 (fun v202 h203 g2 => ?_)
  refine zi g2 (fun v204 h205 g3 => ?_)
  refine zm g3 (fun h206 g4 => ?_) (fun h206 g4 => ?_)
  ·exact zqo [(14, 6, 0, .q (xb true)), (14, 7, 0, .q (.d (.pin [(di v202)]))), (14, 8, 5, .q (xi (p0.Letters.1.length : Int))), (14, 8, 7, .c (db v204)), (14, 8, 8, .q (xb true))] [] g4 (ob (o_b h201) (ob (o_ia (e := eI) 1 h203 rfl) (ob (zp zd p0.Letters.1) (ob (zw k v202 (w64 (s1_9 + 1)) (w64 ((p0.Letters.1.length : Int) - 1)) _ h205) (ob (o_b h206) ob0))))) (by kernel_rfl)
  ·exact zqn (v202, (w64 (s1_12 + 1))) [] [(14, 6, 0, .q (xb true)), (14, 7, 0, .q (.d (.pin [(di v202)]))), (14, 8, 5, .q (xi (p0.Letters.1.length : Int))), (14, 8, 7, .c (db v204)), (14, 8, 8, .q (xb false))] [] g4 (ob (o_b h201) (ob (o_ia (e := eI) 1 h203 rfl) (ob (zp zd p0.Letters.1) (ob (zw k v202 (w64 (s1_9 + 1)) (w64 ((p0.Letters.1.length : Int) - 1)) _ h205) (ob (o_b h206) ob0))))) (by kernel_rfl)
 ·exact zqo [(14, 6, 0, .q (xb false))] [] g1 (ob (o_b h201) ob0) (by kernel_rfl)
noncomputable def zTA (p0 : za) (p1 : (SL Int)) (v1 : Int) (v7 : zt0) (s2_17 : Int) : TM := [(0, (.d (.agg (zb p0)))), (1, (.d (dl eI p1.1 p1.2))), (zsp 2), (4, (xb false)), (5, (xi 0)), (6, (xi v1)), (17, (xb false)), (7, (xi v7.1)), (19, (.d (dl eI p1.1 p1.2))), (20, (xi (p1.1.length : Int))), (21, (xi v7.2)), (22, (xb false)), (38, (xb false)), (zsp 10), (zsp 11), (41, (.d (dl eI p1.1 p1.2))), (42, (xi (p1.1.length : Int))), (43, (xi s2_17))]
noncomputable def z7o (p0 : za) (p1 : (SL Int)) (v1 : Int) (v7 : zt0) (v9 : zj) (s2_17 : Int) (s2_27 : zt3) : St := ⟨(zTA p0 p1 v1 v7 s2_17), ⟨[(zc 2 (zb p0)), (zc 10 (zo v9)), (zc 11 (aB 8 s2_27))], []⟩, []⟩
noncomputable def zOA (p0 : za) (p1 : (SL Int)) (v1 : Int) (v7 : zt0) (r : (Int × Int × (Nat → Bool))) : TM := [(0, (.d (.agg (zb p0)))), (1, (.d (dl eI p1.1 p1.2))), (zsp 2), (4, (xb false)), (5, (xi 0)), (6, (xi v1)), (17, (xb false)), (7, (xi v7.1)), (19, (.d (dl eI p1.1 p1.2))), (20, (xi (p1.1.length : Int))), (21, (xi v7.2)), (22, (xb false)), (38, (xb false)), (zsp 10), (zsp 11), (41, (.d (dl eI p1.1 p1.2))), (42, (xi (p1.1.length : Int))), (43, (xi r.1)), (44, (xb true)), (13, (xi r.2.1)), (51, (xb true))]
noncomputable def zAh (p0 : za) (p1 : (SL Int)) (v1 : Int) (v7 : zt0) (v9 : zj) (r : (Int × Int × (Nat → Bool))) : St := ⟨(zOA p0 p1 v1 v7 r), ⟨[(zc 2 (zb p0)), (zc 10 (zo v9)), (zc 11 (aB 8 r.2.2))], []⟩, []⟩
noncomputable def zNz (p0 : za) (p1 : (SL Int)) (v1 : Int) (v7 : zt0) (r : (Int × (Nat → Bool))) : TM := [(0, (.d (.agg (zb p0)))), (1, (.d (dl eI p1.1 p1.2))), (zsp 2), (4, (xb false)), (5, (xi 0)), (6, (xi v1)), (17, (xb false)), (7, (xi v7.1)), (19, (.d (dl eI p1.1 p1.2))), (20, (xi (p1.1.length : Int))), (21, (xi v7.2)), (22, (xb false)), (38, (xb false)), (zsp 10), (zsp 11), (41, (.d (dl eI p1.1 p1.2))), (42, (xi (p1.1.length : Int))), (43, (xi r.1)), (44, (xb false))]
noncomputable def zBh (p0 : za) (p1 : (SL Int)) (v1 : Int) (v7 : zt0) (v9 : zj) (r : (Int × (Nat → Bool))) : St := ⟨(zNz p0 p1 v1 v7 r), ⟨[(zc 2 (zb p0)), (zc 10 (zo v9)), (zc 11 (aB 8 r.2))], []⟩, []⟩
noncomputable def z3o (p0 : za) (p1 : (SL Int)) (v1 : Int) (v7 : zt0) (v9 : zj) : ((Int × Int × (Nat → Bool)) ⊕ (Int × (Nat → Bool))) → Ex × St := Sum.elim (fun r => (.ret, zAh p0 p1 v1 v7 v9 r)) (fun r => ((.exit 2), zBh p0 p1 v1 v7 v9 r))
theorem z0j (k : Nat) (p0 : za) (p1 : (SL Int)) (v1 : Int) (v7 : zt0) (v9 : zj) (s2_17 : Int) (s2_27 : zt3) (x : (Int × (Nat → Bool)) ⊕ ((Int × Int × (Nat → Bool)) ⊕ (Int × (Nat → Bool)))) (h : zVi k p0 p1 v1 v7 v9 s2_17 s2_27 = some x) : zF TE 14 (blk TE 14 2) (fun s : (Int × (Nat → Bool)) => z7o p0 p1 v1 v7 v9 s.1 s.2) (z3o p0 p1 v1 v7 v9) (s2_17, s2_27) x := by
 unfold zVi at h
 refine zm h (fun h301 g1 => ?_) (fun h301 g1 => ?_)
 ·refine zi g1 (fun v302 h303 g2 => ?_)
  refine zi g2 (fun v304 h305 g3 => ?_)
  refine zm g3 (fun h306 g4 => ?_) (fun h306 g4 => ?_)
  ·exact zqo [(14, 17, 0, .q (xb true)), (14, 18, 0, .q (.d (.pin [(di v302)]))), (14, 19, 3, .c (db v304)), (14, 19, 4, .q (xb true))] [] g4 (ob (o_b h301) (ob (o_ia (e := eI) 1 h303 rfl) (ob (zic k v9 s2_27 v302 _ h305) (ob (o_b h306) ob0)))) (by kernel_rfl)
  ·refine zib g4 (fun h307 g5 => ?_)
   exact zqn ((w64 (s2_17 + 1)), (upd s2_27 v302.toNat true)) [] [(14, 17, 0, .q (xb true)), (14, 18, 0, .q (.d (.pin [(di v302)]))), (14, 19, 3, .c (db v304)), (14, 19, 4, .q (xb false)), (14, 21, 1, .q (.ptr 0 11 (v302.toNat))), (14, 21, 2, .st ((aB 8 (upd s2_27 v302.toNat true)).map .d))] [] g5 (ob (o_b h301) (ob (o_ia (e := eI) 1 h303 rfl) (ob (zic k v9 s2_27 v302 _ h305) (ob (o_b h306) (ob (z5i (m := 8) 0 11 0 1 v302.toNat h307 (by omega)) (ob (z9t 8 s2_27 v302.toNat true (by have := h307; simp only [Bool.and_eq_true, decide_eq_true_eq] at this; omega)) ob0)))))) (by kernel_rfl)
 ·exact zqo [(14, 17, 0, .q (xb false))] [] g1 (ob (o_b h301) ob0) (by kernel_rfl)
theorem zfb (k : Nat) (p0 : za) (p1 : (SL Int)) (r : zt1) (h : zLk k p0 p1 = some r) : zx TE (ev TE) 14 [(.agg (zb p0)), (dl eI p1.1 p1.2)] = some (zJe r) := by
 unfold zLk at h
 refine zi h (fun v1 h2 g1 => ?_)
 refine zm g1 (fun h3 g2 => ?_) (fun h3 g2 => ?_)
 ·exact zt (g := zJe) g2 (zqc [(14, 1, 1, .c (di v1)), (14, 2, 1, .q (xb true))] [] (ob (zA k p0 _ h2) (ob (o_b h3) ob0)) (by kernel_rfl))
 ·refine zi g2 (fun v4 h5 g3 => ?_)
  refine zJb g3 (fun v7 hh g4_0 => ?_) (fun v7 hh g4_0 => ?_)
  ·subst hh
   exact zt (g := zJe) g4_0 (zqc [(14, 1, 1, .c (di v1)), (14, 2, 1, .q (xb false)), (14, 5, 1, .q (xi (p1.1.length : Int)))] [(14, 0, (.ret, zJh p0 p1 v1 v7))] (ob (zA k p0 _ h2) (ob (o_b h3) (ob (zp eI p1.1) (ob (zu (id := 0) (r' := (.ret, zJh p0 p1 v1 v7)) (zQb (zWf k p0 p1 v1) k _ _ h5) rfl) ob0)))) (by kernel_rfl))
  ·subst hh
   refine zm g4_0 (fun h8 g5 => ?_) (fun h8 g5 => ?_)
   ·exact zt (g := zJe) g5 (zqc [(14, 1, 1, .c (di v1)), (14, 2, 1, .q (xb false)), (14, 5, 1, .q (xi (p1.1.length : Int))), (14, 12, 1, .q (xi (p1.1.length : Int))), (14, 12, 2, .q (xb true))] [(14, 0, (.nor, zlc p0 p1 v1 v7))] (ob (zA k p0 _ h2) (ob (o_b h3) (ob (zp eI p1.1) (ob (zu (id := 0) (r' := (.nor, zlc p0 p1 v1 v7)) (zQb (zWf k p0 p1 v1) k _ _ h5) rfl) (ob (zp eI p1.1) (ob (o_b h8) ob0)))))) (by kernel_rfl))
   ·refine zi g5 (fun v9 h10 g6 => ?_)
    refine zi g6 (fun v11 h12 g7 => ?_)
    refine zJb g7 (fun v14 hh g8_0 => ?_) (fun v14 hh g8_0 => ?_)
    ·subst hh
     exact zt (g := zJe) g8_0 (zqc [(14, 1, 1, .c (di v1)), (14, 2, 1, .q (xb false)), (14, 5, 1, .q (xi (p1.1.length : Int))), (14, 12, 1, .q (xi (p1.1.length : Int))), (14, 12, 2, .q (xb false)), (14, 14, 1, .c (.agg (zo v9))), (14, 16, 1, .q (xi (p1.1.length : Int)))] [(14, 0, (.nor, zlc p0 p1 v1 v7)), (14, 2, (.ret, zAh p0 p1 v1 v7 v9 v14))] (ob (zA k p0 _ h2) (ob (o_b h3) (ob (zp eI p1.1) (ob (zu (id := 0) (r' := (.nor, zlc p0 p1 v1 v7)) (zQb (zWf k p0 p1 v1) k _ _ h5) rfl) (ob (zp eI p1.1) (ob (o_b h8) (ob (zsb k p0 _ h10) (ob (zp eI p1.1) (ob (zu (id := 2) (r' := (.ret, zAh p0 p1 v1 v7 v9 v14)) (zQb (z0j k p0 p1 v1 v7 v9) k _ _ h12) rfl) ob0))))))))) (by kernel_rfl))
    ·subst hh
     exact zt (g := zJe) g8_0 (zqc [(14, 1, 1, .c (di v1)), (14, 2, 1, .q (xb false)), (14, 5, 1, .q (xi (p1.1.length : Int))), (14, 12, 1, .q (xi (p1.1.length : Int))), (14, 12, 2, .q (xb false)), (14, 14, 1, .c (.agg (zo v9))), (14, 16, 1, .q (xi (p1.1.length : Int)))] [(14, 0, (.nor, zlc p0 p1 v1 v7)), (14, 2, (.nor, zBh p0 p1 v1 v7 v9 v14))] (ob (zA k p0 _ h2) (ob (o_b h3) (ob (zp eI p1.1) (ob (zu (id := 0) (r' := (.nor, zlc p0 p1 v1 v7)) (zQb (zWf k p0 p1 v1) k _ _ h5) rfl) (ob (zp eI p1.1) (ob (o_b h8) (ob (zsb k p0 _ h10) (ob (zp eI p1.1) (ob (zu (id := 2) (r' := (.nor, zBh p0 p1 v1 v7 v9 v14)) (zQb (z0j k p0 p1 v1 v7 v9) k _ _ h12) rfl) ob0))))))))) (by kernel_rfl))
noncomputable def z8z (p0 : (SL Int)) (s1_2 s1_5 : Int) : TM := [(0, (.d (dl eI p0.1 p0.2))), (2, (xi 0)), (3, (xi s1_2)), (6, (.d (dl eI p0.1 p0.2))), (7, (xi (p0.1.length : Int))), (8, (xi s1_5))]
noncomputable def zEp (p0 : (SL Int)) (s1_2 s1_5 : Int) : St := ⟨(z8z p0 s1_2 s1_5), ⟨[], []⟩, []⟩
noncomputable def zyA (p0 : (SL Int)) (r : zt0) : TM := [(0, (.d (dl eI p0.1 p0.2))), (2, (xi 0)), (3, (xi r.1)), (6, (.d (dl eI p0.1 p0.2))), (7, (xi (p0.1.length : Int))), (8, (xi r.2)), (9, (xb false))]
noncomputable def z6h (p0 : (SL Int)) (r : zt0) : St := ⟨(zyA p0 r), ⟨[], []⟩, []⟩
noncomputable def zAp (p0 : (SL Int)) : (Int × Int) → Ex × St := fun r => ((.exit 0), z6h p0 r)
theorem zcp (k : Nat) (p0 : (SL Int)) (s1_2 s1_5 : Int) (x : (Int × Int) ⊕ (Int × Int)) (h : zhg k p0 s1_2 s1_5 = some x) : zF TE 61 (blk TE 61 0) (fun s : (Int × Int) => zEp p0 s.1 s.2) (zAp p0) (s1_2, s1_5) x := by
 unfold zhg at h
 refine zm h (fun h201 g1 => ?_) (fun h201 g1 => ?_)
 ·refine zi g1 (fun v202 h203 g2 => ?_)
  refine zi g2 (fun v204 h205 g3 => ?_)
  exact zqn (v204, (w64 (s1_5 + 1))) [] [(61, 3, 0, .q (xb true)), (61, 4, 0, .q (.d (.pin [(di v202)]))), (61, 5, 4, .c (di v204))] [] g3 (ob (o_b h201) (ob (o_ia (e := eI) 1 h203 rfl) (ob (zae k s1_2 ([(w64 (v202 + 1))], .ex) _ h205) ob0))) (by kernel_rfl)
 ·exact zqo [(61, 3, 0, .q (xb false))] [] g1 (ob (o_b h201) ob0) (by kernel_rfl)
theorem zW (k : Nat) (p0 : (SL Int)) (r : Int) (h : zEb k p0 = some r) : zx TE (ev TE) 61 [(dl eI p0.1 p0.2)] = some (zjn r) := by
 unfold zEb at h
 refine zi h (fun v1 h2 g1 => ?_)
 exact zt (g := zjn) g1 (zqc [(61, 2, 1, .q (xi (p0.1.length : Int)))] [(61, 0, (.nor, z6h p0 v1))] (ob (zp eI p0.1) (ob (zu (id := 0) (r' := (.nor, z6h p0 v1)) (zQb (zcp k p0) k _ _ h2) rfl) ob0)) (by kernel_rfl))
noncomputable def zKA (p0 : zj) (p1 : (SL Int)) (p2 p3 s1_11 v402 : Int) (r : Bool) : TM := [(0, (.d (.agg (zo p0)))), (1, (.d (dl eI p1.1 p1.2))), (2, (xi p2)), (3, (xi p3)), (zsp 4), (8, (xb false)), (12, (.d (dl eI p1.1 p1.2))), (13, (xi (p1.1.length : Int))), (14, (xi s1_11)), (15, (xb true)), (9, (xi s1_11)), (10, (xi v402)), (11, (xb r))]
noncomputable def zSc (p0 : zj) (p1 : (SL Int)) (p2 p3 s1_11 v402 : Int) (r : Bool) : St := ⟨(zKA p0 p1 p2 p3 s1_11 v402 r), ⟨[(zc 4 (zo p0))], []⟩, []⟩
noncomputable def zPv (p0 : zj) (p1 : (SL Int)) (p2 p3 s1_11 v402 : Int) : TM := [(0, (.d (.agg (zo p0)))), (1, (.d (dl eI p1.1 p1.2))), (2, (xi p2)), (3, (xi p3)), (zsp 4), (8, (xb false)), (12, (.d (dl eI p1.1 p1.2))), (13, (xi (p1.1.length : Int))), (14, (xi s1_11)), (15, (xb true)), (9, (xi s1_11)), (10, (xi v402))]
theorem zbi (k : Nat) (p0 : zj) (p1 : (SL Int)) (p2 p3 s1_11 v402 : Int) (r : Bool) (h : zRe k p0 p1 p2 p3 s1_11 v402 = some r) : ev TE 85 (rgn TE 85 4) ⟨(zPv p0 p1 p2 p3 s1_11 v402), ⟨[(zc 4 (zo p0))], []⟩, []⟩ = some (.nor, zSc p0 p1 p2 p3 s1_11 v402 r) := by
 unfold zRe at h
 refine zi h (fun v501 h502 g1 => ?_)
 refine zm g1 (fun h503 g2 => ?_) (fun h503 g2 => ?_)
 ·refine zi g2 (fun v504 h505 g3 => ?_)
  refine zi g3 (fun v506 h507 g4 => ?_)
  exact zq (g := fun r => (Ex.nor, zSc p0 p1 p2 p3 s1_11 v402 r)) g4 (zqe [(85, 4, 4, .q (.d (.pin (zd v501)))), (85, 4, 8, .q (xb true)), (85, 4, 13, .q (.d (.pin (zd v504)))), (85, 4, 20, .q (.d (.pin (zd v506))))] [] (ob (o_ia (e := zd) 6 h502 rfl) (ob (o_b h503) (ob (o_ia (e := zd) 6 h505 rfl) (ob (o_ia (e := zd) 6 h507 rfl) ob0)))) (by kernel_rfl))
 ·exact zq (g := fun r => (Ex.nor, zSc p0 p1 p2 p3 s1_11 v402 r)) g2 (zqe [(85, 4, 4, .q (.d (.pin (zd v501)))), (85, 4, 8, .q (xb false))] [] (ob (o_ia (e := zd) 6 h502 rfl) (ob (o_b h503) ob0)) (by kernel_rfl))
noncomputable def zYc (p0 : zj) (p1 : (SL Int)) (p2 p3 s1_11 v402 : Int) (v404 r : Bool) : St := ⟨(zPv p0 p1 p2 p3 s1_11 v402 ++ [(11, (xb v404)), (49, (xb r))]), ⟨[(zc 4 (zo p0))], []⟩, []⟩
theorem z9h (k : Nat) (p0 : zj) (p1 : (SL Int)) (p2 p3 s1_11 v402 : Int) (v404 r : Bool) (h : zMe k p0 p1 p2 p3 s1_11 v402 v404 = some r) : ev TE 85 (rgn TE 85 5) ⟨(zPv p0 p1 p2 p3 s1_11 v402 ++ [(11, (xb v404))]), ⟨[(zc 4 (zo p0))], []⟩, []⟩ = some (.nor, zYc p0 p1 p2 p3 s1_11 v402 v404 r) := by
 unfold zMe at h
 refine zm h (fun h601 g1 => ?_) (fun h601 g1 => ?_)
 ·exact zq (g := fun r => (Ex.nor, zYc p0 p1 p2 p3 s1_11 v402 v404 r)) g1 (zqe [(85, 5, 1, .q (xb true))] [] (ob (o_b h601) ob0) (by kernel_rfl))
 ·exact zq (g := fun r => (Ex.nor, zYc p0 p1 p2 p3 s1_11 v402 v404 r)) g1 (zqe [(85, 5, 1, .q (xb false))] [] (ob (o_b h601) ob0) (by kernel_rfl))
noncomputable def zcA (p0 : zj) (p1 : (SL Int)) (p2 p3 s1_11 : Int) : TM := [(0, (.d (.agg (zo p0)))), (1, (.d (dl eI p1.1 p1.2))), (2, (xi p2)), (3, (xi p3)), (zsp 4), (8, (xb false)), (12, (.d (dl eI p1.1 p1.2))), (13, (xi (p1.1.length : Int))), (14, (xi s1_11))]
noncomputable def zym (p0 : zj) (p1 : (SL Int)) (p2 p3 s1_11 : Int) : St := ⟨(zcA p0 p1 p2 p3 s1_11), ⟨[(zc 4 (zo p0))], []⟩, []⟩
noncomputable def zRz (p0 : zj) (p1 : (SL Int)) (p2 p3 : Int) (r : (Int × Int × Bool)) : TM := [(0, (.d (.agg (zo p0)))), (1, (.d (dl eI p1.1 p1.2))), (2, (xi p2)), (3, (xi p3)), (zsp 4), (8, (xb false)), (12, (.d (dl eI p1.1 p1.2))), (13, (xi (p1.1.length : Int))), (14, (xi r.1)), (15, (xb true)), (9, (xi r.1)), (10, (xi r.2.1)), (11, (xb r.2.2)), (49, (xb true))]
noncomputable def zOf (p0 : zj) (p1 : (SL Int)) (p2 p3 : Int) (r : (Int × Int × Bool)) : St := ⟨(zRz p0 p1 p2 p3 r), ⟨[(zc 4 (zo p0))], []⟩, []⟩
noncomputable def ziA (p0 : zj) (p1 : (SL Int)) (p2 p3 r : Int) : TM := [(0, (.d (.agg (zo p0)))), (1, (.d (dl eI p1.1 p1.2))), (2, (xi p2)), (3, (xi p3)), (zsp 4), (8, (xb false)), (12, (.d (dl eI p1.1 p1.2))), (13, (xi (p1.1.length : Int))), (14, (xi r)), (15, (xb false))]
noncomputable def zPf (p0 : zj) (p1 : (SL Int)) (p2 p3 r : Int) : St := ⟨(ziA p0 p1 p2 p3 r), ⟨[(zc 4 (zo p0))], []⟩, []⟩
noncomputable def zWm (p0 : zj) (p1 : (SL Int)) (p2 p3 : Int) : ((Int × Int × Bool) ⊕ Int) → Ex × St := Sum.elim (fun r => (.ret, zOf p0 p1 p2 p3 r)) (fun r => ((.exit 0), zPf p0 p1 p2 p3 r))
theorem zei (k : Nat) (p0 : zj) (p1 : (SL Int)) (p2 p3 s1_11 : Int) (x : Int ⊕ ((Int × Int × Bool) ⊕ Int)) (h : zzd k p0 p1 p2 p3 s1_11 = some x) : zF TE 85 (blk TE 85 0) (fun s : Int => zym p0 p1 p2 p3 s) (zWm p0 p1 p2 p3) s1_11 x := by
 unfold zzd at h
 refine zm h (fun h401 g1 => ?_) (fun h401 g1 => ?_)
 ·refine zi g1 (fun v402 h403 g2 => ?_)
  refine zi g2 (fun v404 h405 g3 => ?_)
  refine zi g3 (fun v406 h407 g4 => ?_)
  refine zm g4 (fun h408 g5 => ?_) (fun h408 g5 => ?_)
  ·subst h408
   exact zqo [(85, 2, 0, .q (xb true)), (85, 3, 1, .q (.d (.pin [(di v402)])))] [(85, 1000004, (.nor, zSc p0 p1 p2 p3 s1_11 v402 v404)), (85, 1000005, (.nor, zYc p0 p1 p2 p3 s1_11 v402 v404 true))] g5 (ob (o_b h401) (ob (o_ia (e := eI) 1 h403 rfl) (ob (zbi k p0 p1 p2 p3 s1_11 v402 _ h405) (ob (z9h k p0 p1 p2 p3 s1_11 v402 v404 _ h407) ob0)))) (by kernel_rfl)
  ·subst h408
   exact zqn (w64 (s1_11 + 1)) [] [(85, 2, 0, .q (xb true)), (85, 3, 1, .q (.d (.pin [(di v402)])))] [(85, 1000004, (.nor, zSc p0 p1 p2 p3 s1_11 v402 v404)), (85, 1000005, (.nor, zYc p0 p1 p2 p3 s1_11 v402 v404 false))] g5 (ob (o_b h401) (ob (o_ia (e := eI) 1 h403 rfl) (ob (zbi k p0 p1 p2 p3 s1_11 v402 _ h405) (ob (z9h k p0 p1 p2 p3 s1_11 v402 v404 _ h407) ob0)))) (by kernel_rfl)
 ·exact zqo [(85, 2, 0, .q (xb false))] [] g1 (ob (o_b h401) ob0) (by kernel_rfl)
theorem zZ (k : Nat) (p0 : zj) (p1 : (SL Int)) (p2 p3 : Int) (r : Bool) (h : zkb k p0 p1 p2 p3 = some r) : zx TE (ev TE) 85 [(.agg (zo p0)), (dl eI p1.1 p1.2), (di p2), (di p3)] = some (z7g r) := by
 unfold zkb at h
 refine zi h (fun v1 h2 g1 => ?_)
 refine zJb g1 (fun v4 hh g2_0 => ?_) (fun v4 hh g2_0 => ?_)
 ·subst hh
  exact zt (g := z7g) g2_0 (zqc [(85, 1, 1, .q (xi (p1.1.length : Int)))] [(85, 0, (.ret, zOf p0 p1 p2 p3 v4))] (ob (zp eI p1.1) (ob (zu (id := 0) (r' := (.ret, zOf p0 p1 p2 p3 v4)) (znc (zei k p0 p1 p2 p3) k _ _ h2) rfl) ob0)) (by kernel_rfl))
 ·subst hh
  exact zt (g := z7g) g2_0 (zqc [(85, 1, 1, .q (xi (p1.1.length : Int)))] [(85, 0, (.nor, zPf p0 p1 p2 p3 v4))] (ob (zp eI p1.1) (ob (zu (id := 0) (r' := (.nor, zPf p0 p1 p2 p3 v4)) (znc (zei k p0 p1 p2 p3) k _ _ h2) rfl) ob0)) (by kernel_rfl))
noncomputable def zWz (p0 : (SL Int)) (p1 s1_4 : Int) : TM := [(0, (.d (dl eI p0.1 p0.2))), (1, (xi p1)), (zsp 4), (zsp 5), (8, (.d (dl eI p0.1 p0.2))), (9, (xi (p0.1.length : Int))), (10, (xi s1_4))]
noncomputable def z0o (p0 : (SL Int)) (p1 s1_4 : Int) (s1_6 : zt3) : St := ⟨(zWz p0 p1 s1_4), ⟨[(zc 4 (aB 8 (fun _ => false))), (zc 5 (aB 8 s1_6))], []⟩, []⟩
noncomputable def z7z (p0 : (SL Int)) (p1 : Int) (r : (Int × (Nat → Bool))) : TM := [(0, (.d (dl eI p0.1 p0.2))), (1, (xi p1)), (zsp 4), (zsp 5), (8, (.d (dl eI p0.1 p0.2))), (9, (xi (p0.1.length : Int))), (10, (xi r.1)), (11, (xb false))]
noncomputable def zvh (p0 : (SL Int)) (p1 : Int) (r : (Int × (Nat → Bool))) : St := ⟨(z7z p0 p1 r), ⟨[(zc 4 (aB 8 (fun _ => false))), (zc 5 (aB 8 r.2))], []⟩, []⟩
noncomputable def z8o (p0 : (SL Int)) (p1 : Int) : (Int × (Nat → Bool)) → Ex × St := fun r => ((.exit 0), zvh p0 p1 r)
theorem zio (k : Nat) (p0 : (SL Int)) (p1 s1_4 : Int) (s1_6 : zt3) (x : (Int × (Nat → Bool)) ⊕ (Int × (Nat → Bool))) (h : zIf k p0 p1 s1_4 s1_6 = some x) : zF TE 86 (blk TE 86 0) (fun s : (Int × (Nat → Bool)) => z0o p0 p1 s.1 s.2) (z8o p0 p1) (s1_4, s1_6) x := by
 unfold zIf at h
 refine zm h (fun h201 g1 => ?_) (fun h201 g1 => ?_)
 ·refine zi g1 (fun v202 h203 g2 => ?_)
  refine zib g2 (fun h204 g3 => ?_)
  exact zqn ((w64 (s1_4 + 1)), (upd s1_6 s1_4.toNat (v202 == p1))) [] [(86, 3, 0, .q (xb true)), (86, 4, 1, .q (.d (.pin [(di v202)]))), (86, 5, 4, .q (.ptr 0 5 (s1_4.toNat))), (86, 5, 5, .st ((aB 8 (upd s1_6 s1_4.toNat (v202 == p1))).map .d))] [] g3 (ob (o_b h201) (ob (o_ia (e := eI) 1 h203 rfl) (ob (z5i (m := 8) 0 5 0 1 s1_4.toNat h204 (by omega)) (ob (z9t 8 s1_6 s1_4.toNat (v202 == p1) (by have := h204; simp only [Bool.and_eq_true, decide_eq_true_eq] at this; omega)) ob0)))) (by kernel_rfl)
 ·exact zqo [(86, 3, 0, .q (xb false))] [] g1 (ob (o_b h201) ob0) (by kernel_rfl)
theorem zGf (k : Nat) (p0 : (SL Int)) (p1 : Int) (r : zt3) (h : ztc k p0 p1 = some r) : zx TE (ev TE) 86 [(dl eI p0.1 p0.2), (di p1)] = some (zIm r) := by
 unfold ztc at h
 refine zi h (fun v1 h2 g1 => ?_)
 exact zt (g := zIm) g1 (zqc [(86, 2, 1, .q (xi (p0.1.length : Int)))] [(86, 0, (.nor, zvh p0 p1 v1))] (ob (zp eI p0.1) (ob (zu (id := 0) (r' := (.nor, zvh p0 p1 v1)) (zQb (zio k p0 p1) k _ _ h2) rfl) ob0)) (by kernel_rfl))
noncomputable def zVA (p0 : zj) (p1 : (SL Int)) (s1_10 v302 : Int) (r : Bool) : TM := [(0, (.d (.agg (zo p0)))), (1, (.d (dl eI p1.1 p1.2))), (zsp 2), (4, (xb false)), (14, (xb false)), (15, (.d (dl eI p1.1 p1.2))), (16, (xi (p1.1.length : Int))), (17, (xi s1_10)), (18, (xb true)), (5, (xi s1_10)), (6, (xi v302)), (7, (.d (dl eI (p1.1.take s1_10.toNat) (pcap p1.2 (s1_10 == (p1.1.length : Int)))))), (51, (xb r))]
noncomputable def zFb (p0 : zj) (p1 : (SL Int)) (s1_10 v302 : Int) (r : Bool) : St := ⟨(zVA p0 p1 s1_10 v302 r), ⟨[(zc 2 (zo p0))], []⟩, []⟩
noncomputable def zoA (p0 : zj) (p1 : (SL Int)) (s1_10 v302 : Int) : TM := [(0, (.d (.agg (zo p0)))), (1, (.d (dl eI p1.1 p1.2))), (zsp 2), (4, (xb false)), (14, (xb false)), (15, (.d (dl eI p1.1 p1.2))), (16, (xi (p1.1.length : Int))), (17, (xi s1_10)), (18, (xb true)), (5, (xi s1_10)), (6, (xi v302)), (7, (.d (dl eI (p1.1.take s1_10.toNat) (pcap p1.2 (s1_10 == (p1.1.length : Int))))))]
theorem zmh (k : Nat) (p0 : zj) (p1 : (SL Int)) (s1_10 v302 : Int) (r : Bool) (h : z8d k p0 p1 s1_10 v302 = some r) : ev TE 57 (rgn TE 57 7) ⟨(zoA p0 p1 s1_10 v302), ⟨[(zc 2 (zo p0))], []⟩, []⟩ = some (.nor, zFb p0 p1 s1_10 v302 r) := by
 unfold z8d at h
 refine zi h (fun v401 h402 g1 => ?_)
 refine zi g1 (fun v403 h404 g2 => ?_)
 refine zm g2 (fun h405 g3 => ?_) (fun h405 g3 => ?_)
 ·exact zq (g := fun r => (Ex.nor, zFb p0 p1 s1_10 v302 r)) g3 (zqe [(57, 7, 6, .c (di v401)), (57, 7, 8, .c (db v403)), (57, 7, 10, .q (xb true))] [] (ob (zW k ((p1.1.take s1_10.toNat), (pcap p1.2 (s1_10 == (p1.1.length : Int)))) _ h402) (ob (zw k v302 0 (if v401 < (w64 (p0.NamesakeBook.Most - 1)) then v401 else (w64 (p0.NamesakeBook.Most - 1))) _ h404) (ob (o_b h405) ob0))) (by kernel_rfl))
 ·refine zi g3 (fun v406 h407 g4 => ?_)
  refine zm g4 (fun h408 g5 => ?_) (fun h408 g5 => ?_)
  ·exact zq (g := fun r => (Ex.nor, zFb p0 p1 s1_10 v302 r)) g5 (zqe [(57, 7, 6, .c (di v401)), (57, 7, 8, .c (db v403)), (57, 7, 10, .q (xb false)), (57, 7, 15, .c (db v406)), (57, 7, 18, .q (xb true))] [] (ob (zW k ((p1.1.take s1_10.toNat), (pcap p1.2 (s1_10 == (p1.1.length : Int)))) _ h402) (ob (zw k v302 0 (if v401 < (w64 (p0.NamesakeBook.Most - 1)) then v401 else (w64 (p0.NamesakeBook.Most - 1))) _ h404) (ob (o_b h405) (ob (zZ k p0 ((p1.1.take s1_10.toNat), (pcap p1.2 (s1_10 == (p1.1.length : Int)))) s1_10 v302 _ h407) (ob (o_b h408) ob0))))) (by kernel_rfl))
  ·refine zi g5 (fun v409 h410 g6 => ?_)
   refine zi g6 (fun v411 h412 g7 => ?_)
   exact zq (g := fun r => (Ex.nor, zFb p0 p1 s1_10 v302 r)) g7 (zqe [(57, 7, 6, .c (di v401)), (57, 7, 8, .c (db v403)), (57, 7, 10, .q (xb false)), (57, 7, 15, .c (db v406)), (57, 7, 18, .q (xb false)), (57, 7, 22, .c (.agg (aB 8 v409))), (57, 7, 24, .c (db v411))] [] (ob (zW k ((p1.1.take s1_10.toNat), (pcap p1.2 (s1_10 == (p1.1.length : Int)))) _ h402) (ob (zw k v302 0 (if v401 < (w64 (p0.NamesakeBook.Most - 1)) then v401 else (w64 (p0.NamesakeBook.Most - 1))) _ h404) (ob (o_b h405) (ob (zZ k p0 ((p1.1.take s1_10.toNat), (pcap p1.2 (s1_10 == (p1.1.length : Int)))) s1_10 v302 _ h407) (ob (o_b h408) (ob (zGf k ((p1.1.take s1_10.toNat), (pcap p1.2 (s1_10 == (p1.1.length : Int)))) v302 _ h410) (ob (zic k p0 v409 s1_10 _ h412) ob0))))))) (by kernel_rfl))
noncomputable def zMA (p0 : zj) (p1 : (SL Int)) (s1_10 : Int) : TM := [(0, (.d (.agg (zo p0)))), (1, (.d (dl eI p1.1 p1.2))), (zsp 2), (4, (xb false)), (14, (xb false)), (15, (.d (dl eI p1.1 p1.2))), (16, (xi (p1.1.length : Int))), (17, (xi s1_10))]
noncomputable def zyl (p0 : zj) (p1 : (SL Int)) (s1_10 : Int) : St := ⟨(zMA p0 p1 s1_10), ⟨[(zc 2 (zo p0))], []⟩, []⟩
noncomputable def zhA (p0 : zj) (p1 : (SL Int)) (r : (Int × Int × (SL Int))) : TM := [(0, (.d (.agg (zo p0)))), (1, (.d (dl eI p1.1 p1.2))), (zsp 2), (4, (xb false)), (14, (xb false)), (15, (.d (dl eI p1.1 p1.2))), (16, (xi (p1.1.length : Int))), (17, (xi r.1)), (18, (xb true)), (5, (xi r.1)), (6, (xi r.2.1)), (7, (.d (dl eI r.2.2.1 r.2.2.2))), (51, (xb true))]
noncomputable def zXe (p0 : zj) (p1 : (SL Int)) (r : (Int × Int × (SL Int))) : St := ⟨(zhA p0 p1 r), ⟨[(zc 2 (zo p0))], []⟩, []⟩
noncomputable def zkA (p0 : zj) (p1 : (SL Int)) (r : Int) : TM := [(0, (.d (.agg (zo p0)))), (1, (.d (dl eI p1.1 p1.2))), (zsp 2), (4, (xb false)), (14, (xb false)), (15, (.d (dl eI p1.1 p1.2))), (16, (xi (p1.1.length : Int))), (17, (xi r)), (18, (xb false))]
noncomputable def z6e (p0 : zj) (p1 : (SL Int)) (r : Int) : St := ⟨(zkA p0 p1 r), ⟨[(zc 2 (zo p0))], []⟩, []⟩
noncomputable def zwl (p0 : zj) (p1 : (SL Int)) : ((Int × Int × (SL Int)) ⊕ Int) → Ex × St := Sum.elim (fun r => (.ret, zXe p0 p1 r)) (fun r => ((.exit 0), z6e p0 p1 r))
theorem znh (k : Nat) (p0 : zj) (p1 : (SL Int)) (s1_10 : Int) (x : Int ⊕ ((Int × Int × (SL Int)) ⊕ Int)) (h : zWc k p0 p1 s1_10 = some x) : zF TE 57 (blk TE 57 0) (fun s : Int => zyl p0 p1 s) (zwl p0 p1) s1_10 x := by
 unfold zWc at h
 refine zm h (fun h301 g1 => ?_) (fun h301 g1 => ?_)
 ·refine zi g1 (fun v302 h303 g2 => ?_)
  refine zib g2 (fun h304 g3 => ?_)
  refine zi g3 (fun v305 h306 g4 => ?_)
  refine zm g4 (fun h307 g5 => ?_) (fun h307 g5 => ?_)
  ·subst h307
   exact zqo [(57, 4, 0, .q (xb true)), (57, 5, 1, .q (.d (.pin [(di v302)]))), (57, 6, 2, .q (.d (dl eI (p1.1.take s1_10.toNat) (pcap p1.2 (s1_10 == (p1.1.length : Int))))))] [(57, 1000007, (.nor, zFb p0 p1 s1_10 v302 true))] g5 (ob (o_b h301) (ob (o_ia (e := eI) 1 h303 rfl) (ob (zks (e := eI) (z := 1) (n := s1_10) p1.1 p1.2 h304) (ob (zmh k p0 p1 s1_10 v302 _ h306) ob0)))) (by kernel_rfl)
  ·subst h307
   exact zqn (w64 (s1_10 + 1)) [] [(57, 4, 0, .q (xb true)), (57, 5, 1, .q (.d (.pin [(di v302)]))), (57, 6, 2, .q (.d (dl eI (p1.1.take s1_10.toNat) (pcap p1.2 (s1_10 == (p1.1.length : Int))))))] [(57, 1000007, (.nor, zFb p0 p1 s1_10 v302 false))] g5 (ob (o_b h301) (ob (o_ia (e := eI) 1 h303 rfl) (ob (zks (e := eI) (z := 1) (n := s1_10) p1.1 p1.2 h304) (ob (zmh k p0 p1 s1_10 v302 _ h306) ob0)))) (by kernel_rfl)
 ·exact zqo [(57, 4, 0, .q (xb false))] [] g1 (ob (o_b h301) ob0) (by kernel_rfl)
theorem ztm (k : Nat) (p0 : zj) (p1 : (SL Int)) (r : Bool) (h : zMd k p0 p1 = some r) : zx TE (ev TE) 57 [(.agg (zo p0)), (dl eI p1.1 p1.2)] = some (zre r) := by
 unfold zMd at h
 refine zm h (fun h1 g1 => ?_) (fun h1 g1 => ?_)
 ·exact zt (g := zre) g1 (zqc [(57, 1, 1, .q (xi (p1.1.length : Int))), (57, 1, 5, .q (xi (p0.NamesakeBook.Letters.1.length : Int))), (57, 1, 6, .q (xb true))] [] (ob (zp eI p1.1) (ob (zp zd p0.NamesakeBook.Letters.1) (ob (o_b h1) ob0))) (by kernel_rfl))
 ·refine zi g1 (fun v2 h3 g2 => ?_)
  refine zJb g2 (fun v5 hh g3_0 => ?_) (fun v5 hh g3_0 => ?_)
  ·subst hh
   exact zt (g := zre) g3_0 (zqc [(57, 1, 1, .q (xi (p1.1.length : Int))), (57, 1, 5, .q (xi (p0.NamesakeBook.Letters.1.length : Int))), (57, 1, 6, .q (xb false)), (57, 3, 1, .q (xi (p1.1.length : Int)))] [(57, 0, (.ret, zXe p0 p1 v5))] (ob (zp eI p1.1) (ob (zp zd p0.NamesakeBook.Letters.1) (ob (o_b h1) (ob (zp eI p1.1) (ob (zu (id := 0) (r' := (.ret, zXe p0 p1 v5)) (znc (znh k p0 p1) k _ _ h3) rfl) ob0))))) (by kernel_rfl))
  ·subst hh
   exact zt (g := zre) g3_0 (zqc [(57, 1, 1, .q (xi (p1.1.length : Int))), (57, 1, 5, .q (xi (p0.NamesakeBook.Letters.1.length : Int))), (57, 1, 6, .q (xb false)), (57, 3, 1, .q (xi (p1.1.length : Int)))] [(57, 0, (.nor, z6e p0 p1 v5))] (ob (zp eI p1.1) (ob (zp zd p0.NamesakeBook.Letters.1) (ob (o_b h1) (ob (zp eI p1.1) (ob (zu (id := 0) (r' := (.nor, z6e p0 p1 v5)) (znc (znh k p0 p1) k _ _ h3) rfl) ob0))))) (by kernel_rfl))
theorem zE (k : Nat) (p0 : za) (p1 : (SL Int)) (r : zt1) (h : zIe k p0 p1 = some r) : zx TE (ev TE) 18 [(.agg (zb p0)), (dl eI p1.1 p1.2)] = some (zqi r) := by
 unfold zIe at h
 refine zi h (fun v1 h2 g1 => ?_)
 refine zm g1 (fun h3 g2 => ?_) (fun h3 g2 => ?_)
 ·exact zt (g := zqi) g2 (zqc [(18, 1, 1, .c (di v1)), (18, 2, 1, .q (xb true))] [] (ob (zA k p0 _ h2) (ob (o_b h3) ob0)) (by kernel_rfl))
 ·refine zi g2 (fun v4 h5 g3 => ?_)
  refine zi g3 (fun v6 h7 g4 => ?_)
  exact zt (g := zqi) g4 (zqc [(18, 1, 1, .c (di v1)), (18, 2, 1, .q (xb false)), (18, 4, 1, .c (.agg (zo v4))), (18, 5, 2, .c (db v6))] [] (ob (zA k p0 _ h2) (ob (o_b h3) (ob (zsb k p0 _ h5) (ob (ztm k v4 p1 _ h7) ob0)))) (by kernel_rfl))
theorem zec (k : Nat) (p0 : zj) (r : zt2) (h : zpb k p0 = some r) : zx TE (ev TE) 59 [(.agg (zo p0))] = some (z9i r) := by
 unfold zpb at h
 exact zt (g := z9i) h (zqc [] [] ob0 (by kernel_rfl))
noncomputable def zwr (p0 : za) (v1 : Int) (v6 : zt2) : TM := [(0, (.d (.agg (zb p0)))), (zsp 1), (2, (xi 0)), (3, (xi 0)), (4, (xi v1)), (9, (xb false)), (zsp 5), (13, (.d (.fn 88 [] [(.pin [(dl zd v6.1.1 v6.1.2), (dl (eL eI) v6.2.1.1 v6.2.1.2), (dl (aI 2) v6.2.2.1.1 v6.2.2.1.2), (di v6.2.2.2.1), (.mp (em (fun k => D.agg (zh k)) (fun b => D.b b) v6.2.2.2.2))])])))]
noncomputable def zjg (p0 : za) (v1 : Int) (v6 : zt2) : Int → D × FS × List LRec := fun r => ((db true), ⟨[(2, (.cells [(.yld 0)])), (3, (.cells [(.fn 89 [] [(.d (.pin [(dl zd v6.1.1 v6.1.2), (dl (eL eI) v6.2.1.1 v6.2.1.2), (dl (aI 2) v6.2.2.1.1 v6.2.2.1.2), (di v6.2.2.2.1), (.mp (em (fun k => D.agg (zh k)) (fun b => D.b b) v6.2.2.2.2))])), (.ptr 1 2 0), (.ptr 1 3 0)])]))], [[(zc 1 (zb p0)), (5, (.cells [(xi r)]))]]⟩, [⟨(zwr p0 v1 v6), 0, rfP (blk TE 20 0), rfA (blk TE 20 0), rfB (blk TE 20 0), 20, .rdy⟩])
noncomputable def zkg (p0 : za) (v1 : Int) (v6 : zt2) (f : Fr) (fs : List Fr) : Int → D × FS × List LRec := fun r => ((db true), ⟨f, [[(zc 1 (zb p0)), (5, (.cells [(xi r)]))], [(2, (.cells [(.yld 0)])), (3, (.cells [(.fn 89 [] [(.d (.pin [(dl zd v6.1.1 v6.1.2), (dl (eL eI) v6.2.1.1 v6.2.1.2), (dl (aI 2) v6.2.2.1.1 v6.2.2.1.2), (di v6.2.2.2.1), (.mp (em (fun k => D.agg (zh k)) (fun b => D.b b) v6.2.2.2.2))])), (.ptr 1 2 0), (.ptr 1 3 0)])]))]] ++ fs⟩, [⟨(zwr p0 v1 v6), 0, rfP (blk TE 20 0), rfA (blk TE 20 0), rfB (blk TE 20 0), 20, .rdy⟩])
noncomputable def zaf (p0 : za) (v1 : Int) (v6 : zt2) (rc : zt16) (fs : List Fr) : Prop := ∀ (f : Fr) (u1_9 : Int) (r0 : (SL Int)) (x : Int), rc u1_9 r0 = some x → zMb TE (ev TE) 89 [(.d (dl eI r0.1 r0.2)), (.d (.pin [(dl zd v6.1.1 v6.1.2), (dl (eL eI) v6.2.1.1 v6.2.1.2), (dl (aI 2) v6.2.2.1.1 v6.2.2.1.2), (di v6.2.2.2.1), (.mp (em (fun k => D.agg (zh k)) (fun b => D.b b) v6.2.2.2.2))])), (.ptr 1 2 0), (.ptr 1 3 0)] ⟨f, ([[(zc 1 (zb p0)), (5, (.cells [(xi u1_9)]))], [(2, (.cells [(.yld 0)])), (3, (.cells [(.fn 89 [] [(.d (.pin [(dl zd v6.1.1 v6.1.2), (dl (eL eI) v6.2.1.1 v6.2.1.2), (dl (aI 2) v6.2.2.1.1 v6.2.2.1.2), (di v6.2.2.2.1), (.mp (em (fun k => D.agg (zh k)) (fun b => D.b b) v6.2.2.2.2))])), (.ptr 1 2 0), (.ptr 1 3 0)])]))]] ++ fs)⟩ [⟨(zwr p0 v1 v6), 0, rfP (blk TE 20 0), rfA (blk TE 20 0), rfB (blk TE 20 0), 20, .rdy⟩] = some (zkg p0 v1 v6 f fs x)
noncomputable def zmA (r0 : (SL Int)) (v6 : zt2) (v202 s2_10 : Int) (r : Bool) : TM := [(0, (.d (dl eI r0.1 r0.2))), (1, (.d (.pin [(dl zd v6.1.1 v6.1.2), (dl (eL eI) v6.2.1.1 v6.2.1.2), (dl (aI 2) v6.2.2.1.1 v6.2.2.1.2), (di v6.2.2.2.1), (.mp (em (fun k => D.agg (zh k)) (fun b => D.b b) v6.2.2.2.2))]))), (2, (.ptr 1 2 0)), (3, (.ptr 1 3 0)), (5, (xb false)), (6, (xi (r0.1.length : Int))), (15, (xb false)), (25, (xi (if (w64 (v202 + 1)) < v6.2.2.2.1 then (w64 (v202 + 1)) else v6.2.2.2.1))), (26, (xi s2_10)), (27, (xb true)), (7, (xi s2_10)), (43, (xb r))]
noncomputable def z9e (p0 : za) (v1 : Int) (v6 : zt2) (r0 : (SL Int)) (v202 s2_10 s2_15 : Int) (rc : zt16) (fs : List Fr) (r : Bool) : St := ⟨(zmA r0 v6 v202 s2_10 r), ⟨[], ([[(zc 1 (zb p0)), (5, (.cells [(xi s2_15)]))], [(2, (.cells [(.yld 0)])), (3, (.cells [(.fn 89 [] [(.d (.pin [(dl zd v6.1.1 v6.1.2), (dl (eL eI) v6.2.1.1 v6.2.1.2), (dl (aI 2) v6.2.2.1.1 v6.2.2.1.2), (di v6.2.2.2.1), (.mp (em (fun k => D.agg (zh k)) (fun b => D.b b) v6.2.2.2.2))])), (.ptr 1 2 0), (.ptr 1 3 0)])]))]] ++ fs)⟩, [⟨(zwr p0 v1 v6), 0, rfP (blk TE 20 0), rfA (blk TE 20 0), rfB (blk TE 20 0), 20, .rdy⟩]⟩
noncomputable def zDA (r0 : (SL Int)) (v6 : zt2) (k : Nat) (v202 s2_10 : Int) : TM := [(0, (.d (dl eI r0.1 r0.2))), (1, (.d (.pin [(dl zd v6.1.1 v6.1.2), (dl (eL eI) v6.2.1.1 v6.2.1.2), (dl (aI 2) v6.2.2.1.1 v6.2.2.1.2), (di v6.2.2.2.1), (.mp (em (fun k => D.agg (zh k)) (fun b => D.b b) v6.2.2.2.2))]))), (2, (.ptr 1 2 0)), (3, (.ptr 1 3 0)), (5, (xb false)), (6, (xi (r0.1.length : Int))), (15, (xb false)), (25, (xi (if (w64 (v202 + 1)) < v6.2.2.2.1 then (w64 (v202 + 1)) else v6.2.2.2.1))), (26, (xi s2_10)), (27, (xb true)), (7, (xi s2_10))]
noncomputable def zdu (p0 : za) (v1 : Int) (v6 : zt2) (k : Nat) : TM := [(0, (.d (.agg (zb p0)))), (zsp 1), (2, (xi 0)), (3, (xi 0)), (4, (xi v1)), (9, (xb false)), (zsp 5), (13, (.d (.fn 88 [] [(.pin [(dl zd v6.1.1 v6.1.2), (dl (eL eI) v6.2.1.1 v6.2.1.2), (dl (aI 2) v6.2.2.1.1 v6.2.2.1.2), (di v6.2.2.2.1), (.mp (em (fun k => D.agg (zh k)) (fun b => D.b b) v6.2.2.2.2))])])))]
theorem zvk (k : Nat) (p0 : za) (v1 : Int) (v6 : zt2) (r0 : (SL Int)) (v202 s2_10 s2_15 : Int) (rc : zt16) (fs : List Fr) (hfs : fs.length ≤ 8) (hrc : zaf p0 v1 v6 rc fs) (r : Bool) (h : z8f k p0 v1 v6 r0 v202 s2_10 s2_15 rc = some r) : ev TE 89 (rgn TE 89 7) ⟨(zDA r0 v6 k v202 s2_10), ⟨[], ([[(zc 1 (zb p0)), (5, (.cells [(xi s2_15)]))], [(2, (.cells [(.yld 0)])), (3, (.cells [(.fn 89 [] [(.d (.pin [(dl zd v6.1.1 v6.1.2), (dl (eL eI) v6.2.1.1 v6.2.1.2), (dl (aI 2) v6.2.2.1.1 v6.2.2.1.2), (di v6.2.2.2.1), (.mp (em (fun k => D.agg (zh k)) (fun b => D.b b) v6.2.2.2.2))])), (.ptr 1 2 0), (.ptr 1 3 0)])]))]] ++ fs)⟩, [⟨(zdu p0 v1 v6 k), 0, rfP (blk TE 20 0), rfA (blk TE 20 0), rfB (blk TE 20 0), 20, .rdy⟩]⟩ = some (.nor, z9e p0 v1 v6 r0 v202 s2_10 s2_15 rc fs r) := by
 unfold z8f at h
 refine zi h (fun v501 h502 g1 => ?_)
 refine zm g1 (fun h503 g2 => ?_) (fun h503 g2 => ?_)
 ·exact zq (g := fun r => (Ex.nor, z9e p0 v1 v6 r0 v202 s2_10 s2_15 rc fs r)) g2 (zqe [(89, 7, 4, .c (db v501)), (89, 7, 6, .q (xb true))] [] (ob (zZ k (⟨(⟨v6.1, v6.2.1, v6.2.2.1, v6.2.2.2.1⟩ : za), v6.2.2.2.2⟩ : zj) r0 (r0.1.length : Int) s2_10 _ h502) (ob (o_b h503) ob0)) (by cases f8 hfs <;> kernel_rfl))
 ·refine zi g2 (fun v504 h505 g3 => ?_)
  refine zi g3 (fun v506 h507 g4 => ?_)
  exact zq (g := fun r => (Ex.nor, z9e p0 v1 v6 r0 v202 s2_10 s2_15 rc fs r)) g4 (zqe [(89, 7, 4, .c (db v501)), (89, 7, 6, .q (xb false)), (89, 7, 10, .c (.agg (aB 8 v504))), (89, 7, 12, .c (db v506))] [] (ob (zZ k (⟨(⟨v6.1, v6.2.1, v6.2.2.1, v6.2.2.2.1⟩ : za), v6.2.2.2.2⟩ : zj) r0 (r0.1.length : Int) s2_10 _ h502) (ob (o_b h503) (ob (zGf k r0 s2_10 _ h505) (ob (zic k (⟨(⟨v6.1, v6.2.1, v6.2.2.1, v6.2.2.2.1⟩ : za), v6.2.2.2.2⟩ : zj) v504 (r0.1.length : Int) _ h507) ob0)))) (by cases f8 hfs <;> kernel_rfl))
noncomputable def z2z (r0 : (SL Int)) (v6 : zt2) (v202 s2_10 : Int) : TM := [(0, (.d (dl eI r0.1 r0.2))), (1, (.d (.pin [(dl zd v6.1.1 v6.1.2), (dl (eL eI) v6.2.1.1 v6.2.1.2), (dl (aI 2) v6.2.2.1.1 v6.2.2.1.2), (di v6.2.2.2.1), (.mp (em (fun k => D.agg (zh k)) (fun b => D.b b) v6.2.2.2.2))]))), (2, (.ptr 1 2 0)), (3, (.ptr 1 3 0)), (5, (xb false)), (6, (xi (r0.1.length : Int))), (15, (xb false)), (25, (xi (if (w64 (v202 + 1)) < v6.2.2.2.1 then (w64 (v202 + 1)) else v6.2.2.2.1))), (26, (xi s2_10))]
noncomputable def zLp (p0 : za) (v1 : Int) (v6 : zt2) (r0 : (SL Int)) (v202 : Int) (rc : zt16) (fs : List Fr) (s2_10 s2_15 : Int) : St := ⟨(z2z r0 v6 v202 s2_10), ⟨[], ([[(zc 1 (zb p0)), (5, (.cells [(xi s2_15)]))], [(2, (.cells [(.yld 0)])), (3, (.cells [(.fn 89 [] [(.d (.pin [(dl zd v6.1.1 v6.1.2), (dl (eL eI) v6.2.1.1 v6.2.1.2), (dl (aI 2) v6.2.2.1.1 v6.2.2.1.2), (di v6.2.2.2.1), (.mp (em (fun k => D.agg (zh k)) (fun b => D.b b) v6.2.2.2.2))])), (.ptr 1 2 0), (.ptr 1 3 0)])]))]] ++ fs)⟩, [⟨(zwr p0 v1 v6), 0, rfP (blk TE 20 0), rfA (blk TE 20 0), rfB (blk TE 20 0), 20, .rdy⟩]⟩
noncomputable def zPA (r0 : (SL Int)) (v6 : zt2) (v202 : Int) (r : zt0) : TM := [(0, (.d (dl eI r0.1 r0.2))), (1, (.d (.pin [(dl zd v6.1.1 v6.1.2), (dl (eL eI) v6.2.1.1 v6.2.1.2), (dl (aI 2) v6.2.2.1.1 v6.2.2.1.2), (di v6.2.2.2.1), (.mp (em (fun k => D.agg (zh k)) (fun b => D.b b) v6.2.2.2.2))]))), (2, (.ptr 1 2 0)), (3, (.ptr 1 3 0)), (5, (xb false)), (6, (xi (r0.1.length : Int))), (15, (xb false)), (25, (xi (if (w64 (v202 + 1)) < v6.2.2.2.1 then (w64 (v202 + 1)) else v6.2.2.2.1))), (26, (xi r.1)), (27, (xb false))]
noncomputable def zDe (p0 : za) (v1 : Int) (v6 : zt2) (r0 : (SL Int)) (v202 : Int) (rc : zt16) (fs : List Fr) (r : zt0) : St := ⟨(zPA r0 v6 v202 r), ⟨[], ([[(zc 1 (zb p0)), (5, (.cells [(xi r.2)]))], [(2, (.cells [(.yld 0)])), (3, (.cells [(.fn 89 [] [(.d (.pin [(dl zd v6.1.1 v6.1.2), (dl (eL eI) v6.2.1.1 v6.2.1.2), (dl (aI 2) v6.2.2.1.1 v6.2.2.1.2), (di v6.2.2.2.1), (.mp (em (fun k => D.agg (zh k)) (fun b => D.b b) v6.2.2.2.2))])), (.ptr 1 2 0), (.ptr 1 3 0)])]))]] ++ fs)⟩, [⟨(zwr p0 v1 v6), 0, rfP (blk TE 20 0), rfA (blk TE 20 0), rfB (blk TE 20 0), 20, .rdy⟩]⟩
noncomputable def zvp (p0 : za) (v1 : Int) (v6 : zt2) (r0 : (SL Int)) (v202 : Int) (rc : zt16) (fs : List Fr) : (Int × Int) → Ex × St := fun r => ((.exit 0), zDe p0 v1 v6 r0 v202 rc fs r)
theorem zuk (k : Nat) (p0 : za) (v1 : Int) (v6 : zt2) (r0 : (SL Int)) (v202 : Int) (rc : zt16) (fs : List Fr) (hfs : fs.length ≤ 8) (hrc : zaf p0 v1 v6 rc fs) (s2_10 s2_15 : Int) (x : (Int × Int) ⊕ (Int × Int)) (h : zDd k p0 v1 v6 r0 v202 rc s2_10 s2_15 = some x) : zF TE 89 (blk TE 89 0) (fun s : (Int × Int) => zLp p0 v1 v6 r0 v202 rc fs s.1 s.2) (zvp p0 v1 v6 r0 v202 rc fs) (s2_10, s2_15) x := by
 unfold zDd at h
 refine zm h (fun h401 g1 => ?_) (fun h401 g1 => ?_)
 ·refine zi g1 (fun v402 h403 g2 => ?_)
  refine zm g2 (fun h404 g3 => ?_) (fun h404 g3 => ?_)
  ·subst h404
   exact zqn ((w64 (s2_10 + 1)), s2_15) [] [(89, 5, 0, .q (xb true))] [(89, 1000007, (.nor, z9e p0 v1 v6 r0 v202 s2_10 s2_15 rc fs true))] g3 (ob (o_b h401) (ob (zvk k p0 v1 v6 r0 v202 s2_10 s2_15 rc fs hfs hrc _ h403) ob0)) (by cases f8 hfs <;> kernel_rfl)
  ·subst h404
   refine zm g3 (fun h405 g4 => ?_) (fun h405 g4 => ?_)
   ·cases g4
   ·refine zib g4 (fun h406 g5 => ?_)
    refine zi g5 (fun v407 h408 g6 => ?_)
    exact zqn ((w64 (s2_10 + 1)), v407) [] [(89, 5, 0, .q (xb true)), (89, 8, 4, .q (.d (dl eI r0.1 (ccap r0.2)))), (89, 8, 7, .q (.d (dl eI (r0.1 ++ [s2_10]) .ro))), (89, 8, 8, .i (db true) ⟨[], ([[(1, (.cells ((zb p0).map .d))), (5, (.cells [(xi v407)]))], [(2, (.cells [(.yld 0)])), (3, (.cells [(.fn 89 [] [(.d (.pin [(dl zd v6.1.1 v6.1.2), (dl (eL eI) v6.2.1.1 v6.2.1.2), (dl (aI 2) v6.2.2.1.1 v6.2.2.1.2), (di v6.2.2.2.1), (.mp (em (fun k => D.agg (zh k)) (fun b => D.b b) v6.2.2.2.2))])), (.ptr 1 2 0), (.ptr 1 3 0)])]))]] ++ fs)⟩ [⟨[(0, (.d (.agg (zb p0)))), (1, (.ptr 0 1 0)), (2, (xi 0)), (3, (xi 0)), (4, (xi v1)), (9, (xb false)), (5, (.ptr 0 5 0)), (13, (.d (.fn 88 [] [(.pin [(dl zd v6.1.1 v6.1.2), (dl (eL eI) v6.2.1.1 v6.2.1.2), (dl (aI 2) v6.2.2.1.1 v6.2.2.1.2), (di v6.2.2.2.1), (.mp (em (fun k => D.agg (zh k)) (fun b => D.b b) v6.2.2.2.2))])])))], 0, rfP (blk TE 20 0), rfA (blk TE 20 0), rfB (blk TE 20 0), 20, .rdy⟩])] [(89, 1000007, (.nor, z9e p0 v1 v6 r0 v202 s2_10 s2_15 rc fs false))] g6 (ob (o_b h401) (ob (zvk k p0 v1 v6 r0 v202 s2_10 s2_15 rc fs hfs hrc _ h403) (ob (zmo (e := eI) (z := 1) r0.1 r0.2) (ob (o_ad (P := TE.P) (φ := fun _ _ => none) (T := 27) (q := (1, [(di 0)])) (c := (ccap r0.2)) (e := eI) r0.1 s2_10 (by kernel_rfl) (fun _ => rfl) h405 h406) (ob (hrc ([] : Fr) s2_15 ((r0.1 ++ [s2_10]), .ro) _ h408) ob0))))) (by cases f8 hfs <;> kernel_rfl)
 ·exact zqo [(89, 5, 0, .q (xb false))] [] g1 (ob (o_b h401) ob0) (by cases f8 hfs <;> kernel_rfl)
theorem zho (k : Nat) (p0 : za) (v1 : Int) (v6 : zt2) (rc : zt16) (hrc : zaf p0 v1 v6 rc []) (u1_9 : Int) (r0 : (SL Int)) (x : Int) (h : zNb k p0 v1 v6 rc u1_9 r0 = some x) : zMb TE (ev TE) 89 [(.d (dl eI r0.1 r0.2)), (.d (.pin [(dl zd v6.1.1 v6.1.2), (dl (eL eI) v6.2.1.1 v6.2.1.2), (dl (aI 2) v6.2.2.1.1 v6.2.2.1.2), (di v6.2.2.2.1), (.mp (em (fun k => D.agg (zh k)) (fun b => D.b b) v6.2.2.2.2))])), (.ptr 1 2 0), (.ptr 1 3 0)] ⟨[(2, (.cells [(.yld 0)])), (3, (.cells [(.fn 89 [] [(.d (.pin [(dl zd v6.1.1 v6.1.2), (dl (eL eI) v6.2.1.1 v6.2.1.2), (dl (aI 2) v6.2.2.1.1 v6.2.2.1.2), (di v6.2.2.2.1), (.mp (em (fun k => D.agg (zh k)) (fun b => D.b b) v6.2.2.2.2))])), (.ptr 1 2 0), (.ptr 1 3 0)])]))], [[(zc 1 (zb p0)), (5, (.cells [(xi u1_9)]))]]⟩ [⟨(zdu p0 v1 v6 k), 0, rfP (blk TE 20 0), rfA (blk TE 20 0), rfB (blk TE 20 0), 20, .rdy⟩] = some (zjg p0 v1 v6 x) := by
 unfold zNb at h
 refine zm h (fun h201 g1 => ?_) (fun h201 g1 => ?_)
 ·exact zkd (g := zjg p0 v1 v6) g1 (z0b (n := 80) (V := [(89, 1, 1, .q (xi (r0.1.length : Int))), (89, 2, 4, .q (xi (v6.1.1.length : Int))), (89, 2, 5, .q (xb true))]) (C := []) (ob (zp eI r0.1) (ob (zp zd v6.1.1) (ob (o_b h201) ob0))) (by kernel_rfl))
 ·refine zi g1 (fun v202 h203 g2 => ?_)
  refine zi g2 (fun v204 h205 g3 => ?_)
  exact zkd (g := zjg p0 v1 v6) g3 (z0b (n := 80) (V := [(89, 1, 1, .q (xi (r0.1.length : Int))), (89, 2, 4, .q (xi (v6.1.1.length : Int))), (89, 2, 5, .q (xb false)), (89, 4, 4, .c (di v202))]) (C := [(89, 0, (.nor, zDe p0 v1 v6 r0 v202 rc ([] : List Fr) v204))]) (ob (zp eI r0.1) (ob (zp zd v6.1.1) (ob (o_b h201) (ob (zW k r0 _ h203) (ob (zu (id := 0) (r' := (.nor, zDe p0 v1 v6 r0 v202 rc ([] : List Fr) v204)) (zQb (zuk k p0 v1 v6 r0 v202 rc ([] : List Fr) (Nat.zero_le _) hrc) k _ _ h205) rfl) ob0))))) (by kernel_rfl))
theorem zao (k : Nat) (p0 : za) (v1 : Int) (v6 : zt2) (rc : zt16) (f : Fr) (fs : List Fr) (hfs : fs.length + 1 ≤ 8) (hrc : zaf p0 v1 v6 rc (fs ++ [f])) (u1_9 : Int) (r0 : (SL Int)) (x : Int) (h : zNb k p0 v1 v6 rc u1_9 r0 = some x) : zMb TE (ev TE) 89 [(.d (dl eI r0.1 r0.2)), (.d (.pin [(dl zd v6.1.1 v6.1.2), (dl (eL eI) v6.2.1.1 v6.2.1.2), (dl (aI 2) v6.2.2.1.1 v6.2.2.1.2), (di v6.2.2.2.1), (.mp (em (fun k => D.agg (zh k)) (fun b => D.b b) v6.2.2.2.2))])), (.ptr 1 2 0), (.ptr 1 3 0)] ⟨f, ([[(zc 1 (zb p0)), (5, (.cells [(xi u1_9)]))], [(2, (.cells [(.yld 0)])), (3, (.cells [(.fn 89 [] [(.d (.pin [(dl zd v6.1.1 v6.1.2), (dl (eL eI) v6.2.1.1 v6.2.1.2), (dl (aI 2) v6.2.2.1.1 v6.2.2.1.2), (di v6.2.2.2.1), (.mp (em (fun k => D.agg (zh k)) (fun b => D.b b) v6.2.2.2.2))])), (.ptr 1 2 0), (.ptr 1 3 0)])]))]] ++ fs)⟩ [⟨(zdu p0 v1 v6 k), 0, rfP (blk TE 20 0), rfA (blk TE 20 0), rfB (blk TE 20 0), 20, .rdy⟩] = some (zkg p0 v1 v6 f fs x) := by
 unfold zNb at h
 refine zm h (fun h201 g1 => ?_) (fun h201 g1 => ?_)
 ·exact zkd (g := zkg p0 v1 v6 f fs) g1 (z0b (n := 80) (V := [(89, 1, 1, .q (xi (r0.1.length : Int))), (89, 2, 4, .q (xi (v6.1.1.length : Int))), (89, 2, 5, .q (xb true))]) (C := []) (ob (zp eI r0.1) (ob (zp zd v6.1.1) (ob (o_b h201) ob0))) (by cases f8 (Nat.le_of_succ_le hfs) <;> kernel_rfl))
 ·refine zi g1 (fun v202 h203 g2 => ?_)
  refine zi g2 (fun v204 h205 g3 => ?_)
  exact zkd (g := zkg p0 v1 v6 f fs) g3 (z0b (n := 80) (V := [(89, 1, 1, .q (xi (r0.1.length : Int))), (89, 2, 4, .q (xi (v6.1.1.length : Int))), (89, 2, 5, .q (xb false)), (89, 4, 4, .c (di v202))]) (C := [(89, 0, (.nor, zDe p0 v1 v6 r0 v202 rc (fs ++ [f]) v204))]) (ob (zp eI r0.1) (ob (zp zd v6.1.1) (ob (o_b h201) (ob (zW k r0 _ h203) (ob (zu (id := 0) (r' := (.nor, zDe p0 v1 v6 r0 v202 rc (fs ++ [f]) v204)) (zQb (zuk k p0 v1 v6 r0 v202 rc (fs ++ [f]) (z5k f hfs) hrc) k _ _ h205) rfl) ob0))))) (by cases f8 (Nat.le_of_succ_le hfs) <;> kernel_rfl))
theorem zZj (k : Nat) (p0 : za) (v1 : Int) (v6 : zt2) : ∀ (n : Nat) (fs : List Fr), fs.length + n ≤ 8 → zaf p0 v1 v6 (zBb k p0 v1 v6 n) fs
 | 0, fs, hfs => fun f u1_9 r0 x h => by cases h
 | n + 1, fs, hfs => fun f u1_9 r0 x h => zao k p0 v1 v6 _ f fs (by omega) (zZj k p0 v1 v6 n (fs ++ [f]) (by simp; omega)) u1_9 r0 x h
theorem zep (k : Nat) (p0 : za) (v1 : Int) (v6 : zt2) (u1_9 : Int) (r0 : (SL Int)) (x : Int) (h : zBb k p0 v1 v6 9 u1_9 r0 = some x) : zMb TE (ev TE) 89 [(.d (dl eI r0.1 r0.2)), (.d (.pin [(dl zd v6.1.1 v6.1.2), (dl (eL eI) v6.2.1.1 v6.2.1.2), (dl (aI 2) v6.2.2.1.1 v6.2.2.1.2), (di v6.2.2.2.1), (.mp (em (fun k => D.agg (zh k)) (fun b => D.b b) v6.2.2.2.2))])), (.ptr 1 2 0), (.ptr 1 3 0)] ⟨[(2, (.cells [(.yld 0)])), (3, (.cells [(.fn 89 [] [(.d (.pin [(dl zd v6.1.1 v6.1.2), (dl (eL eI) v6.2.1.1 v6.2.1.2), (dl (aI 2) v6.2.2.1.1 v6.2.2.1.2), (di v6.2.2.2.1), (.mp (em (fun k => D.agg (zh k)) (fun b => D.b b) v6.2.2.2.2))])), (.ptr 1 2 0), (.ptr 1 3 0)])]))], [[(zc 1 (zb p0)), (5, (.cells [(xi u1_9)]))]]⟩ [⟨(zdu p0 v1 v6 k), 0, rfP (blk TE 20 0), rfA (blk TE 20 0), rfB (blk TE 20 0), 20, .rdy⟩] = some (zjg p0 v1 v6 x) := zho k p0 v1 v6 _ (zZj k p0 v1 v6 8 [] (by decide)) u1_9 r0 x h
theorem zQ (k : Nat) (p0 : za) (r : zt0) (h : zyg k p0 = some r) : zx TE (ev TE) 20 [(.agg (zb p0))] = some (zWj r) := by
 unfold zyg at h
 refine zi h (fun v1 h2 g1 => ?_)
 refine zm g1 (fun h3 g2 => ?_) (fun h3 g2 => ?_)
 ·exact zt (g := zWj) g2 (zqc [(20, 1, 1, .c (di v1)), (20, 2, 1, .q (xb true))] [] (ob (zA k p0 _ h2) (ob (o_b h3) ob0)) (by kernel_rfl))
 ·refine zi g2 (fun v4 h5 g3 => ?_)
  refine zi g3 (fun v6 h7 g4 => ?_)
  refine zi g4 (fun v8 h9 g5 => ?_)
  exact zt (g := zWj) g5 (zqc [(20, 1, 1, .c (di v1)), (20, 2, 1, .q (xb false)), (20, 5, 1, .c (.agg (zo v4))), (20, 5, 2, .c (.fn 88 [] [(.pin [(dl zd v6.1.1 v6.1.2), (dl (eL eI) v6.2.1.1 v6.2.1.2), (dl (aI 2) v6.2.2.1.1 v6.2.2.1.2), (di v6.2.2.2.1), (.mp (em (fun k => D.agg (zh k)) (fun b => D.b b) v6.2.2.2.2))])])), (88, 3, 1, .i (db true) ⟨[(2, (.cells [(.yld 0)])), (3, (.cells [(.fn 89 [] [(.d (.pin [(dl zd v6.1.1 v6.1.2), (dl (eL eI) v6.2.1.1 v6.2.1.2), (dl (aI 2) v6.2.2.1.1 v6.2.2.1.2), (di v6.2.2.2.1), (.mp (em (fun k => D.agg (zh k)) (fun b => D.b b) v6.2.2.2.2))])), (.ptr 1 2 0), (.ptr 1 3 0)])]))], [[(1, (.cells ((zb p0).map .d))), (5, (.cells [(xi v8)]))]]⟩ [⟨[(0, (.d (.agg (zb p0)))), (1, (.ptr 0 1 0)), (2, (xi 0)), (3, (xi 0)), (4, (xi v1)), (9, (xb false)), (5, (.ptr 0 5 0)), (13, (.d (.fn 88 [] [(.pin [(dl zd v6.1.1 v6.1.2), (dl (eL eI) v6.2.1.1 v6.2.1.2), (dl (aI 2) v6.2.2.1.1 v6.2.2.1.2), (di v6.2.2.2.1), (.mp (em (fun k => D.agg (zh k)) (fun b => D.b b) v6.2.2.2.2))])])))], 0, rfP (blk TE 20 0), rfA (blk TE 20 0), rfB (blk TE 20 0), 20, .rdy⟩])] [] (ob (zA k p0 _ h2) (ob (o_b h3) (ob (zsb k p0 _ h5) (ob (zec k v4 _ h7) (ob (zep k p0 v1 v6 0 ([], Cap.nil) _ h9) ob0))))) (by kernel_rfl))
theorem zBl (k : Nat) (r : Unit) (h : zOi k = some r) : zx TE (ev TE) 63 [] = some (zBm r) := by
 unfold zOi at h
 exact zt (g := zBm) h (zqc [] [] ob0 (by kernel_rfl))
theorem z7m (k : Nat) (p0 r : (SL Int)) (h : zbe k p0 = some r) : zx TE (ev TE) 64 [(dl eI p0.1 p0.2)] = some (zXg r) := by
 unfold zbe at h
 refine zm h (fun h1 g1 => ?_) (fun h1 g1 => ?_)
 ·exact zt (g := zXg) g1 (zqc [(64, 1, 1, .q (xb true))] [] (ob (o_b h1) ob0) (by kernel_rfl))
 ·refine zib g1 (fun h2 g2 => ?_)
  exact zt (g := zXg) g2 (zqr [(64, 1, 1, .q (xb false)), (64, 3, 2, .ns (p0.1.map eI) p0.1.length)] [] [(dl eI p0.1 (rcap false p0.1))] (ob (o_b h1) (ob (zxw p0.1 eI) (ob (o_ns (P := TE.P) (φ := fun _ _ => none) (T := 27) (q := (1, [(di 0)])) (c := p0.2) (e := eI) p0.1 (by kernel_rfl) (fun _ => rfl) h2) (ob (rfl : (([] : List (List D)).isEmpty || !(p0.1.map eI).isEmpty) = true) (ob (show zFc ⟨[(7, (rowO false 1 eI p0.1 true))], []⟩ _ = _ from (o_s1 (x := (.row 0 7 p0.1.length)) (zen false 1 eI p0.1 true rfl) o_s0)) ob0))))) (by kernel_rfl))
theorem z1o (k : Nat) (p0 p1 : (SL Int)) (r : Bool) (h : zuh k p0 p1 = some r) : zx TE (ev TE) 90 [(dl eI p0.1 p0.2), (dl eI p1.1 p1.2)] = some (zal r) := by
 unfold zuh at h
 refine zi h (fun v1 h2 g1 => ?_)
 refine zi g1 (fun v3 h4 g2 => ?_)
 exact zt (g := zal) g2 (zqc [(90, 1, 1, .c (di v1)), (90, 1, 3, .c (di v3))] [] (ob (zW k p0 _ h2) (ob (zW k p1 _ h4) ob0)) (by kernel_rfl))
noncomputable def zAn (p0 : za) (v1 : Int) (v8 : zt2) : TM := [(0, (.d (.agg (zb p0)))), (zsp 1), (2, (.d (.sl [] .nil))), (3, (xi 0)), (4, (xi v1)), (11, (xb false)), (zsp 5), (zsp 6), (16, (.d (.fn 88 [] [(.pin [(dl zd v8.1.1 v8.1.2), (dl (eL eI) v8.2.1.1 v8.2.1.2), (dl (aI 2) v8.2.2.1.1 v8.2.2.1.2), (di v8.2.2.2.1), (.mp (em (fun k => D.agg (zh k)) (fun b => D.b b) v8.2.2.2.2))])])))]
noncomputable def zTf (p0 : za) (v1 : Int) (v8 : zt2) : (SL Int) → D × FS × List LRec := fun r => ((db true), ⟨[(2, (.cells [(.yld 0)])), (3, (.cells [(.fn 89 [] [(.d (.pin [(dl zd v8.1.1 v8.1.2), (dl (eL eI) v8.2.1.1 v8.2.1.2), (dl (aI 2) v8.2.2.1.1 v8.2.2.1.2), (di v8.2.2.2.1), (.mp (em (fun k => D.agg (zh k)) (fun b => D.b b) v8.2.2.2.2))])), (.ptr 1 2 0), (.ptr 1 3 0)])]))], [[(zc 1 (zb p0)), (5, (.cells [(.d (.fn 90 [] []))])), (6, (.cells [(.d (dl eI r.1 r.2))]))]]⟩, [⟨(zAn p0 v1 v8), 0, rfP (blk TE 25 0), rfA (blk TE 25 0), rfB (blk TE 25 0), 25, .rdy⟩])
noncomputable def z1f (p0 : za) (v1 : Int) (v8 : zt2) (f : Fr) (fs : List Fr) : (SL Int) → D × FS × List LRec := fun r => ((db true), ⟨f, [[(zc 1 (zb p0)), (5, (.cells [(.d (.fn 90 [] []))])), (6, (.cells [(.d (dl eI r.1 r.2))]))], [(2, (.cells [(.yld 0)])), (3, (.cells [(.fn 89 [] [(.d (.pin [(dl zd v8.1.1 v8.1.2), (dl (eL eI) v8.2.1.1 v8.2.1.2), (dl (aI 2) v8.2.2.1.1 v8.2.2.1.2), (di v8.2.2.2.1), (.mp (em (fun k => D.agg (zh k)) (fun b => D.b b) v8.2.2.2.2))])), (.ptr 1 2 0), (.ptr 1 3 0)])]))]] ++ fs⟩, [⟨(zAn p0 v1 v8), 0, rfP (blk TE 25 0), rfA (blk TE 25 0), rfB (blk TE 25 0), 25, .rdy⟩])
noncomputable def zxc (p0 : za) (v1 : Int) (v8 : zt2) (rc : zt12) (fs : List Fr) : Prop := ∀ (f : Fr) (u1_9 : (SL Int)) (r0 : (SL Int)) (x : (SL Int)), rc u1_9 r0 = some x → zMb TE (ev TE) 89 [(.d (dl eI r0.1 r0.2)), (.d (.pin [(dl zd v8.1.1 v8.1.2), (dl (eL eI) v8.2.1.1 v8.2.1.2), (dl (aI 2) v8.2.2.1.1 v8.2.2.1.2), (di v8.2.2.2.1), (.mp (em (fun k => D.agg (zh k)) (fun b => D.b b) v8.2.2.2.2))])), (.ptr 1 2 0), (.ptr 1 3 0)] ⟨f, ([[(zc 1 (zb p0)), (5, (.cells [(.d (.fn 90 [] []))])), (6, (.cells [(.d (dl eI u1_9.1 u1_9.2))]))], [(2, (.cells [(.yld 0)])), (3, (.cells [(.fn 89 [] [(.d (.pin [(dl zd v8.1.1 v8.1.2), (dl (eL eI) v8.2.1.1 v8.2.1.2), (dl (aI 2) v8.2.2.1.1 v8.2.2.1.2), (di v8.2.2.2.1), (.mp (em (fun k => D.agg (zh k)) (fun b => D.b b) v8.2.2.2.2))])), (.ptr 1 2 0), (.ptr 1 3 0)])]))]] ++ fs)⟩ [⟨(zAn p0 v1 v8), 0, rfP (blk TE 25 0), rfA (blk TE 25 0), rfB (blk TE 25 0), 25, .rdy⟩] = some (z1f p0 v1 v8 f fs x)
noncomputable def zEA (p0 : za) (v1 : Int) (v8 : zt2) (r0 : (SL Int)) (r : Bool) : TM := zAn p0 v1 v8 ++ [(17, (.d (dl eI r0.1 r0.2))), (7, (.d (dl eI r0.1 r0.2))), (26, (xb r))]
noncomputable def zye (p0 : za) (v1 : Int) (v8 : zt2) (u1_9 r0 : (SL Int)) (rc : zt12) (fs : List Fr) (r : Bool) : St := ⟨(zEA p0 v1 v8 r0 r), ⟨[], ([[(zc 1 (zb p0)), (5, (.cells [(.d (.fn 90 [] []))])), (6, (.cells [(.d (dl eI u1_9.1 u1_9.2))]))], [(2, (.cells [(.yld 0)])), (3, (.cells [(.fn 89 [] [(.d (.pin [(dl zd v8.1.1 v8.1.2), (dl (eL eI) v8.2.1.1 v8.2.1.2), (dl (aI 2) v8.2.2.1.1 v8.2.2.1.2), (di v8.2.2.2.1), (.mp (em (fun k => D.agg (zh k)) (fun b => D.b b) v8.2.2.2.2))])), (.ptr 1 2 0), (.ptr 1 3 0)])]))]] ++ (fs ++ [[]]))⟩, [⟨(zAn p0 v1 v8), 0, rfP (blk TE 25 0), rfA (blk TE 25 0), rfB (blk TE 25 0), 25, .busy⟩]⟩
noncomputable def zix (p0 : za) (v1 : Int) (v8 : zt2) (k : Nat) (r0 : (SL Int)) : TM := [(0, (.d (.agg (zb p0)))), (zsp 1), (2, (.d (.sl [] .nil))), (3, (xi 0)), (4, (xi v1)), (11, (xb false)), (zsp 5), (zsp 6), (16, (.d (.fn 88 [] [(.pin [(dl zd v8.1.1 v8.1.2), (dl (eL eI) v8.2.1.1 v8.2.1.2), (dl (aI 2) v8.2.2.1.1 v8.2.2.1.2), (di v8.2.2.2.1), (.mp (em (fun k => D.agg (zh k)) (fun b => D.b b) v8.2.2.2.2))])]))), (17, (.d (dl eI r0.1 r0.2))), (7, (.d (dl eI r0.1 r0.2)))]
noncomputable def zCr (p0 : za) (v1 : Int) (v8 : zt2) (k : Nat) : TM := [(0, (.d (.agg (zb p0)))), (zsp 1), (2, (.d (.sl [] .nil))), (3, (xi 0)), (4, (xi v1)), (11, (xb false)), (zsp 5), (zsp 6), (16, (.d (.fn 88 [] [(.pin [(dl zd v8.1.1 v8.1.2), (dl (eL eI) v8.2.1.1 v8.2.1.2), (dl (aI 2) v8.2.2.1.1 v8.2.2.1.2), (di v8.2.2.2.1), (.mp (em (fun k => D.agg (zh k)) (fun b => D.b b) v8.2.2.2.2))])])))]
theorem zbk (k : Nat) (p0 : za) (v1 : Int) (v8 : zt2) (u1_9 r0 : (SL Int)) (rc : zt12) (fs : List Fr) (hfs : fs.length ≤ 8) (hrc : zxc p0 v1 v8 rc fs) (r : Bool) (h : z4g k p0 v1 v8 u1_9 r0 rc = some r) : ev TE 25 (rgn TE 25 8) ⟨(zix p0 v1 v8 k r0), ⟨[], ([[(zc 1 (zb p0)), (5, (.cells [(.d (.fn 90 [] []))])), (6, (.cells [(.d (dl eI u1_9.1 u1_9.2))]))], [(2, (.cells [(.yld 0)])), (3, (.cells [(.fn 89 [] [(.d (.pin [(dl zd v8.1.1 v8.1.2), (dl (eL eI) v8.2.1.1 v8.2.1.2), (dl (aI 2) v8.2.2.1.1 v8.2.2.1.2), (di v8.2.2.2.1), (.mp (em (fun k => D.agg (zh k)) (fun b => D.b b) v8.2.2.2.2))])), (.ptr 1 2 0), (.ptr 1 3 0)])]))]] ++ (fs ++ [[]]))⟩, [⟨(zCr p0 v1 v8 k), 0, rfP (blk TE 25 0), rfA (blk TE 25 0), rfB (blk TE 25 0), 25, .busy⟩]⟩ = some (.nor, zye p0 v1 v8 u1_9 r0 rc fs r) := by
 unfold z4g at h
 refine zm h (fun h301 g1 => ?_) (fun h301 g1 => ?_)
 ·exact zq (g := fun r => (Ex.nor, zye p0 v1 v8 u1_9 r0 rc fs r)) g1 (zqe [(25, 8, 2, .q (xb true))] [] (ob (o_b h301) ob0) (by cases f8 hfs <;> kernel_rfl))
 ·refine zi g1 (fun v302 h303 g2 => ?_)
  exact zq (g := fun r => (Ex.nor, zye p0 v1 v8 u1_9 r0 rc fs r)) g2 (zqe [(25, 8, 2, .q (xb false)), (25, 8, 7, .c (db v302))] [] (ob (o_b h301) (ob (z1o k r0 u1_9 _ h303) ob0)) (by cases f8 hfs <;> kernel_rfl))
noncomputable def zLz (p0 : za) (v1 : Int) (v8 : zt2) (r0 : (SL Int)) (r : (Bool × (SL Int))) : TM := zAn p0 v1 v8 ++ [(17, (.d (dl eI r0.1 r0.2))), (7, (.d (dl eI r0.1 r0.2))), (26, (xb r.1))]
noncomputable def zAe (p0 : za) (v1 : Int) (v8 : zt2) (u1_9 r0 : (SL Int)) (v202 : Bool) (rc : zt12) (fs : List Fr) (r : (Bool × (SL Int))) : St := ⟨(zLz p0 v1 v8 r0 r), ⟨[], ([[(zc 1 (zb p0)), (5, (.cells [(.d (.fn 90 [] []))])), (6, (.cells [(.d (dl eI r.2.1 r.2.2))]))], [(2, (.cells [(.yld 0)])), (3, (.cells [(.fn 89 [] [(.d (.pin [(dl zd v8.1.1 v8.1.2), (dl (eL eI) v8.2.1.1 v8.2.1.2), (dl (aI 2) v8.2.2.1.1 v8.2.2.1.2), (di v8.2.2.2.1), (.mp (em (fun k => D.agg (zh k)) (fun b => D.b b) v8.2.2.2.2))])), (.ptr 1 2 0), (.ptr 1 3 0)])]))]] ++ (fs ++ [[]]))⟩, [⟨(zAn p0 v1 v8), 0, rfP (blk TE 25 0), rfA (blk TE 25 0), rfB (blk TE 25 0), 25, .busy⟩]⟩
theorem zmk (k : Nat) (p0 : za) (v1 : Int) (v8 : zt2) (u1_9 r0 : (SL Int)) (v202 : Bool) (rc : zt12) (fs : List Fr) (hfs : fs.length ≤ 8) (hrc : zxc p0 v1 v8 rc fs) (r : (Bool × (SL Int))) (h : z1g k p0 v1 v8 u1_9 r0 v202 rc = some r) : ev TE 25 (cnd TE 25 26) ⟨(zix p0 v1 v8 k r0 ++ [(26, (xb v202))]), ⟨[], ([[(zc 1 (zb p0)), (5, (.cells [(.d (.fn 90 [] []))])), (6, (.cells [(.d (dl eI u1_9.1 u1_9.2))]))], [(2, (.cells [(.yld 0)])), (3, (.cells [(.fn 89 [] [(.d (.pin [(dl zd v8.1.1 v8.1.2), (dl (eL eI) v8.2.1.1 v8.2.1.2), (dl (aI 2) v8.2.2.1.1 v8.2.2.1.2), (di v8.2.2.2.1), (.mp (em (fun k => D.agg (zh k)) (fun b => D.b b) v8.2.2.2.2))])), (.ptr 1 2 0), (.ptr 1 3 0)])]))]] ++ (fs ++ [[]]))⟩, [⟨(zCr p0 v1 v8 k), 0, rfP (blk TE 25 0), rfA (blk TE 25 0), rfB (blk TE 25 0), 25, .busy⟩]⟩ = some (.nor, zAe p0 v1 v8 u1_9 r0 v202 rc fs r) := by
 unfold z1g at h
 refine zm h (fun h401 g1 => ?_) (fun h401 g1 => ?_)
 ·subst h401
  refine zi g1 (fun v402 h403 g2 => ?_)
  exact zq (g := fun r => (Ex.nor, zAe p0 v1 v8 u1_9 r0 true rc fs r)) g2 (zqe [(25, 9, 1, .c (dl eI v402.1 v402.2))] [] (ob (z7m k r0 _ h403) ob0) (by cases f8 hfs <;> kernel_rfl))
 ·subst h401
  exact zq (g := fun r => (Ex.nor, zAe p0 v1 v8 u1_9 r0 false rc fs r)) g1 (zqe [] [] ob0 (by cases f8 hfs <;> kernel_rfl))
noncomputable def z3z (r0 : (SL Int)) (v8 : zt2) (v202 s4_10 : Int) (r : Bool) : TM := [(0, (.d (dl eI r0.1 r0.2))), (1, (.d (.pin [(dl zd v8.1.1 v8.1.2), (dl (eL eI) v8.2.1.1 v8.2.1.2), (dl (aI 2) v8.2.2.1.1 v8.2.2.1.2), (di v8.2.2.2.1), (.mp (em (fun k => D.agg (zh k)) (fun b => D.b b) v8.2.2.2.2))]))), (2, (.ptr 1 2 0)), (3, (.ptr 1 3 0)), (5, (xb false)), (6, (xi (r0.1.length : Int))), (15, (xb false)), (25, (xi (if (w64 (v202 + 1)) < v8.2.2.2.1 then (w64 (v202 + 1)) else v8.2.2.2.1))), (26, (xi s4_10)), (27, (xb true)), (7, (xi s4_10)), (43, (xb r))]
noncomputable def zBe (p0 : za) (v1 : Int) (v8 : zt2) (r0 : (SL Int)) (v202 s4_10 : Int) (s4_15 : (SL Int)) (rc : zt12) (fs : List Fr) (r : Bool) : St := ⟨(z3z r0 v8 v202 s4_10 r), ⟨[], ([[(zc 1 (zb p0)), (5, (.cells [(.d (.fn 90 [] []))])), (6, (.cells [(.d (dl eI s4_15.1 s4_15.2))]))], [(2, (.cells [(.yld 0)])), (3, (.cells [(.fn 89 [] [(.d (.pin [(dl zd v8.1.1 v8.1.2), (dl (eL eI) v8.2.1.1 v8.2.1.2), (dl (aI 2) v8.2.2.1.1 v8.2.2.1.2), (di v8.2.2.2.1), (.mp (em (fun k => D.agg (zh k)) (fun b => D.b b) v8.2.2.2.2))])), (.ptr 1 2 0), (.ptr 1 3 0)])]))]] ++ fs)⟩, [⟨(zAn p0 v1 v8), 0, rfP (blk TE 25 0), rfA (blk TE 25 0), rfB (blk TE 25 0), 25, .rdy⟩]⟩
noncomputable def zYz (r0 : (SL Int)) (v8 : zt2) (k : Nat) (v202 s4_10 : Int) : TM := [(0, (.d (dl eI r0.1 r0.2))), (1, (.d (.pin [(dl zd v8.1.1 v8.1.2), (dl (eL eI) v8.2.1.1 v8.2.1.2), (dl (aI 2) v8.2.2.1.1 v8.2.2.1.2), (di v8.2.2.2.1), (.mp (em (fun k => D.agg (zh k)) (fun b => D.b b) v8.2.2.2.2))]))), (2, (.ptr 1 2 0)), (3, (.ptr 1 3 0)), (5, (xb false)), (6, (xi (r0.1.length : Int))), (15, (xb false)), (25, (xi (if (w64 (v202 + 1)) < v8.2.2.2.1 then (w64 (v202 + 1)) else v8.2.2.2.1))), (26, (xi s4_10)), (27, (xb true)), (7, (xi s4_10))]
theorem z4j (k : Nat) (p0 : za) (v1 : Int) (v8 : zt2) (r0 : (SL Int)) (v202 s4_10 : Int) (s4_15 : (SL Int)) (rc : zt12) (fs : List Fr) (hfs : fs.length ≤ 8) (hrc : zxc p0 v1 v8 rc fs) (r : Bool) (h : zMf k p0 v1 v8 r0 v202 s4_10 s4_15 rc = some r) : ev TE 89 (rgn TE 89 7) ⟨(zYz r0 v8 k v202 s4_10), ⟨[], ([[(zc 1 (zb p0)), (5, (.cells [(.d (.fn 90 [] []))])), (6, (.cells [(.d (dl eI s4_15.1 s4_15.2))]))], [(2, (.cells [(.yld 0)])), (3, (.cells [(.fn 89 [] [(.d (.pin [(dl zd v8.1.1 v8.1.2), (dl (eL eI) v8.2.1.1 v8.2.1.2), (dl (aI 2) v8.2.2.1.1 v8.2.2.1.2), (di v8.2.2.2.1), (.mp (em (fun k => D.agg (zh k)) (fun b => D.b b) v8.2.2.2.2))])), (.ptr 1 2 0), (.ptr 1 3 0)])]))]] ++ fs)⟩, [⟨(zCr p0 v1 v8 k), 0, rfP (blk TE 25 0), rfA (blk TE 25 0), rfB (blk TE 25 0), 25, .rdy⟩]⟩ = some (.nor, zBe p0 v1 v8 r0 v202 s4_10 s4_15 rc fs r) := by
 unfold zMf at h
 refine zi h (fun v701 h702 g1 => ?_)
 refine zm g1 (fun h703 g2 => ?_) (fun h703 g2 => ?_)
 ·exact zq (g := fun r => (Ex.nor, zBe p0 v1 v8 r0 v202 s4_10 s4_15 rc fs r)) g2 (zqe [(89, 7, 4, .c (db v701)), (89, 7, 6, .q (xb true))] [] (ob (zZ k (⟨(⟨v8.1, v8.2.1, v8.2.2.1, v8.2.2.2.1⟩ : za), v8.2.2.2.2⟩ : zj) r0 (r0.1.length : Int) s4_10 _ h702) (ob (o_b h703) ob0)) (by cases f8 hfs <;> kernel_rfl))
 ·refine zi g2 (fun v704 h705 g3 => ?_)
  refine zi g3 (fun v706 h707 g4 => ?_)
  exact zq (g := fun r => (Ex.nor, zBe p0 v1 v8 r0 v202 s4_10 s4_15 rc fs r)) g4 (zqe [(89, 7, 4, .c (db v701)), (89, 7, 6, .q (xb false)), (89, 7, 10, .c (.agg (aB 8 v704))), (89, 7, 12, .c (db v706))] [] (ob (zZ k (⟨(⟨v8.1, v8.2.1, v8.2.2.1, v8.2.2.2.1⟩ : za), v8.2.2.2.2⟩ : zj) r0 (r0.1.length : Int) s4_10 _ h702) (ob (o_b h703) (ob (zGf k r0 s4_10 _ h705) (ob (zic k (⟨(⟨v8.1, v8.2.1, v8.2.2.1, v8.2.2.2.1⟩ : za), v8.2.2.2.2⟩ : zj) v704 (r0.1.length : Int) _ h707) ob0)))) (by cases f8 hfs <;> kernel_rfl))
noncomputable def zlA (r0 : (SL Int)) (v8 : zt2) (v202 s4_10 : Int) : TM := [(0, (.d (dl eI r0.1 r0.2))), (1, (.d (.pin [(dl zd v8.1.1 v8.1.2), (dl (eL eI) v8.2.1.1 v8.2.1.2), (dl (aI 2) v8.2.2.1.1 v8.2.2.1.2), (di v8.2.2.2.1), (.mp (em (fun k => D.agg (zh k)) (fun b => D.b b) v8.2.2.2.2))]))), (2, (.ptr 1 2 0)), (3, (.ptr 1 3 0)), (5, (xb false)), (6, (xi (r0.1.length : Int))), (15, (xb false)), (25, (xi (if (w64 (v202 + 1)) < v8.2.2.2.1 then (w64 (v202 + 1)) else v8.2.2.2.1))), (26, (xi s4_10))]
noncomputable def zZo (p0 : za) (v1 : Int) (v8 : zt2) (r0 : (SL Int)) (v202 : Int) (rc : zt12) (fs : List Fr) (s4_10 : Int) (s4_15 : (SL Int)) : St := ⟨(zlA r0 v8 v202 s4_10), ⟨[], ([[(zc 1 (zb p0)), (5, (.cells [(.d (.fn 90 [] []))])), (6, (.cells [(.d (dl eI s4_15.1 s4_15.2))]))], [(2, (.cells [(.yld 0)])), (3, (.cells [(.fn 89 [] [(.d (.pin [(dl zd v8.1.1 v8.1.2), (dl (eL eI) v8.2.1.1 v8.2.1.2), (dl (aI 2) v8.2.2.1.1 v8.2.2.1.2), (di v8.2.2.2.1), (.mp (em (fun k => D.agg (zh k)) (fun b => D.b b) v8.2.2.2.2))])), (.ptr 1 2 0), (.ptr 1 3 0)])]))]] ++ fs)⟩, [⟨(zAn p0 v1 v8), 0, rfP (blk TE 25 0), rfA (blk TE 25 0), rfB (blk TE 25 0), 25, .rdy⟩]⟩
noncomputable def zJz (r0 : (SL Int)) (v8 : zt2) (v202 : Int) (r : (Int × (SL Int))) : TM := [(0, (.d (dl eI r0.1 r0.2))), (1, (.d (.pin [(dl zd v8.1.1 v8.1.2), (dl (eL eI) v8.2.1.1 v8.2.1.2), (dl (aI 2) v8.2.2.1.1 v8.2.2.1.2), (di v8.2.2.2.1), (.mp (em (fun k => D.agg (zh k)) (fun b => D.b b) v8.2.2.2.2))]))), (2, (.ptr 1 2 0)), (3, (.ptr 1 3 0)), (5, (xb false)), (6, (xi (r0.1.length : Int))), (15, (xb false)), (25, (xi (if (w64 (v202 + 1)) < v8.2.2.2.1 then (w64 (v202 + 1)) else v8.2.2.2.1))), (26, (xi r.1)), (27, (xb false))]
noncomputable def z4d (p0 : za) (v1 : Int) (v8 : zt2) (r0 : (SL Int)) (v202 : Int) (rc : zt12) (fs : List Fr) (r : (Int × (SL Int))) : St := ⟨(zJz r0 v8 v202 r), ⟨[], ([[(zc 1 (zb p0)), (5, (.cells [(.d (.fn 90 [] []))])), (6, (.cells [(.d (dl eI r.2.1 r.2.2))]))], [(2, (.cells [(.yld 0)])), (3, (.cells [(.fn 89 [] [(.d (.pin [(dl zd v8.1.1 v8.1.2), (dl (eL eI) v8.2.1.1 v8.2.1.2), (dl (aI 2) v8.2.2.1.1 v8.2.2.1.2), (di v8.2.2.2.1), (.mp (em (fun k => D.agg (zh k)) (fun b => D.b b) v8.2.2.2.2))])), (.ptr 1 2 0), (.ptr 1 3 0)])]))]] ++ fs)⟩, [⟨(zAn p0 v1 v8), 0, rfP (blk TE 25 0), rfA (blk TE 25 0), rfB (blk TE 25 0), 25, .rdy⟩]⟩
noncomputable def zVo (p0 : za) (v1 : Int) (v8 : zt2) (r0 : (SL Int)) (v202 : Int) (rc : zt12) (fs : List Fr) : (Int × (SL Int)) → Ex × St := fun r => ((.exit 0), z4d p0 v1 v8 r0 v202 rc fs r)
theorem zkk (k : Nat) (p0 : za) (v1 : Int) (v8 : zt2) (r0 : (SL Int)) (v202 : Int) (rc : zt12) (fs : List Fr) (hfs : fs.length ≤ 8) (hrc : zxc p0 v1 v8 rc fs) (s4_10 : Int) (s4_15 : (SL Int)) (x : (Int × (SL Int)) ⊕ (Int × (SL Int))) (h : zgd k p0 v1 v8 r0 v202 rc s4_10 s4_15 = some x) : zF TE 89 (blk TE 89 0) (fun s : (Int × (SL Int)) => zZo p0 v1 v8 r0 v202 rc fs s.1 s.2) (zVo p0 v1 v8 r0 v202 rc fs) (s4_10, s4_15) x := by
 unfold zgd at h
 refine zm h (fun h601 g1 => ?_) (fun h601 g1 => ?_)
 ·refine zi g1 (fun v602 h603 g2 => ?_)
  refine zm g2 (fun h604 g3 => ?_) (fun h604 g3 => ?_)
  ·subst h604
   exact zqn ((w64 (s4_10 + 1)), s4_15) [] [(89, 5, 0, .q (xb true))] [(89, 1000007, (.nor, zBe p0 v1 v8 r0 v202 s4_10 s4_15 rc fs true))] g3 (ob (o_b h601) (ob (z4j k p0 v1 v8 r0 v202 s4_10 s4_15 rc fs hfs hrc _ h603) ob0)) (by cases f8 hfs <;> kernel_rfl)
  ·subst h604
   refine zm g3 (fun h605 g4 => ?_) (fun h605 g4 => ?_)
   ·cases g4
   ·refine zib g4 (fun h606 g5 => ?_)
    refine zi g5 (fun v607 h608 g6 => ?_)
    exact zqn ((w64 (s4_10 + 1)), v607) [] [(89, 5, 0, .q (xb true)), (89, 8, 4, .q (.d (dl eI r0.1 (ccap r0.2)))), (89, 8, 7, .q (.d (dl eI (r0.1 ++ [s4_10]) .ro))), (89, 8, 8, .i (db true) ⟨[], ([[(1, (.cells ((zb p0).map .d))), (5, (.cells [(.d (.fn 90 [] []))])), (6, (.cells [(.d (dl eI v607.1 v607.2))]))], [(2, (.cells [(.yld 0)])), (3, (.cells [(.fn 89 [] [(.d (.pin [(dl zd v8.1.1 v8.1.2), (dl (eL eI) v8.2.1.1 v8.2.1.2), (dl (aI 2) v8.2.2.1.1 v8.2.2.1.2), (di v8.2.2.2.1), (.mp (em (fun k => D.agg (zh k)) (fun b => D.b b) v8.2.2.2.2))])), (.ptr 1 2 0), (.ptr 1 3 0)])]))]] ++ fs)⟩ [⟨[(0, (.d (.agg (zb p0)))), (1, (.ptr 0 1 0)), (2, (.d (.sl [] .nil))), (3, (xi 0)), (4, (xi v1)), (11, (xb false)), (5, (.ptr 0 5 0)), (6, (.ptr 0 6 0)), (16, (.d (.fn 88 [] [(.pin [(dl zd v8.1.1 v8.1.2), (dl (eL eI) v8.2.1.1 v8.2.1.2), (dl (aI 2) v8.2.2.1.1 v8.2.2.1.2), (di v8.2.2.2.1), (.mp (em (fun k => D.agg (zh k)) (fun b => D.b b) v8.2.2.2.2))])])))], 0, rfP (blk TE 25 0), rfA (blk TE 25 0), rfB (blk TE 25 0), 25, .rdy⟩])] [(89, 1000007, (.nor, zBe p0 v1 v8 r0 v202 s4_10 s4_15 rc fs false))] g6 (ob (o_b h601) (ob (z4j k p0 v1 v8 r0 v202 s4_10 s4_15 rc fs hfs hrc _ h603) (ob (zmo (e := eI) (z := 1) r0.1 r0.2) (ob (o_ad (P := TE.P) (φ := fun _ _ => none) (T := 27) (q := (1, [(di 0)])) (c := (ccap r0.2)) (e := eI) r0.1 s4_10 (by kernel_rfl) (fun _ => rfl) h605 h606) (ob (hrc ([] : Fr) s4_15 ((r0.1 ++ [s4_10]), .ro) _ h608) ob0))))) (by cases f8 hfs <;> kernel_rfl)
 ·exact zqo [(89, 5, 0, .q (xb false))] [] g1 (ob (o_b h601) ob0) (by cases f8 hfs <;> kernel_rfl)
theorem zVn (k : Nat) (p0 : za) (v1 : Int) (v8 : zt2) (rc : zt12) (hrc : zxc p0 v1 v8 rc []) (u1_9 r0 x : (SL Int)) (h : zAb k p0 v1 v8 rc u1_9 r0 = some x) : zMb TE (ev TE) 89 [(.d (dl eI r0.1 r0.2)), (.d (.pin [(dl zd v8.1.1 v8.1.2), (dl (eL eI) v8.2.1.1 v8.2.1.2), (dl (aI 2) v8.2.2.1.1 v8.2.2.1.2), (di v8.2.2.2.1), (.mp (em (fun k => D.agg (zh k)) (fun b => D.b b) v8.2.2.2.2))])), (.ptr 1 2 0), (.ptr 1 3 0)] ⟨[(2, (.cells [(.yld 0)])), (3, (.cells [(.fn 89 [] [(.d (.pin [(dl zd v8.1.1 v8.1.2), (dl (eL eI) v8.2.1.1 v8.2.1.2), (dl (aI 2) v8.2.2.1.1 v8.2.2.1.2), (di v8.2.2.2.1), (.mp (em (fun k => D.agg (zh k)) (fun b => D.b b) v8.2.2.2.2))])), (.ptr 1 2 0), (.ptr 1 3 0)])]))], [[(zc 1 (zb p0)), (5, (.cells [(.d (.fn 90 [] []))])), (6, (.cells [(.d (dl eI u1_9.1 u1_9.2))]))]]⟩ [⟨(zCr p0 v1 v8 k), 0, rfP (blk TE 25 0), rfA (blk TE 25 0), rfB (blk TE 25 0), 25, .rdy⟩] = some (zTf p0 v1 v8 x) := by
 unfold zAb at h
 refine zm h (fun h201 g1 => ?_) (fun h201 g1 => ?_)
 ·refine zi g1 (fun v202 h203 g2 => ?_)
  refine zi g2 (fun v204 h205 g3 => ?_)
  exact zkd (g := zTf p0 v1 v8) g3 (z0b (n := 80) (V := [(89, 1, 1, .q (xi (r0.1.length : Int))), (89, 2, 4, .q (xi (v8.1.1.length : Int))), (89, 2, 5, .q (xb true))]) (C := [(25, 1000008, (.nor, zye p0 v1 v8 u1_9 r0 rc ([] : List Fr) v202)), (25, 2000026, (.nor, zAe p0 v1 v8 u1_9 r0 v202 rc ([] : List Fr) v204))]) (ob (zp eI r0.1) (ob (zp zd v8.1.1) (ob (o_b h201) (ob (zbk k p0 v1 v8 u1_9 r0 rc ([] : List Fr) (Nat.zero_le _) hrc _ h203) (ob (zmk k p0 v1 v8 u1_9 r0 v202 rc ([] : List Fr) (Nat.zero_le _) hrc _ h205) ob0))))) (by kernel_rfl))
 ·refine zi g1 (fun v202 h203 g2 => ?_)
  refine zi g2 (fun v204 h205 g3 => ?_)
  exact zkd (g := zTf p0 v1 v8) g3 (z0b (n := 80) (V := [(89, 1, 1, .q (xi (r0.1.length : Int))), (89, 2, 4, .q (xi (v8.1.1.length : Int))), (89, 2, 5, .q (xb false)), (89, 4, 4, .c (di v202))]) (C := [(89, 0, (.nor, z4d p0 v1 v8 r0 v202 rc ([] : List Fr) v204))]) (ob (zp eI r0.1) (ob (zp zd v8.1.1) (ob (o_b h201) (ob (zW k r0 _ h203) (ob (zu (id := 0) (r' := (.nor, z4d p0 v1 v8 r0 v202 rc ([] : List Fr) v204)) (zQb (zkk k p0 v1 v8 r0 v202 rc ([] : List Fr) (Nat.zero_le _) hrc) k _ _ h205) rfl) ob0))))) (by kernel_rfl))
theorem z0n (k : Nat) (p0 : za) (v1 : Int) (v8 : zt2) (rc : zt12) (f : Fr) (fs : List Fr) (hfs : fs.length + 1 ≤ 8) (hrc : zxc p0 v1 v8 rc (fs ++ [f])) (u1_9 r0 x : (SL Int)) (h : zAb k p0 v1 v8 rc u1_9 r0 = some x) : zMb TE (ev TE) 89 [(.d (dl eI r0.1 r0.2)), (.d (.pin [(dl zd v8.1.1 v8.1.2), (dl (eL eI) v8.2.1.1 v8.2.1.2), (dl (aI 2) v8.2.2.1.1 v8.2.2.1.2), (di v8.2.2.2.1), (.mp (em (fun k => D.agg (zh k)) (fun b => D.b b) v8.2.2.2.2))])), (.ptr 1 2 0), (.ptr 1 3 0)] ⟨f, ([[(zc 1 (zb p0)), (5, (.cells [(.d (.fn 90 [] []))])), (6, (.cells [(.d (dl eI u1_9.1 u1_9.2))]))], [(2, (.cells [(.yld 0)])), (3, (.cells [(.fn 89 [] [(.d (.pin [(dl zd v8.1.1 v8.1.2), (dl (eL eI) v8.2.1.1 v8.2.1.2), (dl (aI 2) v8.2.2.1.1 v8.2.2.1.2), (di v8.2.2.2.1), (.mp (em (fun k => D.agg (zh k)) (fun b => D.b b) v8.2.2.2.2))])), (.ptr 1 2 0), (.ptr 1 3 0)])]))]] ++ fs)⟩ [⟨(zCr p0 v1 v8 k), 0, rfP (blk TE 25 0), rfA (blk TE 25 0), rfB (blk TE 25 0), 25, .rdy⟩] = some (z1f p0 v1 v8 f fs x) := by
 unfold zAb at h
 refine zm h (fun h201 g1 => ?_) (fun h201 g1 => ?_)
 ·refine zi g1 (fun v202 h203 g2 => ?_)
  refine zi g2 (fun v204 h205 g3 => ?_)
  exact zkd (g := z1f p0 v1 v8 f fs) g3 (z0b (n := 80) (V := [(89, 1, 1, .q (xi (r0.1.length : Int))), (89, 2, 4, .q (xi (v8.1.1.length : Int))), (89, 2, 5, .q (xb true))]) (C := [(25, 1000008, (.nor, zye p0 v1 v8 u1_9 r0 rc (fs ++ [f]) v202)), (25, 2000026, (.nor, zAe p0 v1 v8 u1_9 r0 v202 rc (fs ++ [f]) v204))]) (ob (zp eI r0.1) (ob (zp zd v8.1.1) (ob (o_b h201) (ob (zbk k p0 v1 v8 u1_9 r0 rc (fs ++ [f]) (z5k f hfs) hrc _ h203) (ob (zmk k p0 v1 v8 u1_9 r0 v202 rc (fs ++ [f]) (z5k f hfs) hrc _ h205) ob0))))) (by cases f8 (Nat.le_of_succ_le hfs) <;> kernel_rfl))
 ·refine zi g1 (fun v202 h203 g2 => ?_)
  refine zi g2 (fun v204 h205 g3 => ?_)
  exact zkd (g := z1f p0 v1 v8 f fs) g3 (z0b (n := 80) (V := [(89, 1, 1, .q (xi (r0.1.length : Int))), (89, 2, 4, .q (xi (v8.1.1.length : Int))), (89, 2, 5, .q (xb false)), (89, 4, 4, .c (di v202))]) (C := [(89, 0, (.nor, z4d p0 v1 v8 r0 v202 rc (fs ++ [f]) v204))]) (ob (zp eI r0.1) (ob (zp zd v8.1.1) (ob (o_b h201) (ob (zW k r0 _ h203) (ob (zu (id := 0) (r' := (.nor, z4d p0 v1 v8 r0 v202 rc (fs ++ [f]) v204)) (zQb (zkk k p0 v1 v8 r0 v202 rc (fs ++ [f]) (z5k f hfs) hrc) k _ _ h205) rfl) ob0))))) (by cases f8 (Nat.le_of_succ_le hfs) <;> kernel_rfl))
theorem zEj (k : Nat) (p0 : za) (v1 : Int) (v8 : zt2) : ∀ (n : Nat) (fs : List Fr), fs.length + n ≤ 8 → zxc p0 v1 v8 (zqb k p0 v1 v8 n) fs
 | 0, fs, hfs => fun f u1_9 r0 x h => by cases h
 | n + 1, fs, hfs => fun f u1_9 r0 x h => z0n k p0 v1 v8 _ f fs (by omega) (zEj k p0 v1 v8 n (fs ++ [f]) (by simp; omega)) u1_9 r0 x h
theorem z2j (k : Nat) (p0 : za) (v1 : Int) (v8 : zt2) (u1_9 r0 x : (SL Int)) (h : zqb k p0 v1 v8 9 u1_9 r0 = some x) : zMb TE (ev TE) 89 [(.d (dl eI r0.1 r0.2)), (.d (.pin [(dl zd v8.1.1 v8.1.2), (dl (eL eI) v8.2.1.1 v8.2.1.2), (dl (aI 2) v8.2.2.1.1 v8.2.2.1.2), (di v8.2.2.2.1), (.mp (em (fun k => D.agg (zh k)) (fun b => D.b b) v8.2.2.2.2))])), (.ptr 1 2 0), (.ptr 1 3 0)] ⟨[(2, (.cells [(.yld 0)])), (3, (.cells [(.fn 89 [] [(.d (.pin [(dl zd v8.1.1 v8.1.2), (dl (eL eI) v8.2.1.1 v8.2.1.2), (dl (aI 2) v8.2.2.1.1 v8.2.2.1.2), (di v8.2.2.2.1), (.mp (em (fun k => D.agg (zh k)) (fun b => D.b b) v8.2.2.2.2))])), (.ptr 1 2 0), (.ptr 1 3 0)])]))], [[(zc 1 (zb p0)), (5, (.cells [(.d (.fn 90 [] []))])), (6, (.cells [(.d (dl eI u1_9.1 u1_9.2))]))]]⟩ [⟨(zCr p0 v1 v8 k), 0, rfP (blk TE 25 0), rfA (blk TE 25 0), rfB (blk TE 25 0), 25, .rdy⟩] = some (zTf p0 v1 v8 x) := zVn k p0 v1 v8 _ (zEj k p0 v1 v8 8 [] (by decide)) u1_9 r0 x h
theorem z9 (k : Nat) (p0 : za) (r : ((SL Int) × Int)) (h : z6f k p0 = some r) : zx TE (ev TE) 25 [(.agg (zb p0))] = some (zsh r) := by
 unfold z6f at h
 refine zi h (fun v1 h2 g1 => ?_)
 refine zm g1 (fun h3 g2 => ?_) (fun h3 g2 => ?_)
 ·exact zt (g := zsh) g2 (zqc [(25, 1, 1, .c (di v1)), (25, 2, 1, .q (xb true))] [] (ob (zA k p0 _ h2) (ob (o_b h3) ob0)) (by kernel_rfl))
 ·refine zi g2 (fun v4 h5 g3 => ?_)
  refine zi g3 (fun v6 h7 g4 => ?_)
  refine zi g4 (fun v8 h9 g5 => ?_)
  refine zi g5 (fun v10 h11 g6 => ?_)
  refine zm g6 (fun h12 g7 => ?_) (fun h12 g7 => ?_)
  ·exact zt (g := zsh) g7 (zqc [(25, 1, 1, .c (di v1)), (25, 2, 1, .q (xb false)), (25, 4, 0, .c (.agg [(.fn 90 [] [])])), (25, 6, 1, .c (.agg (zo v6))), (25, 6, 2, .c (.fn 88 [] [(.pin [(dl zd v8.1.1 v8.1.2), (dl (eL eI) v8.2.1.1 v8.2.1.2), (dl (aI 2) v8.2.2.1.1 v8.2.2.1.2), (di v8.2.2.2.1), (.mp (em (fun k => D.agg (zh k)) (fun b => D.b b) v8.2.2.2.2))])])), (88, 3, 1, .i (db true) ⟨[(2, (.cells [(.yld 0)])), (3, (.cells [(.fn 89 [] [(.d (.pin [(dl zd v8.1.1 v8.1.2), (dl (eL eI) v8.2.1.1 v8.2.1.2), (dl (aI 2) v8.2.2.1.1 v8.2.2.1.2), (di v8.2.2.2.1), (.mp (em (fun k => D.agg (zh k)) (fun b => D.b b) v8.2.2.2.2))])), (.ptr 1 2 0), (.ptr 1 3 0)])]))], [[(1, (.cells ((zb p0).map .d))), (5, (.cells [(.d (.fn 90 [] []))])), (6, (.cells [(.d (dl eI v10.1 v10.2))]))]]⟩ [⟨[(0, (.d (.agg (zb p0)))), (1, (.ptr 0 1 0)), (2, (.d (.sl [] .nil))), (3, (xi 0)), (4, (xi v1)), (11, (xb false)), (5, (.ptr 0 5 0)), (6, (.ptr 0 6 0)), (16, (.d (.fn 88 [] [(.pin [(dl zd v8.1.1 v8.1.2), (dl (eL eI) v8.2.1.1 v8.2.1.2), (dl (aI 2) v8.2.2.1.1 v8.2.2.1.2), (di v8.2.2.2.1), (.mp (em (fun k => D.agg (zh k)) (fun b => D.b b) v8.2.2.2.2))])])))], 0, rfP (blk TE 25 0), rfA (blk TE 25 0), rfB (blk TE 25 0), 25, .rdy⟩]), (25, 10, 1, .q (xb true))] [] (ob (zA k p0 _ h2) (ob (o_b h3) (ob (zBl k _ h5) (ob (zsb k p0 _ h7) (ob (zec k v6 _ h9) (ob (z2j k p0 v1 v8 ([], Cap.nil) ([], Cap.nil) _ h11) (ob (o_b h12) ob0))))))) (by kernel_rfl))
  ·exact zt (g := zsh) g7 (zqc [(25, 1, 1, .c (di v1)), (25, 2, 1, .q (xb false)), (25, 4, 0, .c (.agg [(.fn 90 [] [])])), (25, 6, 1, .c (.agg (zo v6))), (25, 6, 2, .c (.fn 88 [] [(.pin [(dl zd v8.1.1 v8.1.2), (dl (eL eI) v8.2.1.1 v8.2.1.2), (dl (aI 2) v8.2.2.1.1 v8.2.2.1.2), (di v8.2.2.2.1), (.mp (em (fun k => D.agg (zh k)) (fun b => D.b b) v8.2.2.2.2))])])), (88, 3, 1, .i (db true) ⟨[(2, (.cells [(.yld 0)])), (3, (.cells [(.fn 89 [] [(.d (.pin [(dl zd v8.1.1 v8.1.2), (dl (eL eI) v8.2.1.1 v8.2.1.2), (dl (aI 2) v8.2.2.1.1 v8.2.2.1.2), (di v8.2.2.2.1), (.mp (em (fun k => D.agg (zh k)) (fun b => D.b b) v8.2.2.2.2))])), (.ptr 1 2 0), (.ptr 1 3 0)])]))], [[(1, (.cells ((zb p0).map .d))), (5, (.cells [(.d (.fn 90 [] []))])), (6, (.cells [(.d (dl eI v10.1 v10.2))]))]]⟩ [⟨[(0, (.d (.agg (zb p0)))), (1, (.ptr 0 1 0)), (2, (.d (.sl [] .nil))), (3, (xi 0)), (4, (xi v1)), (11, (xb false)), (5, (.ptr 0 5 0)), (6, (.ptr 0 6 0)), (16, (.d (.fn 88 [] [(.pin [(dl zd v8.1.1 v8.1.2), (dl (eL eI) v8.2.1.1 v8.2.1.2), (dl (aI 2) v8.2.2.1.1 v8.2.2.1.2), (di v8.2.2.2.1), (.mp (em (fun k => D.agg (zh k)) (fun b => D.b b) v8.2.2.2.2))])])))], 0, rfP (blk TE 25 0), rfA (blk TE 25 0), rfB (blk TE 25 0), 25, .rdy⟩]), (25, 10, 1, .q (xb false)), (25, 12, 2, .q (xi (v10.1.length : Int))), (25, 12, 4, .q (xi (v10.1.length : Int))), (25, 12, 5, .q (.d (dl eI v10.1 (ccap v10.2))))] [] (ob (zA k p0 _ h2) (ob (o_b h3) (ob (zBl k _ h5) (ob (zsb k p0 _ h7) (ob (zec k v6 _ h9) (ob (z2j k p0 v1 v8 ([], Cap.nil) ([], Cap.nil) _ h11) (ob (o_b h12) (ob (zp eI v10.1) (ob (zp eI v10.1) (ob (zmo (e := eI) (z := 1) v10.1 v10.2) ob0)))))))))) (by kernel_rfl))
noncomputable def zOz (p0 p1 : (SL Int)) (s1_3 : Bool) (s1_4 : Int) (r : Bool) : TM := [(0, (.d (dl eI p0.1 p0.2))), (1, (.d (dl eI p1.1 p1.2))), (4, (xb false)), (5, (xb s1_3)), (6, (xi s1_4)), (18, (xb r))]
noncomputable def zPc (p0 p1 : (SL Int)) (s1_3 : Bool) (s1_4 : Int) (r : Bool) : St := ⟨(zOz p0 p1 s1_3 s1_4 r), ⟨[], []⟩, []⟩
noncomputable def zDx (p0 p1 : (SL Int)) (s1_3 : Bool) (s1_4 : Int) : TM := [(0, (.d (dl eI p0.1 p0.2))), (1, (.d (dl eI p1.1 p1.2))), (4, (xb false)), (5, (xb s1_3)), (6, (xi s1_4))]
theorem zgi (k : Nat) (p0 p1 : (SL Int)) (s1_3 : Bool) (s1_4 : Int) (r : Bool) (h : zOg k p0 p1 s1_3 s1_4 = some r) : ev TE 27 (rgn TE 27 3) ⟨(zDx p0 p1 s1_3 s1_4), ⟨[], []⟩, []⟩ = some (.nor, zPc p0 p1 s1_3 s1_4 r) := by
 unfold zOg at h
 refine zm h (fun h401 g1 => ?_) (fun h401 g1 => ?_)
 ·exact zq (g := fun r => (Ex.nor, zPc p0 p1 s1_3 s1_4 r)) g1 (zqe [(27, 3, 1, .q (xb true)), (27, 3, 4, .q (xi (p0.1.length : Int)))] [] (ob (o_b h401) (ob (zp eI p0.1) ob0)) (by kernel_rfl))
 ·exact zq (g := fun r => (Ex.nor, zPc p0 p1 s1_3 s1_4 r)) g1 (zqe [(27, 3, 1, .q (xb false))] [] (ob (o_b h401) ob0) (by kernel_rfl))
noncomputable def zSm (p0 p1 : (SL Int)) (s1_3 : Bool) (s1_4 : Int) : St := ⟨(zDx p0 p1 s1_3 s1_4), ⟨[], []⟩, []⟩
noncomputable def zIA (p0 p1 : (SL Int)) (r : zt1) : TM := [(0, (.d (dl eI p0.1 p0.2))), (1, (.d (dl eI p1.1 p1.2))), (4, (xb false)), (5, (xb r.1)), (6, (xi r.2)), (18, (xb false))]
noncomputable def zYf (p0 p1 : (SL Int)) (r : zt1) : St := ⟨(zIA p0 p1 r), ⟨[], []⟩, []⟩
noncomputable def zQm (p0 p1 : (SL Int)) : (Bool × Int) → Ex × St := fun r => ((.exit 0), zYf p0 p1 r)
theorem zWl (k : Nat) (p0 p1 : (SL Int)) (s1_3 : Bool) (s1_4 : Int) (x : (Bool × Int) ⊕ (Bool × Int)) (h : zRg k p0 p1 s1_3 s1_4 = some x) : zF TE 27 (blk TE 27 0) (fun s : (Bool × Int) => zSm p0 p1 s.1 s.2) (zQm p0 p1) (s1_3, s1_4) x := by
 unfold zRg at h
 refine zi h (fun v301 h302 g1 => ?_)
 refine zm g1 (fun h303 g2 => ?_) (fun h303 g2 => ?_)
 ·subst h303
  refine zi g2 (fun v304 h305 g3 => ?_)
  refine zi g3 (fun v306 h307 g4 => ?_)
  exact zqn ((v304 == v306), (w64 (s1_4 + 1))) [] [(27, 5, 2, .q (.d (.pin [(di v304)]))), (27, 5, 6, .q (.d (.pin [(di v306)])))] [(27, 1000003, (.nor, zPc p0 p1 s1_3 s1_4 true))] g4 (ob (zgi k p0 p1 s1_3 s1_4 _ h302) (ob (o_ia (e := eI) 1 h305 rfl) (ob (o_ia (e := eI) 1 h307 rfl) ob0))) (by kernel_rfl)
 ·subst h303
  exact zqo [] [(27, 1000003, (.nor, zPc p0 p1 s1_3 s1_4 false))] g2 (ob (zgi k p0 p1 s1_3 s1_4 _ h302) ob0) (by kernel_rfl)
theorem zNg (k : Nat) (p0 p1 : (SL Int)) (r : Bool) (h : zFe k p0 p1 = some r) : zx TE (ev TE) 27 [(dl eI p0.1 p0.2), (dl eI p1.1 p1.2)] = some (zLj r) := by
 unfold zFe at h
 refine zi h (fun v1 h2 g1 => ?_)
 exact zt (g := zLj) g1 (zqc [(27, 1, 1, .q (xi (p0.1.length : Int))), (27, 1, 3, .q (xi (p1.1.length : Int)))] [(27, 0, (.nor, zYf p0 p1 v1))] (ob (zp eI p0.1) (ob (zp eI p1.1) (ob (zu (id := 0) (r' := (.nor, zYf p0 p1 v1)) (zQb (zWl k p0 p1) k _ _ h2) rfl) ob0))) (by kernel_rfl))
theorem zK (k : Nat) (p0 : za) (r : zt0) (h : zff k p0 = some r) : zx TE (ev TE) 23 [(.agg (zb p0))] = some (zDl r) := by
 unfold zff at h
 refine zi h (fun v1 h2 g1 => ?_)
 refine zi g1 (fun v3 h4 g2 => ?_)
 exact zt (g := zDl) g2 (zqc [(23, 1, 1, .c (.tup [(dl eI v1.1.1 v1.1.2), (di v1.2)])), (23, 2, 1, .c (di v3))] [] (ob (z9 k p0 _ h2) (ob (zW k v1.1 _ h4) ob0)) (by kernel_rfl))
noncomputable def zXi (p0 : zj) (v1 : zt2) : TM := [(0, (.d (.agg (zo p0)))), (zsp 1), (zsp 2), (zsp 3), (10, (.d (.fn 88 [] [(.pin [(dl zd v1.1.1 v1.1.2), (dl (eL eI) v1.2.1.1 v1.2.1.2), (dl (aI 2) v1.2.2.1.1 v1.2.2.1.2), (di v1.2.2.2.1), (.mp (em (fun k => D.agg (zh k)) (fun b => D.b b) v1.2.2.2.2))])])))]
noncomputable def z9d (p0 : zj) (v1 : zt2) : ((List (zl × Int)) × Int) → D × FS × List LRec := fun r => ((db true), ⟨[(2, (.cells [(.yld 0)])), (3, (.cells [(.fn 89 [] [(.d (.pin [(dl zd v1.1.1 v1.1.2), (dl (eL eI) v1.2.1.1 v1.2.1.2), (dl (aI 2) v1.2.2.1.1 v1.2.2.1.2), (di v1.2.2.2.1), (.mp (em (fun k => D.agg (zh k)) (fun b => D.b b) v1.2.2.2.2))])), (.ptr 1 2 0), (.ptr 1 3 0)])]))], [[(zc 1 (zo p0)), (2, (.cells [(xi 0), (.d (.mp []))])), (7, (.map (em (fun k => D.agg (zh k)) (fun n => D.i .i64 n) r.1))), (3, (.cells [(xi r.2), (.map 0 7)]))]]⟩, [⟨(zXi p0 v1), 0, rfP (blk TE 93 0), rfA (blk TE 93 0), rfB (blk TE 93 0), 93, .rdy⟩])
noncomputable def z3d (p0 : zj) (v1 : zt2) (f : Fr) (fs : List Fr) : ((List (zl × Int)) × Int) → D × FS × List LRec := fun r => ((db true), ⟨f, [[(zc 1 (zo p0)), (2, (.cells [(xi 0), (.d (.mp []))])), (7, (.map (em (fun k => D.agg (zh k)) (fun n => D.i .i64 n) r.1))), (3, (.cells [(xi r.2), (.map 0 7)]))], [(2, (.cells [(.yld 0)])), (3, (.cells [(.fn 89 [] [(.d (.pin [(dl zd v1.1.1 v1.1.2), (dl (eL eI) v1.2.1.1 v1.2.1.2), (dl (aI 2) v1.2.2.1.1 v1.2.2.1.2), (di v1.2.2.2.1), (.mp (em (fun k => D.agg (zh k)) (fun b => D.b b) v1.2.2.2.2))])), (.ptr 1 2 0), (.ptr 1 3 0)])]))]] ++ fs⟩, [⟨(zXi p0 v1), 0, rfP (blk TE 93 0), rfA (blk TE 93 0), rfB (blk TE 93 0), 93, .rdy⟩])
noncomputable def znb (p0 : zj) (v1 : zt2) (rc : zt10) (fs : List Fr) : Prop := ∀ (f : Fr) (u1_12 : (List (zl × Int))) (u1_13 : Int) (r0 : (SL Int)) (x : ((List (zl × Int)) × Int)), rc u1_12 u1_13 r0 = some x → zMb TE (ev TE) 89 [(.d (dl eI r0.1 r0.2)), (.d (.pin [(dl zd v1.1.1 v1.1.2), (dl (eL eI) v1.2.1.1 v1.2.1.2), (dl (aI 2) v1.2.2.1.1 v1.2.2.1.2), (di v1.2.2.2.1), (.mp (em (fun k => D.agg (zh k)) (fun b => D.b b) v1.2.2.2.2))])), (.ptr 1 2 0), (.ptr 1 3 0)] ⟨f, ([[(zc 1 (zo p0)), (2, (.cells [(xi 0), (.d (.mp []))])), (7, (.map (em (fun k => D.agg (zh k)) (fun n => D.i .i64 n) u1_12))), (3, (.cells [(xi u1_13), (.map 0 7)]))], [(2, (.cells [(.yld 0)])), (3, (.cells [(.fn 89 [] [(.d (.pin [(dl zd v1.1.1 v1.1.2), (dl (eL eI) v1.2.1.1 v1.2.1.2), (dl (aI 2) v1.2.2.1.1 v1.2.2.1.2), (di v1.2.2.2.1), (.mp (em (fun k => D.agg (zh k)) (fun b => D.b b) v1.2.2.2.2))])), (.ptr 1 2 0), (.ptr 1 3 0)])]))]] ++ fs)⟩ [⟨(zXi p0 v1), 0, rfP (blk TE 93 0), rfA (blk TE 93 0), rfB (blk TE 93 0), 93, .rdy⟩] = some (z3d p0 v1 f fs x)
noncomputable def zNA (p0 : zj) (v1 : zt2) (r0 : (SL Int)) (s2_13 s6_17 : Int) (r : (Bool × (List (zl × Int)))) : TM := zXi p0 v1 ++ [(11, (.d (dl eI r0.1 r0.2))), (4, (.d (dl eI r0.1 r0.2))), (17, (xi (r0.1.length : Int))), (18, (xi s2_13)), (19, (xb true)), (5, (xi s2_13)), (22, (xi (r0.1.length : Int))), (23, (xi s6_17)), (24, (xb true)), (6, (xi s6_17)), (34, (xb r.1))]
noncomputable def zle (p0 : zj) (v1 : zt2) (u1_13 : Int) (r0 : (SL Int)) (s2_13 s6_17 : Int) (s6_25 : zt13) (cb : Bool) (rc : zt10) (fs : List Fr) (r : (Bool × (List (zl × Int)))) : St := ⟨(zNA p0 v1 r0 s2_13 s6_17 r), ⟨[], ([[(zc 1 (zo p0)), (2, (.cells [(xi 0), (.d (.mp []))])), (7, (.map (em (fun k => D.agg (zh k)) (fun n => D.i .i64 n) r.2))), (3, (.cells [(xi (w64 (u1_13 + 1))), (.map 0 7)]))], [(2, (.cells [(.yld 0)])), (3, (.cells [(.fn 89 [] [(.d (.pin [(dl zd v1.1.1 v1.1.2), (dl (eL eI) v1.2.1.1 v1.2.1.2), (dl (aI 2) v1.2.2.1.1 v1.2.2.1.2), (di v1.2.2.2.1), (.mp (em (fun k => D.agg (zh k)) (fun b => D.b b) v1.2.2.2.2))])), (.ptr 1 2 0), (.ptr 1 3 0)])]))]] ++ (fs ++ [[]]))⟩, [⟨(zXi p0 v1), 0, rfP (blk TE 93 0), rfA (blk TE 93 0), rfB (blk TE 93 0), 93, .busy⟩]⟩
noncomputable def znA (p0 : zj) (v1 : zt2) (k : Nat) (r0 : (SL Int)) (s2_13 s6_17 : Int) (cb : Bool) : TM := [(0, (.d (.agg (zo p0)))), (zsp 1), (zsp 2), (zsp 3), (10, (.d (.fn 88 [] [(.pin [(dl zd v1.1.1 v1.1.2), (dl (eL eI) v1.2.1.1 v1.2.1.2), (dl (aI 2) v1.2.2.1.1 v1.2.2.1.2), (di v1.2.2.2.1), (.mp (em (fun k => D.agg (zh k)) (fun b => D.b b) v1.2.2.2.2))])]))), (11, (.d (dl eI r0.1 r0.2))), (4, (.d (dl eI r0.1 r0.2))), (17, (xi (r0.1.length : Int))), (18, (xi s2_13)), (19, (xb true)), (5, (xi s2_13)), (22, (xi (r0.1.length : Int))), (23, (xi s6_17)), (24, (xb true)), (6, (xi s6_17)), (34, (xb cb))]
noncomputable def zVs (p0 : zj) (v1 : zt2) (k : Nat) : TM := [(0, (.d (.agg (zo p0)))), (zsp 1), (zsp 2), (zsp 3), (10, (.d (.fn 88 [] [(.pin [(dl zd v1.1.1 v1.1.2), (dl (eL eI) v1.2.1.1 v1.2.1.2), (dl (aI 2) v1.2.2.1.1 v1.2.2.1.2), (di v1.2.2.2.1), (.mp (em (fun k => D.agg (zh k)) (fun b => D.b b) v1.2.2.2.2))])])))]
theorem zHm (k : Nat) (p0 : zj) (v1 : zt2) (u1_13 : Int) (r0 : (SL Int)) (s2_13 s6_17 : Int) (s6_25 : zt13) (cb : Bool) (rc : zt10) (fs : List Fr) (hfs : fs.length ≤ 8) (hrc : znb p0 v1 rc fs) (r : (Bool × (List (zl × Int)))) (h : zef k p0 v1 u1_13 r0 s2_13 s6_17 s6_25 cb rc = some r) : ev TE 93 (cnd TE 93 34) ⟨(znA p0 v1 k r0 s2_13 s6_17 cb), ⟨[], ([[(zc 1 (zo p0)), (2, (.cells [(xi 0), (.d (.mp []))])), (7, (.map (em (fun k => D.agg (zh k)) (fun n => D.i .i64 n) s6_25))), (3, (.cells [(xi (w64 (u1_13 + 1))), (.map 0 7)]))], [(2, (.cells [(.yld 0)])), (3, (.cells [(.fn 89 [] [(.d (.pin [(dl zd v1.1.1 v1.1.2), (dl (eL eI) v1.2.1.1 v1.2.1.2), (dl (aI 2) v1.2.2.1.1 v1.2.2.1.2), (di v1.2.2.2.1), (.mp (em (fun k => D.agg (zh k)) (fun b => D.b b) v1.2.2.2.2))])), (.ptr 1 2 0), (.ptr 1 3 0)])]))]] ++ (fs ++ [[]]))⟩, [⟨(zVs p0 v1 k), 0, rfP (blk TE 93 0), rfA (blk TE 93 0), rfB (blk TE 93 0), 93, .busy⟩]⟩ = some (.nor, zle p0 v1 u1_13 r0 s2_13 s6_17 s6_25 cb rc fs r) := by
 unfold zef at h
 refine zm h (fun h901 g1 => ?_) (fun h901 g1 => ?_)
 ·subst h901
  exact zq (g := fun r => (Ex.nor, zle p0 v1 u1_13 r0 s2_13 s6_17 s6_25 true rc fs r)) g1 (zqe [(93, 12, 5, .q (xi ((zH zr (⟨s2_13, s6_17⟩ : zl) s6_25).getD 0))), (93, 12, 7, .me (di ((zH zr (⟨s2_13, s6_17⟩ : zl) s6_25).getD 0)) (midx zr (⟨s2_13, s6_17⟩ : zl) s6_25) (em (fun k => D.agg (zh k)) (fun n => D.i .i64 n) (ment zr (⟨s2_13, s6_17⟩ : zl) 0 s6_25))), (93, 12, 9, .mp (em (fun k => D.agg (zh k)) (fun n => D.i .i64 n) (mset zr (⟨s2_13, s6_17⟩ : zl) (w64 (((zH zr (⟨s2_13, s6_17⟩ : zl) s6_25).getD 0) + 1)) s6_25)))] [] (ob (zxm (ek := (fun k => D.agg (zh k))) (evl := (fun n => D.i .i64 n)) (q := zr) (fun _ _ => rfl) (⟨s2_13, s6_17⟩ : zl) s6_25 0) (ob (o_me (ek := (fun k => D.agg (zh k))) (evl := (fun n => D.i .i64 n)) (q := zr) (fun _ _ => rfl) (⟨s2_13, s6_17⟩ : zl) 0 s6_25) (ob (o_es (ek := (fun k => D.agg (zh k))) (evl := (fun n => D.i .i64 n)) (q := zr) (⟨s2_13, s6_17⟩ : zl) 0 (w64 (((zH zr (⟨s2_13, s6_17⟩ : zl) s6_25).getD 0) + 1)) s6_25) ob0))) (by cases f8 hfs <;> kernel_rfl))
 ·subst h901
  exact zq (g := fun r => (Ex.nor, zle p0 v1 u1_13 r0 s2_13 s6_17 s6_25 false rc fs r)) g1 (zqe [] [] ob0 (by cases f8 hfs <;> kernel_rfl))
noncomputable def zvA (p0 : zj) (v1 : zt2) (r0 : (SL Int)) (s2_13 s6_17 : Int) : TM := zXi p0 v1 ++ [(11, (.d (dl eI r0.1 r0.2))), (4, (.d (dl eI r0.1 r0.2))), (17, (xi (r0.1.length : Int))), (18, (xi s2_13)), (19, (xb true)), (5, (xi s2_13)), (22, (xi (r0.1.length : Int))), (23, (xi s6_17))]
noncomputable def zcn (p0 : zj) (v1 : zt2) (u1_13 : Int) (r0 : (SL Int)) (s2_13 : Int) (rc : zt10) (fs : List Fr) (s6_17 : Int) (s6_25 : zt13) : St := ⟨(zvA p0 v1 r0 s2_13 s6_17), ⟨[], ([[(zc 1 (zo p0)), (2, (.cells [(xi 0), (.d (.mp []))])), (7, (.map (em (fun k => D.agg (zh k)) (fun n => D.i .i64 n) s6_25))), (3, (.cells [(xi (w64 (u1_13 + 1))), (.map 0 7)]))], [(2, (.cells [(.yld 0)])), (3, (.cells [(.fn 89 [] [(.d (.pin [(dl zd v1.1.1 v1.1.2), (dl (eL eI) v1.2.1.1 v1.2.1.2), (dl (aI 2) v1.2.2.1.1 v1.2.2.1.2), (di v1.2.2.2.1), (.mp (em (fun k => D.agg (zh k)) (fun b => D.b b) v1.2.2.2.2))])), (.ptr 1 2 0), (.ptr 1 3 0)])]))]] ++ (fs ++ [[]]))⟩, [⟨(zXi p0 v1), 0, rfP (blk TE 93 0), rfA (blk TE 93 0), rfB (blk TE 93 0), 93, .busy⟩]⟩
noncomputable def zUz (p0 : zj) (v1 : zt2) (r0 : (SL Int)) (s2_13 : Int) (r : (Int × (List (zl × Int)))) : TM := zXi p0 v1 ++ [(11, (.d (dl eI r0.1 r0.2))), (4, (.d (dl eI r0.1 r0.2))), (17, (xi (r0.1.length : Int))), (18, (xi s2_13)), (19, (xb true)), (5, (xi s2_13)), (22, (xi (r0.1.length : Int))), (23, (xi r.1)), (24, (xb false))]
noncomputable def zcg (p0 : zj) (v1 : zt2) (u1_13 : Int) (r0 : (SL Int)) (s2_13 : Int) (rc : zt10) (fs : List Fr) (r : (Int × (List (zl × Int)))) : St := ⟨(zUz p0 v1 r0 s2_13 r), ⟨[], ([[(zc 1 (zo p0)), (2, (.cells [(xi 0), (.d (.mp []))])), (7, (.map (em (fun k => D.agg (zh k)) (fun n => D.i .i64 n) r.2))), (3, (.cells [(xi (w64 (u1_13 + 1))), (.map 0 7)]))], [(2, (.cells [(.yld 0)])), (3, (.cells [(.fn 89 [] [(.d (.pin [(dl zd v1.1.1 v1.1.2), (dl (eL eI) v1.2.1.1 v1.2.1.2), (dl (aI 2) v1.2.2.1.1 v1.2.2.1.2), (di v1.2.2.2.1), (.mp (em (fun k => D.agg (zh k)) (fun b => D.b b) v1.2.2.2.2))])), (.ptr 1 2 0), (.ptr 1 3 0)])]))]] ++ (fs ++ [[]]))⟩, [⟨(zXi p0 v1), 0, rfP (blk TE 93 0), rfA (blk TE 93 0), rfB (blk TE 93 0), 93, .busy⟩]⟩
noncomputable def z6m (p0 : zj) (v1 : zt2) (u1_13 : Int) (r0 : (SL Int)) (s2_13 : Int) (rc : zt10) (fs : List Fr) : (Int × (List (zl × Int))) → Ex × St := fun r => ((.exit 4), zcg p0 v1 u1_13 r0 s2_13 rc fs r)
theorem zNm (k : Nat) (p0 : zj) (v1 : zt2) (u1_13 : Int) (r0 : (SL Int)) (s2_13 : Int) (rc : zt10) (fs : List Fr) (hfs : fs.length ≤ 8) (hrc : znb p0 v1 rc fs) (s6_17 : Int) (s6_25 : zt13) (x : (Int × (List (zl × Int))) ⊕ (Int × (List (zl × Int)))) (h : zKd k p0 v1 u1_13 r0 s2_13 rc s6_17 s6_25 = some x) : zF TE 93 (blk TE 93 4) (fun s : (Int × (List (zl × Int))) => zcn p0 v1 u1_13 r0 s2_13 rc fs s.1 s.2) (z6m p0 v1 u1_13 r0 s2_13 rc fs) (s6_17, s6_25) x := by
 unfold zKd at h
 refine zm h (fun h801 g1 => ?_) (fun h801 g1 => ?_)
 ·refine zi g1 (fun v802 h803 g2 => ?_)
  refine zi g2 (fun v804 h805 g3 => ?_)
  refine zi g3 (fun v806 h807 g4 => ?_)
  exact zqn ((w64 (s6_17 + 1)), v806.2) [] [(93, 9, 0, .q (xb true)), (93, 11, 2, .q (.d (.pin [(di v802)]))), (93, 11, 6, .q (.d (.pin [(di v804)])))] [(93, 2000034, (.nor, zle p0 v1 u1_13 r0 s2_13 s6_17 s6_25 (v802 == v804) rc fs v806))] g4 (ob (o_b h801) (ob (o_ia (e := eI) 1 h803 rfl) (ob (o_ia (e := eI) 1 h805 rfl) (ob (zHm k p0 v1 u1_13 r0 s2_13 s6_17 s6_25 (v802 == v804) rc fs hfs hrc _ h807) ob0)))) (by cases f8 hfs <;> kernel_rfl)
 ·exact zqo [(93, 9, 0, .q (xb false))] [] g1 (ob (o_b h801) ob0) (by cases f8 hfs <;> kernel_rfl)
noncomputable def zeA (p0 : zj) (v1 : zt2) (r0 : (SL Int)) (s2_13 : Int) : TM := zXi p0 v1 ++ [(11, (.d (dl eI r0.1 r0.2))), (4, (.d (dl eI r0.1 r0.2))), (17, (xi (r0.1.length : Int))), (18, (xi s2_13))]
noncomputable def z4m (p0 : zj) (v1 : zt2) (u1_13 : Int) (r0 : (SL Int)) (rc : zt10) (fs : List Fr) (s2_13 : Int) (s2_21 : zt13) : St := ⟨(zeA p0 v1 r0 s2_13), ⟨[], ([[(zc 1 (zo p0)), (2, (.cells [(xi 0), (.d (.mp []))])), (7, (.map (em (fun k => D.agg (zh k)) (fun n => D.i .i64 n) s2_21))), (3, (.cells [(xi (w64 (u1_13 + 1))), (.map 0 7)]))], [(2, (.cells [(.yld 0)])), (3, (.cells [(.fn 89 [] [(.d (.pin [(dl zd v1.1.1 v1.1.2), (dl (eL eI) v1.2.1.1 v1.2.1.2), (dl (aI 2) v1.2.2.1.1 v1.2.2.1.2), (di v1.2.2.2.1), (.mp (em (fun k => D.agg (zh k)) (fun b => D.b b) v1.2.2.2.2))])), (.ptr 1 2 0), (.ptr 1 3 0)])]))]] ++ (fs ++ [[]]))⟩, [⟨(zXi p0 v1), 0, rfP (blk TE 93 0), rfA (blk TE 93 0), rfB (blk TE 93 0), 93, .busy⟩]⟩
noncomputable def zSz (p0 : zj) (v1 : zt2) (r0 : (SL Int)) (r : (Int × (List (zl × Int)))) : TM := zXi p0 v1 ++ [(11, (.d (dl eI r0.1 r0.2))), (4, (.d (dl eI r0.1 r0.2))), (17, (xi (r0.1.length : Int))), (18, (xi r.1)), (19, (xb false))]
noncomputable def zQc (p0 : zj) (v1 : zt2) (u1_13 : Int) (r0 : (SL Int)) (rc : zt10) (fs : List Fr) (r : (Int × (List (zl × Int)))) : St := ⟨(zSz p0 v1 r0 r), ⟨[], ([[(zc 1 (zo p0)), (2, (.cells [(xi 0), (.d (.mp []))])), (7, (.map (em (fun k => D.agg (zh k)) (fun n => D.i .i64 n) r.2))), (3, (.cells [(xi (w64 (u1_13 + 1))), (.map 0 7)]))], [(2, (.cells [(.yld 0)])), (3, (.cells [(.fn 89 [] [(.d (.pin [(dl zd v1.1.1 v1.1.2), (dl (eL eI) v1.2.1.1 v1.2.1.2), (dl (aI 2) v1.2.2.1.1 v1.2.2.1.2), (di v1.2.2.2.1), (.mp (em (fun k => D.agg (zh k)) (fun b => D.b b) v1.2.2.2.2))])), (.ptr 1 2 0), (.ptr 1 3 0)])]))]] ++ (fs ++ [[]]))⟩, [⟨(zXi p0 v1), 0, rfP (blk TE 93 0), rfA (blk TE 93 0), rfB (blk TE 93 0), 93, .busy⟩]⟩
noncomputable def z9m (p0 : zj) (v1 : zt2) (u1_13 : Int) (r0 : (SL Int)) (rc : zt10) (fs : List Fr) : (Int × (List (zl × Int))) → Ex × St := fun r => ((.exit 2), zQc p0 v1 u1_13 r0 rc fs r)
theorem zzi (k : Nat) (p0 : zj) (v1 : zt2) (u1_13 : Int) (r0 : (SL Int)) (rc : zt10) (fs : List Fr) (hfs : fs.length ≤ 8) (hrc : znb p0 v1 rc fs) (s2_13 : Int) (s2_21 : zt13) (x : (Int × (List (zl × Int))) ⊕ (Int × (List (zl × Int)))) (h : zJc k p0 v1 u1_13 r0 rc s2_13 s2_21 = some x) : zF TE 93 (blk TE 93 2) (fun s : (Int × (List (zl × Int))) => z4m p0 v1 u1_13 r0 rc fs s.1 s.2) (z9m p0 v1 u1_13 r0 rc fs) (s2_13, s2_21) x := by
 unfold zJc at h
 refine zm h (fun h601 g1 => ?_) (fun h601 g1 => ?_)
 ·refine zi g1 (fun v602 h603 g2 => ?_)
  exact zqn ((w64 (s2_13 + 1)), v602.2) [] [(93, 6, 0, .q (xb true)), (93, 8, 1, .q (xi (r0.1.length : Int)))] [(93, 4, (.nor, zcg p0 v1 u1_13 r0 s2_13 rc fs v602))] g2 (ob (o_b h601) (ob (zp eI r0.1) (ob (zu (id := 4) (r' := (.nor, zcg p0 v1 u1_13 r0 s2_13 rc fs v602)) (zQb (zNm k p0 v1 u1_13 r0 s2_13 rc fs hfs hrc) k _ _ h603) rfl) ob0))) (by cases f8 hfs <;> kernel_rfl)
 ·exact zqo [(93, 6, 0, .q (xb false))] [] g1 (ob (o_b h601) ob0) (by cases f8 hfs <;> kernel_rfl)
noncomputable def zPx (r0 : (SL Int)) (v1 : zt2) (v202 s9_10 : Int) (r : Bool) : TM := [(0, (.d (dl eI r0.1 r0.2))), (1, (.d (.pin [(dl zd v1.1.1 v1.1.2), (dl (eL eI) v1.2.1.1 v1.2.1.2), (dl (aI 2) v1.2.2.1.1 v1.2.2.1.2), (di v1.2.2.2.1), (.mp (em (fun k => D.agg (zh k)) (fun b => D.b b) v1.2.2.2.2))]))), (2, (.ptr 1 2 0)), (3, (.ptr 1 3 0)), (5, (xb false)), (6, (xi (r0.1.length : Int))), (15, (xb false)), (25, (xi (if (w64 (v202 + 1)) < v1.2.2.2.1 then (w64 (v202 + 1)) else v1.2.2.2.1))), (26, (xi s9_10)), (27, (xb true)), (7, (xi s9_10)), (43, (xb r))]
noncomputable def zXc (p0 : zj) (v1 : zt2) (r0 : (SL Int)) (v202 s9_10 : Int) (s9_18 : zt13) (s9_19 : Int) (rc : zt10) (fs : List Fr) (r : Bool) : St := ⟨(zPx r0 v1 v202 s9_10 r), ⟨[], ([[(zc 1 (zo p0)), (2, (.cells [(xi 0), (.d (.mp []))])), (7, (.map (em (fun k => D.agg (zh k)) (fun n => D.i .i64 n) s9_18))), (3, (.cells [(xi s9_19), (.map 0 7)]))], [(2, (.cells [(.yld 0)])), (3, (.cells [(.fn 89 [] [(.d (.pin [(dl zd v1.1.1 v1.1.2), (dl (eL eI) v1.2.1.1 v1.2.1.2), (dl (aI 2) v1.2.2.1.1 v1.2.2.1.2), (di v1.2.2.2.1), (.mp (em (fun k => D.agg (zh k)) (fun b => D.b b) v1.2.2.2.2))])), (.ptr 1 2 0), (.ptr 1 3 0)])]))]] ++ fs)⟩, [⟨(zXi p0 v1), 0, rfP (blk TE 93 0), rfA (blk TE 93 0), rfB (blk TE 93 0), 93, .rdy⟩]⟩
noncomputable def zNy (r0 : (SL Int)) (v1 : zt2) (k : Nat) (v202 s9_10 : Int) : TM := [(0, (.d (dl eI r0.1 r0.2))), (1, (.d (.pin [(dl zd v1.1.1 v1.1.2), (dl (eL eI) v1.2.1.1 v1.2.1.2), (dl (aI 2) v1.2.2.1.1 v1.2.2.1.2), (di v1.2.2.2.1), (.mp (em (fun k => D.agg (zh k)) (fun b => D.b b) v1.2.2.2.2))]))), (2, (.ptr 1 2 0)), (3, (.ptr 1 3 0)), (5, (xb false)), (6, (xi (r0.1.length : Int))), (15, (xb false)), (25, (xi (if (w64 (v202 + 1)) < v1.2.2.2.1 then (w64 (v202 + 1)) else v1.2.2.2.1))), (26, (xi s9_10)), (27, (xb true)), (7, (xi s9_10))]
theorem zci (k : Nat) (p0 : zj) (v1 : zt2) (r0 : (SL Int)) (v202 s9_10 : Int) (s9_18 : zt13) (s9_19 : Int) (rc : zt10) (fs : List Fr) (hfs : fs.length ≤ 8) (hrc : znb p0 v1 rc fs) (r : Bool) (h : zpd k p0 v1 r0 v202 s9_10 s9_18 s9_19 rc = some r) : ev TE 89 (rgn TE 89 7) ⟨(zNy r0 v1 k v202 s9_10), ⟨[], ([[(zc 1 (zo p0)), (2, (.cells [(xi 0), (.d (.mp []))])), (7, (.map (em (fun k => D.agg (zh k)) (fun n => D.i .i64 n) s9_18))), (3, (.cells [(xi s9_19), (.map 0 7)]))], [(2, (.cells [(.yld 0)])), (3, (.cells [(.fn 89 [] [(.d (.pin [(dl zd v1.1.1 v1.1.2), (dl (eL eI) v1.2.1.1 v1.2.1.2), (dl (aI 2) v1.2.2.1.1 v1.2.2.1.2), (di v1.2.2.2.1), (.mp (em (fun k => D.agg (zh k)) (fun b => D.b b) v1.2.2.2.2))])), (.ptr 1 2 0), (.ptr 1 3 0)])]))]] ++ fs)⟩, [⟨(zVs p0 v1 k), 0, rfP (blk TE 93 0), rfA (blk TE 93 0), rfB (blk TE 93 0), 93, .rdy⟩]⟩ = some (.nor, zXc p0 v1 r0 v202 s9_10 s9_18 s9_19 rc fs r) := by
 unfold zpd at h
 refine zi h (fun v1201 h1202 g1 => ?_)
 refine zm g1 (fun h1203 g2 => ?_) (fun h1203 g2 => ?_)
 ·exact zq (g := fun r => (Ex.nor, zXc p0 v1 r0 v202 s9_10 s9_18 s9_19 rc fs r)) g2 (zqe [(89, 7, 4, .c (db v1201)), (89, 7, 6, .q (xb true))] [] (ob (zZ k (⟨(⟨v1.1, v1.2.1, v1.2.2.1, v1.2.2.2.1⟩ : za), v1.2.2.2.2⟩ : zj) r0 (r0.1.length : Int) s9_10 _ h1202) (ob (o_b h1203) ob0)) (by cases f8 hfs <;> kernel_rfl))
 ·refine zi g2 (fun v1204 h1205 g3 => ?_)
  refine zi g3 (fun v1206 h1207 g4 => ?_)
  exact zq (g := fun r => (Ex.nor, zXc p0 v1 r0 v202 s9_10 s9_18 s9_19 rc fs r)) g4 (zqe [(89, 7, 4, .c (db v1201)), (89, 7, 6, .q (xb false)), (89, 7, 10, .c (.agg (aB 8 v1204))), (89, 7, 12, .c (db v1206))] [] (ob (zZ k (⟨(⟨v1.1, v1.2.1, v1.2.2.1, v1.2.2.2.1⟩ : za), v1.2.2.2.2⟩ : zj) r0 (r0.1.length : Int) s9_10 _ h1202) (ob (o_b h1203) (ob (zGf k r0 s9_10 _ h1205) (ob (zic k (⟨(⟨v1.1, v1.2.1, v1.2.2.1, v1.2.2.2.1⟩ : za), v1.2.2.2.2⟩ : zj) v1204 (r0.1.length : Int) _ h1207) ob0)))) (by cases f8 hfs <;> kernel_rfl))
noncomputable def zvz (r0 : (SL Int)) (v1 : zt2) (v202 s9_10 : Int) : TM := [(0, (.d (dl eI r0.1 r0.2))), (1, (.d (.pin [(dl zd v1.1.1 v1.1.2), (dl (eL eI) v1.2.1.1 v1.2.1.2), (dl (aI 2) v1.2.2.1.1 v1.2.2.1.2), (di v1.2.2.2.1), (.mp (em (fun k => D.agg (zh k)) (fun b => D.b b) v1.2.2.2.2))]))), (2, (.ptr 1 2 0)), (3, (.ptr 1 3 0)), (5, (xb false)), (6, (xi (r0.1.length : Int))), (15, (xb false)), (25, (xi (if (w64 (v202 + 1)) < v1.2.2.2.1 then (w64 (v202 + 1)) else v1.2.2.2.1))), (26, (xi s9_10))]
noncomputable def z8m (p0 : zj) (v1 : zt2) (r0 : (SL Int)) (v202 : Int) (rc : zt10) (fs : List Fr) (s9_10 : Int) (s9_18 : zt13) (s9_19 : Int) : St := ⟨(zvz r0 v1 v202 s9_10), ⟨[], ([[(zc 1 (zo p0)), (2, (.cells [(xi 0), (.d (.mp []))])), (7, (.map (em (fun k => D.agg (zh k)) (fun n => D.i .i64 n) s9_18))), (3, (.cells [(xi s9_19), (.map 0 7)]))], [(2, (.cells [(.yld 0)])), (3, (.cells [(.fn 89 [] [(.d (.pin [(dl zd v1.1.1 v1.1.2), (dl (eL eI) v1.2.1.1 v1.2.1.2), (dl (aI 2) v1.2.2.1.1 v1.2.2.1.2), (di v1.2.2.2.1), (.mp (em (fun k => D.agg (zh k)) (fun b => D.b b) v1.2.2.2.2))])), (.ptr 1 2 0), (.ptr 1 3 0)])]))]] ++ fs)⟩, [⟨(zXi p0 v1), 0, rfP (blk TE 93 0), rfA (blk TE 93 0), rfB (blk TE 93 0), 93, .rdy⟩]⟩
noncomputable def zAy (r0 : (SL Int)) (v1 : zt2) (v202 : Int) (r : (Int × (List (zl × Int)) × Int)) : TM := [(0, (.d (dl eI r0.1 r0.2))), (1, (.d (.pin [(dl zd v1.1.1 v1.1.2), (dl (eL eI) v1.2.1.1 v1.2.1.2), (dl (aI 2) v1.2.2.1.1 v1.2.2.1.2), (di v1.2.2.2.1), (.mp (em (fun k => D.agg (zh k)) (fun b => D.b b) v1.2.2.2.2))]))), (2, (.ptr 1 2 0)), (3, (.ptr 1 3 0)), (5, (xb false)), (6, (xi (r0.1.length : Int))), (15, (xb false)), (25, (xi (if (w64 (v202 + 1)) < v1.2.2.2.1 then (w64 (v202 + 1)) else v1.2.2.2.1))), (26, (xi r.1)), (27, (xb false))]
noncomputable def zRc (p0 : zj) (v1 : zt2) (r0 : (SL Int)) (v202 : Int) (rc : zt10) (fs : List Fr) (r : (Int × (List (zl × Int)) × Int)) : St := ⟨(zAy r0 v1 v202 r), ⟨[], ([[(zc 1 (zo p0)), (2, (.cells [(xi 0), (.d (.mp []))])), (7, (.map (em (fun k => D.agg (zh k)) (fun n => D.i .i64 n) r.2.1))), (3, (.cells [(xi r.2.2), (.map 0 7)]))], [(2, (.cells [(.yld 0)])), (3, (.cells [(.fn 89 [] [(.d (.pin [(dl zd v1.1.1 v1.1.2), (dl (eL eI) v1.2.1.1 v1.2.1.2), (dl (aI 2) v1.2.2.1.1 v1.2.2.1.2), (di v1.2.2.2.1), (.mp (em (fun k => D.agg (zh k)) (fun b => D.b b) v1.2.2.2.2))])), (.ptr 1 2 0), (.ptr 1 3 0)])]))]] ++ fs)⟩, [⟨(zXi p0 v1), 0, rfP (blk TE 93 0), rfA (blk TE 93 0), rfB (blk TE 93 0), 93, .rdy⟩]⟩
noncomputable def zdn (p0 : zj) (v1 : zt2) (r0 : (SL Int)) (v202 : Int) (rc : zt10) (fs : List Fr) : (Int × (List (zl × Int)) × Int) → Ex × St := fun r => ((.exit 0), zRc p0 v1 r0 v202 rc fs r)
theorem zsi (k : Nat) (p0 : zj) (v1 : zt2) (r0 : (SL Int)) (v202 : Int) (rc : zt10) (fs : List Fr) (hfs : fs.length ≤ 8) (hrc : znb p0 v1 rc fs) (s9_10 : Int) (s9_18 : zt13) (s9_19 : Int) (x : (Int × (List (zl × Int)) × Int) ⊕ (Int × (List (zl × Int)) × Int)) (h : z2b k p0 v1 r0 v202 rc s9_10 s9_18 s9_19 = some x) : zF TE 89 (blk TE 89 0) (fun s : (Int × (List (zl × Int)) × Int) => z8m p0 v1 r0 v202 rc fs s.1 s.2.1 s.2.2) (zdn p0 v1 r0 v202 rc fs) (s9_10, s9_18, s9_19) x := by
 unfold z2b at h
 refine zm h (fun h1101 g1 => ?_) (fun h1101 g1 => ?_)
 ·refine zi g1 (fun v1102 h1103 g2 => ?_)
  refine zm g2 (fun h1104 g3 => ?_) (fun h1104 g3 => ?_)
  ·subst h1104
   exact zqn ((w64 (s9_10 + 1)), s9_18, s9_19) [] [(89, 5, 0, .q (xb true))] [(89, 1000007, (.nor, zXc p0 v1 r0 v202 s9_10 s9_18 s9_19 rc fs true))] g3 (ob (o_b h1101) (ob (zci k p0 v1 r0 v202 s9_10 s9_18 s9_19 rc fs hfs hrc _ h1103) ob0)) (by cases f8 hfs <;> kernel_rfl)
  ·subst h1104
   refine zm g3 (fun h1105 g4 => ?_) (fun h1105 g4 => ?_)
   ·cases g4
   ·refine zib g4 (fun h1106 g5 => ?_)
    refine zi g5 (fun v1107 h1108 g6 => ?_)
    exact zqn ((w64 (s9_10 + 1)), v1107.1, v1107.2) [] [(89, 5, 0, .q (xb true)), (89, 8, 4, .q (.d (dl eI r0.1 (ccap r0.2)))), (89, 8, 7, .q (.d (dl eI (r0.1 ++ [s9_10]) .ro))), (89, 8, 8, .i (db true) ⟨[], ([[(1, (.cells ((zo p0).map .d))), (2, (.cells [(xi 0), (.d (.mp []))])), (7, (.map (em (fun k => D.agg (zh k)) (fun n => D.i .i64 n) v1107.1))), (3, (.cells [(xi v1107.2), (.map 0 7)]))], [(2, (.cells [(.yld 0)])), (3, (.cells [(.fn 89 [] [(.d (.pin [(dl zd v1.1.1 v1.1.2), (dl (eL eI) v1.2.1.1 v1.2.1.2), (dl (aI 2) v1.2.2.1.1 v1.2.2.1.2), (di v1.2.2.2.1), (.mp (em (fun k => D.agg (zh k)) (fun b => D.b b) v1.2.2.2.2))])), (.ptr 1 2 0), (.ptr 1 3 0)])]))]] ++ fs)⟩ [⟨[(0, (.d (.agg (zo p0)))), (1, (.ptr 0 1 0)), (2, (.ptr 0 2 0)), (3, (.ptr 0 3 0)), (10, (.d (.fn 88 [] [(.pin [(dl zd v1.1.1 v1.1.2), (dl (eL eI) v1.2.1.1 v1.2.1.2), (dl (aI 2) v1.2.2.1.1 v1.2.2.1.2), (di v1.2.2.2.1), (.mp (em (fun k => D.agg (zh k)) (fun b => D.b b) v1.2.2.2.2))])])))], 0, rfP (blk TE 93 0), rfA (blk TE 93 0), rfB (blk TE 93 0), 93, .rdy⟩])] [(89, 1000007, (.nor, zXc p0 v1 r0 v202 s9_10 s9_18 s9_19 rc fs false))] g6 (ob (o_b h1101) (ob (zci k p0 v1 r0 v202 s9_10 s9_18 s9_19 rc fs hfs hrc _ h1103) (ob (zmo (e := eI) (z := 1) r0.1 r0.2) (ob (o_ad (P := TE.P) (φ := fun _ _ => none) (T := 27) (q := (1, [(di 0)])) (c := (ccap r0.2)) (e := eI) r0.1 s9_10 (by kernel_rfl) (fun _ => rfl) h1105 h1106) (ob (hrc ([] : Fr) s9_18 s9_19 ((r0.1 ++ [s9_10]), .ro) _ h1108) ob0))))) (by cases f8 hfs <;> kernel_rfl)
 ·exact zqo [(89, 5, 0, .q (xb false))] [] g1 (ob (o_b h1101) ob0) (by cases f8 hfs <;> kernel_rfl)
theorem zfm (k : Nat) (p0 : zj) (v1 : zt2) (rc : zt10) (hrc : znb p0 v1 rc []) (u1_12 : zt13) (u1_13 : Int) (r0 : (SL Int)) (x : ((List (zl × Int)) × Int)) (h : zab k p0 v1 rc u1_12 u1_13 r0 = some x) : zMb TE (ev TE) 89 [(.d (dl eI r0.1 r0.2)), (.d (.pin [(dl zd v1.1.1 v1.1.2), (dl (eL eI) v1.2.1.1 v1.2.1.2), (dl (aI 2) v1.2.2.1.1 v1.2.2.1.2), (di v1.2.2.2.1), (.mp (em (fun k => D.agg (zh k)) (fun b => D.b b) v1.2.2.2.2))])), (.ptr 1 2 0), (.ptr 1 3 0)] ⟨[(2, (.cells [(.yld 0)])), (3, (.cells [(.fn 89 [] [(.d (.pin [(dl zd v1.1.1 v1.1.2), (dl (eL eI) v1.2.1.1 v1.2.1.2), (dl (aI 2) v1.2.2.1.1 v1.2.2.1.2), (di v1.2.2.2.1), (.mp (em (fun k => D.agg (zh k)) (fun b => D.b b) v1.2.2.2.2))])), (.ptr 1 2 0), (.ptr 1 3 0)])]))], [[(zc 1 (zo p0)), (2, (.cells [(xi 0), (.d (.mp []))])), (7, (.map (em (fun k => D.agg (zh k)) (fun n => D.i .i64 n) u1_12))), (3, (.cells [(xi u1_13), (.map 0 7)]))]]⟩ [⟨(zVs p0 v1 k), 0, rfP (blk TE 93 0), rfA (blk TE 93 0), rfB (blk TE 93 0), 93, .rdy⟩] = some (z9d p0 v1 x) := by
 unfold zab at h
 refine zm h (fun h201 g1 => ?_) (fun h201 g1 => ?_)
 ·refine zi g1 (fun v202 h203 g2 => ?_)
  exact zkd (g := z9d p0 v1) g2 (z0b (n := 80) (V := [(89, 1, 1, .q (xi (r0.1.length : Int))), (89, 2, 4, .q (xi (v1.1.1.length : Int))), (89, 2, 5, .q (xb true)), (93, 5, 1, .q (xi (r0.1.length : Int)))]) (C := [(93, 2, (.nor, zQc p0 v1 u1_13 r0 rc ([] : List Fr) v202))]) (ob (zp eI r0.1) (ob (zp zd v1.1.1) (ob (o_b h201) (ob (zp eI r0.1) (ob (zu (id := 2) (r' := (.nor, zQc p0 v1 u1_13 r0 rc ([] : List Fr) v202)) (zQb (zzi k p0 v1 u1_13 r0 rc ([] : List Fr) (Nat.zero_le _) hrc) k _ _ h203) rfl) ob0))))) (by kernel_rfl))
 ·refine zi g1 (fun v202 h203 g2 => ?_)
  refine zi g2 (fun v204 h205 g3 => ?_)
  exact zkd (g := z9d p0 v1) g3 (z0b (n := 80) (V := [(89, 1, 1, .q (xi (r0.1.length : Int))), (89, 2, 4, .q (xi (v1.1.1.length : Int))), (89, 2, 5, .q (xb false)), (89, 4, 4, .c (di v202))]) (C := [(89, 0, (.nor, zRc p0 v1 r0 v202 rc ([] : List Fr) v204))]) (ob (zp eI r0.1) (ob (zp zd v1.1.1) (ob (o_b h201) (ob (zW k r0 _ h203) (ob (zu (id := 0) (r' := (.nor, zRc p0 v1 r0 v202 rc ([] : List Fr) v204)) (zYi (zsi k p0 v1 r0 v202 rc ([] : List Fr) (Nat.zero_le _) hrc) k _ _ h205) rfl) ob0))))) (by kernel_rfl))
theorem zKl (k : Nat) (p0 : zj) (v1 : zt2) (rc : zt10) (f : Fr) (fs : List Fr) (hfs : fs.length + 1 ≤ 8) (hrc : znb p0 v1 rc (fs ++ [f])) (u1_12 : zt13) (u1_13 : Int) (r0 : (SL Int)) (x : ((List (zl × Int)) × Int)) (h : zab k p0 v1 rc u1_12 u1_13 r0 = some x) : zMb TE (ev TE) 89 [(.d (dl eI r0.1 r0.2)), (.d (.pin [(dl zd v1.1.1 v1.1.2), (dl (eL eI) v1.2.1.1 v1.2.1.2), (dl (aI 2) v1.2.2.1.1 v1.2.2.1.2), (di v1.2.2.2.1), (.mp (em (fun k => D.agg (zh k)) (fun b => D.b b) v1.2.2.2.2))])), (.ptr 1 2 0), (.ptr 1 3 0)] ⟨f, ([[(zc 1 (zo p0)), (2, (.cells [(xi 0), (.d (.mp []))])), (7, (.map (em (fun k => D.agg (zh k)) (fun n => D.i .i64 n) u1_12))), (3, (.cells [(xi u1_13), (.map 0 7)]))], [(2, (.cells [(.yld 0)])), (3, (.cells [(.fn 89 [] [(.d (.pin [(dl zd v1.1.1 v1.1.2), (dl (eL eI) v1.2.1.1 v1.2.1.2), (dl (aI 2) v1.2.2.1.1 v1.2.2.1.2), (di v1.2.2.2.1), (.mp (em (fun k => D.agg (zh k)) (fun b => D.b b) v1.2.2.2.2))])), (.ptr 1 2 0), (.ptr 1 3 0)])]))]] ++ fs)⟩ [⟨(zVs p0 v1 k), 0, rfP (blk TE 93 0), rfA (blk TE 93 0), rfB (blk TE 93 0), 93, .rdy⟩] = some (z3d p0 v1 f fs x) := by
 unfold zab at h
 refine zm h (fun h201 g1 => ?_) (fun h201 g1 => ?_)
 ·refine zi g1 (fun v202 h203 g2 => ?_)
  exact zkd (g := z3d p0 v1 f fs) g2 (z0b (n := 80) (V := [(89, 1, 1, .q (xi (r0.1.length : Int))), (89, 2, 4, .q (xi (v1.1.1.length : Int))), (89, 2, 5, .q (xb true)), (93, 5, 1, .q (xi (r0.1.length : Int)))]) (C := [(93, 2, (.nor, zQc p0 v1 u1_13 r0 rc (fs ++ [f]) v202))]) (ob (zp eI r0.1) (ob (zp zd v1.1.1) (ob (o_b h201) (ob (zp eI r0.1) (ob (zu (id := 2) (r' := (.nor, zQc p0 v1 u1_13 r0 rc (fs ++ [f]) v202)) (zQb (zzi k p0 v1 u1_13 r0 rc (fs ++ [f]) (z5k f hfs) hrc) k _ _ h203) rfl) ob0))))) (by cases f8 (Nat.le_of_succ_le hfs) <;> kernel_rfl))
 ·refine zi g1 (fun v202 h203 g2 => ?_)
  refine zi g2 (fun v204 h205 g3 => ?_)
  exact zkd (g := z3d p0 v1 f fs) g3 (z0b (n := 80) (V := [(89, 1, 1, .q (xi (r0.1.length : Int))), (89, 2, 4, .q (xi (v1.1.1.length : Int))), (89, 2, 5, .q (xb false)), (89, 4, 4, .c (di v202))]) (C := [(89, 0, (.nor, zRc p0 v1 r0 v202 rc (fs ++ [f]) v204))]) (ob (zp eI r0.1) (ob (zp zd v1.1.1) (ob (o_b h201) (ob (zW k r0 _ h203) (ob (zu (id := 0) (r' := (.nor, zRc p0 v1 r0 v202 rc (fs ++ [f]) v204)) (zYi (zsi k p0 v1 r0 v202 rc (fs ++ [f]) (z5k f hfs) hrc) k _ _ h205) rfl) ob0))))) (by cases f8 (Nat.le_of_succ_le hfs) <;> kernel_rfl))
theorem zji (k : Nat) (p0 : zj) (v1 : zt2) : ∀ (n : Nat) (fs : List Fr), fs.length + n ≤ 8 → znb p0 v1 (z6 k p0 v1 n) fs
 | 0, fs, hfs => fun f u1_12 u1_13 r0 x h => by cases h
 | n + 1, fs, hfs => fun f u1_12 u1_13 r0 x h => zKl k p0 v1 _ f fs (by omega) (zji k p0 v1 n (fs ++ [f]) (by simp; omega)) u1_12 u1_13 r0 x h
theorem zvm (k : Nat) (p0 : zj) (v1 : zt2) (u1_12 : zt13) (u1_13 : Int) (r0 : (SL Int)) (x : ((List (zl × Int)) × Int)) (h : z6 k p0 v1 9 u1_12 u1_13 r0 = some x) : zMb TE (ev TE) 89 [(.d (dl eI r0.1 r0.2)), (.d (.pin [(dl zd v1.1.1 v1.1.2), (dl (eL eI) v1.2.1.1 v1.2.1.2), (dl (aI 2) v1.2.2.1.1 v1.2.2.1.2), (di v1.2.2.2.1), (.mp (em (fun k => D.agg (zh k)) (fun b => D.b b) v1.2.2.2.2))])), (.ptr 1 2 0), (.ptr 1 3 0)] ⟨[(2, (.cells [(.yld 0)])), (3, (.cells [(.fn 89 [] [(.d (.pin [(dl zd v1.1.1 v1.1.2), (dl (eL eI) v1.2.1.1 v1.2.1.2), (dl (aI 2) v1.2.2.1.1 v1.2.2.1.2), (di v1.2.2.2.1), (.mp (em (fun k => D.agg (zh k)) (fun b => D.b b) v1.2.2.2.2))])), (.ptr 1 2 0), (.ptr 1 3 0)])]))], [[(zc 1 (zo p0)), (2, (.cells [(xi 0), (.d (.mp []))])), (7, (.map (em (fun k => D.agg (zh k)) (fun n => D.i .i64 n) u1_12))), (3, (.cells [(xi u1_13), (.map 0 7)]))]]⟩ [⟨(zVs p0 v1 k), 0, rfP (blk TE 93 0), rfA (blk TE 93 0), rfB (blk TE 93 0), 93, .rdy⟩] = some (z9d p0 v1 x) := zfm k p0 v1 _ (zji k p0 v1 8 [] (by decide)) u1_12 u1_13 r0 x h
theorem zKj (k : Nat) (p0 : zj) (r : z7) (h : zLg k p0 = some r) : zx TE (ev TE) 93 [(.agg (zo p0))] = some (z8j r) := by
 unfold zLg at h
 refine zi h (fun v1 h2 g1 => ?_)
 refine zi g1 (fun v3 h4 g2 => ?_)
 exact zt (g := z8j) g2 (zqc [(93, 2, 1, .c (.fn 88 [] [(.pin [(dl zd v1.1.1 v1.1.2), (dl (eL eI) v1.2.1.1 v1.2.1.2), (dl (aI 2) v1.2.2.1.1 v1.2.2.1.2), (di v1.2.2.2.1), (.mp (em (fun k => D.agg (zh k)) (fun b => D.b b) v1.2.2.2.2))])])), (88, 3, 1, .i (db true) ⟨[(2, (.cells [(.yld 0)])), (3, (.cells [(.fn 89 [] [(.d (.pin [(dl zd v1.1.1 v1.1.2), (dl (eL eI) v1.2.1.1 v1.2.1.2), (dl (aI 2) v1.2.2.1.1 v1.2.2.1.2), (di v1.2.2.2.1), (.mp (em (fun k => D.agg (zh k)) (fun b => D.b b) v1.2.2.2.2))])), (.ptr 1 2 0), (.ptr 1 3 0)])]))], [[(1, (.cells ((zo p0).map .d))), (2, (.cells [(xi 0), (.d (.mp []))])), (7, (.map (em (fun k => D.agg (zh k)) (fun n => D.i .i64 n) v3.1))), (3, (.cells [(xi v3.2), (.map 0 7)]))]]⟩ [⟨[(0, (.d (.agg (zo p0)))), (1, (.ptr 0 1 0)), (2, (.ptr 0 2 0)), (3, (.ptr 0 3 0)), (10, (.d (.fn 88 [] [(.pin [(dl zd v1.1.1 v1.1.2), (dl (eL eI) v1.2.1.1 v1.2.1.2), (dl (aI 2) v1.2.2.1.1 v1.2.2.1.2), (di v1.2.2.2.1), (.mp (em (fun k => D.agg (zh k)) (fun b => D.b b) v1.2.2.2.2))])])))], 0, rfP (blk TE 93 0), rfA (blk TE 93 0), rfB (blk TE 93 0), 93, .rdy⟩])] [] (ob (zec k p0 _ h2) (ob (zvm k p0 v1 ([]) 0 ([], Cap.nil) _ h4) ob0)) (by kernel_rfl))
theorem zid (k : Nat) (p0 : za) (p1 : Bool) (r : zt8) (h : zOd k p0 p1 = some r) : zx TE (ev TE) 72 [(.agg (zb p0)), (db p1)] = some (zag r) := by
 unfold zOd at h
 refine zi h (fun v1 h2 g1 => ?_)
 refine zm g1 (fun h3 g2 => ?_) (fun h3 g2 => ?_)
 ·exact zt (g := zag) g2 (zqc [(72, 1, 1, .c (di v1)), (72, 2, 1, .q (xb true))] [] (ob (zA k p0 _ h2) (ob (o_b h3) ob0)) (by kernel_rfl))
 ·refine zm g2 (fun h4 g3 => ?_) (fun h4 g3 => ?_)
  ·exact zt (g := zag) g3 (zqc [(72, 1, 1, .c (di v1)), (72, 2, 1, .q (xb false)), (72, 4, 1, .q (xb true))] [] (ob (zA k p0 _ h2) (ob (o_b h3) (ob (o_b h4) ob0))) (by kernel_rfl))
  ·refine zi g3 (fun v5 h6 g4 => ?_)
   refine zi g4 (fun v7 h8 g5 => ?_)
   refine zm g5 (fun h9 g6 => ?_) (fun h9 g6 => ?_)
   ·exact zt (g := zag) g6 (zqc [(72, 1, 1, .c (di v1)), (72, 2, 1, .q (xb false)), (72, 4, 1, .q (xb false)), (72, 6, 1, .c (.agg (zo v5))), (72, 6, 2, .c (.agg [(di v7.many), (.mp (em (fun k => D.agg (zh k)) (fun n => D.i .i64 n) v7.same))])), (72, 7, 2, .q (xb true))] [] (ob (zA k p0 _ h2) (ob (o_b h3) (ob (o_b h4) (ob (zsb k p0 _ h6) (ob (zKj k v5 _ h8) (ob (o_b h9) ob0)))))) (by kernel_rfl))
   ·exact zt (g := zag) g6 (zqc [(72, 1, 1, .c (di v1)), (72, 2, 1, .q (xb false)), (72, 4, 1, .q (xb false)), (72, 6, 1, .c (.agg (zo v5))), (72, 6, 2, .c (.agg [(di v7.many), (.mp (em (fun k => D.agg (zh k)) (fun n => D.i .i64 n) v7.same))])), (72, 7, 2, .q (xb false))] [] (ob (zA k p0 _ h2) (ob (o_b h3) (ob (o_b h4) (ob (zsb k p0 _ h6) (ob (zKj k v5 _ h8) (ob (o_b h9) ob0)))))) (by kernel_rfl))
theorem zYg (k : Nat) (p0 : z7) (p1 p2 r : Int) (h : zmd k p0 p1 p2 = some r) : zx TE (ev TE) 73 [(.agg [(di p0.many), (.mp (em (fun k => D.agg (zh k)) (fun n => D.i .i64 n) p0.same))]), (di p1), (di p2)] = some (zif r) := by
 unfold zmd at h
 refine zm h (fun h1 g1 => ?_) (fun h1 g1 => ?_)
 ·exact zt (g := zif) g1 (zqc [(73, 1, 5, .q (xi ((zH zr (⟨p1, p2⟩ : zl) p0.same).getD 0))), (73, 2, 3, .q (xb true))] [] (ob (zxm (ek := (fun k => D.agg (zh k))) (evl := (fun n => D.i .i64 n)) (q := zr) (fun _ _ => rfl) (⟨p1, p2⟩ : zl) p0.same 0) (ob (o_b h1) ob0)) (by kernel_rfl))
 ·refine zm g1 (fun h2 g2 => ?_) (fun h2 g2 => ?_)
  ·exact zt (g := zif) g2 (zqc [(73, 1, 5, .q (xi ((zH zr (⟨p1, p2⟩ : zl) p0.same).getD 0))), (73, 2, 3, .q (xb false)), (73, 4, 1, .q (xb true))] [] (ob (zxm (ek := (fun k => D.agg (zh k))) (evl := (fun n => D.i .i64 n)) (q := zr) (fun _ _ => rfl) (⟨p1, p2⟩ : zl) p0.same 0) (ob (o_b h1) (ob (o_b h2) ob0))) (by kernel_rfl))
  ·exact zt (g := zif) g2 (zqc [(73, 1, 5, .q (xi ((zH zr (⟨p1, p2⟩ : zl) p0.same).getD 0))), (73, 2, 3, .q (xb false)), (73, 4, 1, .q (xb false))] [] (ob (zxm (ek := (fun k => D.agg (zh k))) (evl := (fun n => D.i .i64 n)) (q := zr) (fun _ _ => rfl) (⟨p1, p2⟩ : zl) p0.same 0) (ob (o_b h1) (ob (o_b h2) ob0))) (by kernel_rfl))
noncomputable def zWy (p0 : za) (p1 p2 : Int) (r : (Int × Int × (List (zl × Int)))) : TM := [(0, (.d (.agg (zb p0)))), (1, (xi p1)), (2, (xi p2)), (zsp 3), (6, (xi 0)), (7, (xi 0)), (zsp 8), (9, (xi r.1))]
noncomputable def zUe (p0 : za) (p1 p2 : Int) (r : (Int × Int × (List (zl × Int)))) : St := ⟨(zWy p0 p1 p2 r), ⟨[(zc 3 (zb p0)), (8, (.cells [(xi r.2.1), (.d (.mp (em (fun k => D.agg (zh k)) (fun n => D.i .i64 n) r.2.2)))]))], []⟩, []⟩
noncomputable def zjz (p0 : za) (p1 p2 : Int) : TM := [(0, (.d (.agg (zb p0)))), (1, (xi p1)), (2, (xi p2)), (zsp 3), (6, (xi 0)), (7, (xi 0))]
theorem ztk (k : Nat) (p0 : za) (p1 p2 : Int) (r : (Int × Int × (List (zl × Int)))) (h : zth k p0 p1 p2 = some r) : ev TE 30 (rgn TE 30 1) ⟨(zjz p0 p1 p2), ⟨[(zc 3 (zb p0))], []⟩, []⟩ = some (.nor, zUe p0 p1 p2 r) := by
 unfold zth at h
 refine zi h (fun v201 h202 g1 => ?_)
 refine zm g1 (fun h203 g2 => ?_) (fun h203 g2 => ?_)
 ·refine zi g2 (fun v204 h205 g3 => ?_)
  refine zi g3 (fun v206 h207 g4 => ?_)
  exact zq (g := fun r => (Ex.nor, zUe p0 p1 p2 r)) g4 (zqe [(30, 1, 4, .q (xi (p0.Letters.1.length : Int))), (30, 1, 6, .c (db v201)), (30, 1, 7, .q (xb true)), (30, 1, 11, .q (xi (p0.Letters.1.length : Int))), (30, 1, 13, .c (db v204)), (30, 1, 15, .c (.tup [(.agg [(di v206.1.many), (.mp (em (fun k => D.agg (zh k)) (fun n => D.i .i64 n) v206.1.same))]), (di v206.2)]))] [] (ob (zp zd p0.Letters.1) (ob (zw k p1 0 (w64 ((p0.Letters.1.length : Int) - 1)) _ h202) (ob (o_b h203) (ob (zp zd p0.Letters.1) (ob (zw k p2 0 (w64 ((p0.Letters.1.length : Int) - 1)) _ h205) (ob (zid k p0 v204 _ h207) ob0)))))) (by kernel_rfl))
 ·refine zi g2 (fun v204 h205 g3 => ?_)
  exact zq (g := fun r => (Ex.nor, zUe p0 p1 p2 r)) g3 (zqe [(30, 1, 4, .q (xi (p0.Letters.1.length : Int))), (30, 1, 6, .c (db v201)), (30, 1, 7, .q (xb false)), (30, 1, 15, .c (.tup [(.agg [(di v204.1.many), (.mp (em (fun k => D.agg (zh k)) (fun n => D.i .i64 n) v204.1.same))]), (di v204.2)]))] [] (ob (zp zd p0.Letters.1) (ob (zw k p1 0 (w64 ((p0.Letters.1.length : Int) - 1)) _ h202) (ob (o_b h203) (ob (zid k p0 false _ h205) ob0)))) (by kernel_rfl))
theorem zcb (k : Nat) (p0 : za) (p1 p2 : Int) (r : zt0) (h : zwg k p0 p1 p2 = some r) : zx TE (ev TE) 30 [(.agg (zb p0)), (di p1), (di p2)] = some (zfk r) := by
 unfold zwg at h
 refine zi h (fun v1 h2 g1 => ?_)
 refine zm g1 (fun h3 g2 => ?_) (fun h3 g2 => ?_)
 ·exact zt (g := zfk) g2 (zqc [(30, 2, 1, .q (xb true))] [(30, 1000001, (.nor, zUe p0 p1 p2 v1))] (ob (ztk k p0 p1 p2 _ h2) (ob (o_b h3) ob0)) (by kernel_rfl))
 ·refine zi g2 (fun v4 h5 g3 => ?_)
  exact zt (g := zfk) g3 (zqc [(30, 2, 1, .q (xb false)), (30, 4, 3, .c (di v4))] [(30, 1000001, (.nor, zUe p0 p1 p2 v1))] (ob (ztk k p0 p1 p2 _ h2) (ob (o_b h3) (ob (zYg k (⟨v1.2.1, v1.2.2⟩ : z7) p1 p2 _ h5) ob0))) (by kernel_rfl))
noncomputable def zey (p0 : za) (v1 : zt8) (s1_16 : zt7) (s1_9 : Int) (s6_23 : zt6) (s6_13 : Int) : TM := [(0, (.d (.agg (zb p0)))), (zsp 1), (2, (.d (.sl [] .nil))), (3, (xi 0)), (zsp 4), (5, (xi v1.2)), (17, (xb false)), (6, (.row 0 6 s1_16.length)), (zsp 7), (21, (xi (p0.Letters.1.length : Int))), (22, (xi s1_9)), (23, (xb true)), (8, (xi s1_9)), (27, (xb false)), (9, (.row 0 9 s6_23.length)), (10, (xi s6_13))]
noncomputable def zso (p0 : za) (v1 : zt8) (s1_9 : Int) (s1_16 : zt7) (s6_13 : Int) (s6_22 : zt3) (s6_23 : zt6) : St := ⟨(zey p0 v1 s1_16 s1_9 s6_23 s6_13), ⟨[(zc 1 (zb p0)), (4, (.cells [(xi v1.1.many), (.d (.mp (em (fun k => D.agg (zh k)) (fun n => D.i .i64 n) v1.1.same)))])), (6, (rowO true 1 (eL eI) s1_16 true)), (zc 7 (aB 8 s6_22)), (9, (rowO true 1 eI s6_23 true))], []⟩, []⟩
noncomputable def zRx (p0 : za) (v1 : zt8) (s1_16 : zt7) (s1_9 : Int) (r : (Int × (Nat → Bool) × (List Int))) : TM := [(0, (.d (.agg (zb p0)))), (zsp 1), (2, (.d (.sl [] .nil))), (3, (xi 0)), (zsp 4), (5, (xi v1.2)), (17, (xb false)), (6, (.row 0 6 s1_16.length)), (zsp 7), (21, (xi (p0.Letters.1.length : Int))), (22, (xi s1_9)), (23, (xb true)), (8, (xi s1_9)), (27, (xb false)), (9, (.row 0 9 r.2.2.length)), (10, (xi r.1)), (33, (xb false))]
noncomputable def zfh (p0 : za) (v1 : zt8) (s1_9 : Int) (s1_16 : zt7) (r : (Int × (Nat → Bool) × (List Int))) : St := ⟨(zRx p0 v1 s1_16 s1_9 r), ⟨[(zc 1 (zb p0)), (4, (.cells [(xi v1.1.many), (.d (.mp (em (fun k => D.agg (zh k)) (fun n => D.i .i64 n) v1.1.same)))])), (6, (rowO true 1 (eL eI) s1_16 true)), (zc 7 (aB 8 r.2.1)), (9, (rowO true 1 eI r.2.2 true))], []⟩, []⟩
noncomputable def zNo (p0 : za) (v1 : zt8) (s1_9 : Int) (s1_16 : zt7) : (Int × (Nat → Bool) × (List Int)) → Ex × St := fun r => ((.exit 2), zfh p0 v1 s1_9 s1_16 r)
theorem zLn (k : Nat) (p0 : za) (v1 : zt8) (s1_9 : Int) (s1_16 : zt7) (s6_13 : Int) (s6_22 : zt3) (s6_23 : zt6) (x : (Int × (Nat → Bool) × (List Int)) ⊕ (Int × (Nat → Bool) × (List Int))) (h : zHd k p0 v1 s1_9 s1_16 s6_13 s6_22 s6_23 = some x) : zF TE 32 (blk TE 32 2) (fun s : (Int × (Nat → Bool) × (List Int)) => zso p0 v1 s1_9 s1_16 s.1 s.2.1 s.2.2) (zNo p0 v1 s1_9 s1_16) (s6_13, s6_22, s6_23) x := by
 unfold zHd at h
 refine zm h (fun h801 g1 => ?_) (fun h801 g1 => ?_)
 ·refine zi g1 (fun v802 h803 g2 => ?_)
  refine zm g2 (fun h804 g3 => ?_) (fun h804 g3 => ?_)
  ·refine zib g3 (fun h805 g4 => ?_)
   refine zib g4 (fun h806 g5 => ?_)
   exact zqn ((w64 (s6_13 + 1)), (upd s6_22 s6_13.toNat true), (s6_23 ++ [s6_13])) [6, 9] [(32, 12, 3, .q (xi (p0.Letters.1.length : Int))), (32, 12, 4, .q (xb true)), (32, 14, 3, .c (di v802)), (32, 14, 4, .q (xb true)), (32, 15, 3, .ap (s6_23 ++ [s6_13]).length (rowO true 1 eI (s6_23 ++ [s6_13]) true)), (32, 16, 1, .q (.ptr 0 7 (s6_13.toNat))), (32, 16, 2, .st ((aB 8 (upd s6_22 s6_13.toNat true)).map .d))] [] g5 (ob (zp zd p0.Letters.1) (ob (o_b h801) (ob (zYg k v1.1 s1_9 s6_13 _ h803) (ob (o_b h804) (ob (o_ap (b := true) (z := 1) (e := eI) (l := s6_23) (w := true) s6_13 (fun _ => rfl) h805) (ob (z5i (m := 8) 0 7 0 1 s6_13.toNat h806 (by omega)) (ob (z9t 8 s6_22 s6_13.toNat true (by have := h806; simp only [Bool.and_eq_true, decide_eq_true_eq] at this; omega)) (ob (zWd true 1 (eL eI) s1_16 true) (ob (zWd true 1 eI (s6_23 ++ [s6_13]) true) ob0))))))))) (by kernel_rfl)
  ·exact zqn ((w64 (s6_13 + 1)), s6_22, s6_23) [6, 9] [(32, 12, 3, .q (xi (p0.Letters.1.length : Int))), (32, 12, 4, .q (xb true)), (32, 14, 3, .c (di v802)), (32, 14, 4, .q (xb false))] [] g3 (ob (zp zd p0.Letters.1) (ob (o_b h801) (ob (zYg k v1.1 s1_9 s6_13 _ h803) (ob (o_b h804) (ob (zWd true 1 (eL eI) s1_16 true) (ob (zWd true 1 eI s6_23 true) ob0)))))) (by kernel_rfl)
 ·exact zqo [(32, 12, 3, .q (xi (p0.Letters.1.length : Int))), (32, 12, 4, .q (xb false))] [] g1 (ob (zp zd p0.Letters.1) (ob (o_b h801) ob0)) (by kernel_rfl)
noncomputable def zry (p0 : za) (v1 : zt8) (s1_16 : zt7) (s1_9 : Int) : TM := [(0, (.d (.agg (zb p0)))), (zsp 1), (2, (.d (.sl [] .nil))), (3, (xi 0)), (zsp 4), (5, (xi v1.2)), (17, (xb false)), (6, (.row 0 6 s1_16.length)), (zsp 7), (21, (xi (p0.Letters.1.length : Int))), (22, (xi s1_9))]
noncomputable def zuo (p0 : za) (v1 : zt8) (s1_9 : Int) (s1_16 : zt7) (s1_18 : zt3) : St := ⟨(zry p0 v1 s1_16 s1_9), ⟨[(zc 1 (zb p0)), (4, (.cells [(xi v1.1.many), (.d (.mp (em (fun k => D.agg (zh k)) (fun n => D.i .i64 n) v1.1.same)))])), (6, (rowO true 1 (eL eI) s1_16 true)), (zc 7 (aB 8 s1_18))], []⟩, []⟩
noncomputable def zkz (p0 : za) (v1 : zt8) (r : (Int × (List (SL Int)) × (Nat → Bool))) : TM := [(0, (.d (.agg (zb p0)))), (zsp 1), (2, (.d (.sl [] .nil))), (3, (xi 0)), (zsp 4), (5, (xi v1.2)), (17, (xb false)), (6, (.row 0 6 r.2.1.length)), (zsp 7), (21, (xi (p0.Letters.1.length : Int))), (22, (xi r.1)), (23, (xb false))]
noncomputable def zdh (p0 : za) (v1 : zt8) (r : (Int × (List (SL Int)) × (Nat → Bool))) : St := ⟨(zkz p0 v1 r), ⟨[(zc 1 (zb p0)), (4, (.cells [(xi v1.1.many), (.d (.mp (em (fun k => D.agg (zh k)) (fun n => D.i .i64 n) v1.1.same)))])), (6, (rowO true 1 (eL eI) r.2.1 true)), (zc 7 (aB 8 r.2.2))], []⟩, []⟩
noncomputable def zfo (p0 : za) (v1 : zt8) : (Int × (List (SL Int)) × (Nat → Bool)) → Ex × St := fun r => ((.exit 0), zdh p0 v1 r)
theorem zQn (k : Nat) (p0 : za) (v1 : zt8) (s1_9 : Int) (s1_16 : zt7) (s1_18 : zt3) (x : (Int × (List (SL Int)) × (Nat → Bool)) ⊕ (Int × (List (SL Int)) × (Nat → Bool))) (h : zTe k p0 v1 s1_9 s1_16 s1_18 = some x) : zF TE 32 (blk TE 32 0) (fun s : (Int × (List (SL Int)) × (Nat → Bool)) => zuo p0 v1 s.1 s.2.1 s.2.2) (zfo p0 v1) (s1_9, s1_16, s1_18) x := by
 unfold zTe at h
 refine zm h (fun h601 g1 => ?_) (fun h601 g1 => ?_)
 ·refine zib g1 (fun h602 g2 => ?_)
  refine zm g2 (fun h603 g3 => ?_) (fun h603 g3 => ?_)
  ·exact zqn ((w64 (s1_9 + 1)), s1_16, s1_18) [6] [(32, 7, 0, .q (xb true)), (32, 9, 1, .q (.ptr 0 7 (s1_9.toNat))), (32, 9, 2, .q (xb true))] [] g3 (ob (o_b h601) (ob (z5i (m := 8) 0 7 0 1 s1_9.toNat h602 (by omega)) (ob (o_tr (zEw 8 s1_18 s1_9.toNat (by have := h602; simp only [Bool.and_eq_true, decide_eq_true_eq] at this; omega)) h603) (ob (zWd true 1 (eL eI) s1_16 true) ob0)))) (by kernel_rfl)
  ·refine zi g3 (fun v604 h605 g4 => ?_)
   refine zib g4 (fun h606 g5 => ?_)
   exact zqn ((w64 (s1_9 + 1)), (s1_16 ++ [(v604.2.2, (xcap true v604.2.2))]), v604.2.1) [6] [(32, 7, 0, .q (xb true)), (32, 9, 1, .q (.ptr 0 7 (s1_9.toNat))), (32, 9, 2, .q (xb false)), (32, 17, 3, .q (xi (v604.2.2.length : Int))), (32, 17, 5, .q (xi (v604.2.2.length : Int))), (32, 17, 6, .sr (.d (dl eI v604.2.2 (xcap true v604.2.2))) (rowO true 1 eI v604.2.2 false)), (32, 17, 8, .ap (s1_16 ++ [(v604.2.2, (xcap true v604.2.2))]).length (rowO true 1 (eL eI) (s1_16 ++ [(v604.2.2, (xcap true v604.2.2))]) true))] [(32, 2, (.nor, zfh p0 v1 s1_9 s1_16 v604))] g5 (ob (o_b h601) (ob (z5i (m := 8) 0 7 0 1 s1_9.toNat h602 (by omega)) (ob (o_tr (zEw 8 s1_18 s1_9.toNat (by have := h602; simp only [Bool.and_eq_true, decide_eq_true_eq] at this; omega)) h603) (ob (zu (id := 2) (r' := (.nor, zfh p0 v1 s1_9 s1_16 v604)) (zYi (zLn k p0 v1 s1_9 s1_16) k _ _ h605) rfl) (ob (z2e true 1 eI v604.2.2 true) (ob (z2e true 1 eI v604.2.2 true) (ob (o_sr (P := TE.P) (T := 27) (U := 3) (by' := 8) (ρ := fun _ => xi (v604.2.2.length : Int)) (lv := 0) (s := 9) (lo := none) (hi := some (.tmp 0)) (mx := some (.tmp 0)) true 1 eI v604.2.2 true (by kernel_rfl) (by kernel_rfl) rfl rfl rfl) (ob (o_ap (b := true) (z := 1) (e := (eL eI)) (l := s1_16) (w := true) (v604.2.2, (xcap true v604.2.2)) (fun _ => rfl) h606) (ob (zWd true 1 (eL eI) (s1_16 ++ [(v604.2.2, (xcap true v604.2.2))]) true) ob0))))))))) (by kernel_rfl)
 ·exact zqo [(32, 7, 0, .q (xb false))] [] g1 (ob (o_b h601) ob0) (by kernel_rfl)
theorem zJ (k : Nat) (p0 : za) (r : zt5) (h : zhf k p0 = some r) : zx TE (ev TE) 32 [(.agg (zb p0))] = some (zWi r) := by
 unfold zhf at h
 refine zi h (fun v1 h2 g1 => ?_)
 refine zm g1 (fun h3 g2 => ?_) (fun h3 g2 => ?_)
 ·exact zt (g := zWi) g2 (zqc [(32, 1, 1, .c (.tup [(.agg [(di v1.1.many), (.mp (em (fun k => D.agg (zh k)) (fun n => D.i .i64 n) v1.1.same))]), (di v1.2)])), (32, 2, 1, .q (xb true))] [] (ob (zid k p0 true _ h2) (ob (o_b h3) ob0)) (by kernel_rfl))
 ·refine zi g2 (fun v4 h5 g3 => ?_)
  exact zt (g := zWi) g3 (zqc [(32, 1, 1, .c (.tup [(.agg [(di v1.1.many), (.mp (em (fun k => D.agg (zh k)) (fun n => D.i .i64 n) v1.1.same))]), (di v1.2)])), (32, 2, 1, .q (xb false)), (32, 6, 2, .q (xi (p0.Letters.1.length : Int))), (32, 19, 2, .q (xi (v4.2.1.length : Int))), (32, 19, 4, .q (xi (v4.2.1.length : Int))), (32, 19, 5, .sr (.d (dl (eL eI) v4.2.1 (xcap true v4.2.1))) (rowO true 1 (eL eI) v4.2.1 false))] [(32, 0, (.nor, zdh p0 v1 v4))] (ob (zid k p0 true _ h2) (ob (o_b h3) (ob (zp zd p0.Letters.1) (ob (zu (id := 0) (r' := (.nor, zdh p0 v1 v4)) (zYi (zQn k p0 v1) k _ _ h5) rfl) (ob (z2e true 1 (eL eI) v4.2.1 true) (ob (z2e true 1 (eL eI) v4.2.1 true) (ob (o_sr (P := TE.P) (T := 23) (U := 27) (by' := 24) (ρ := fun _ => xi (v4.2.1.length : Int)) (lv := 0) (s := 6) (lo := none) (hi := some (.tmp 0)) (mx := some (.tmp 0)) true 1 (eL eI) v4.2.1 true (by kernel_rfl) (by kernel_rfl) rfl rfl rfl) ob0))))))) (by kernel_rfl))
noncomputable def z3x (p0 : za) (v1 : zt8) (r : (Int × Bool × Int × Int)) (s1_11 s8_14 v1002 : Int) : TM := [(0, (.d (.agg (zb p0)))), (zsp 1), (2, (xi 0)), (3, (xi 0)), (4, (xi v1.2)), (zsp 5), (18, (xb false)), (22, (xb false)), (zsp 6), (7, (xi r.1)), (29, (xi (p0.Letters.1.length : Int))), (30, (xi s1_11)), (31, (xb true)), (8, (xi s1_11)), (9, (xi s8_14)), (39, (xb true)), (10, (xi ((zH zr (⟨s1_11, s8_14⟩ : zl) v1.1.same).getD 0))), (11, (xi v1002)), (57, (xb r.2.1))]
noncomputable def zBg (p0 : za) (v1 : zt8) (s1_11 s8_9 s8_14 s8_21 s8_22 v1002 : Int) (cb : Bool) (r : (Int × Bool × Int × Int)) : St := ⟨(z3x p0 v1 r s1_11 s8_14 v1002), ⟨[(zc 1 (zb p0)), (5, (.cells [(xi v1.1.many), (.d (.mp (em (fun k => D.agg (zh k)) (fun n => D.i .i64 n) v1.1.same)))])), (6, (.cells [(xi r.2.2.1), (xi r.2.2.2)]))], []⟩, []⟩
noncomputable def zUx (p0 : za) (v1 : zt8) (s8_9 s1_11 s8_14 v1002 : Int) (cb : Bool) : TM := [(0, (.d (.agg (zb p0)))), (zsp 1), (2, (xi 0)), (3, (xi 0)), (4, (xi v1.2)), (zsp 5), (18, (xb false)), (22, (xb false)), (zsp 6), (7, (xi s8_9)), (29, (xi (p0.Letters.1.length : Int))), (30, (xi s1_11)), (31, (xb true)), (8, (xi s1_11)), (9, (xi s8_14)), (39, (xb true)), (10, (xi ((zH zr (⟨s1_11, s8_14⟩ : zl) v1.1.same).getD 0))), (11, (xi v1002)), (57, (xb cb))]
theorem z6o (k : Nat) (p0 : za) (v1 : zt8) (s1_11 s8_9 s8_14 s8_21 s8_22 v1002 : Int) (cb : Bool) (r : (Int × Bool × Int × Int)) (h : zsj k p0 v1 s1_11 s8_9 s8_14 s8_21 s8_22 v1002 cb = some r) : ev TE 35 (cnd TE 35 57) ⟨(zUx p0 v1 s8_9 s1_11 s8_14 v1002 cb), ⟨[(zc 1 (zb p0)), (5, (.cells [(xi v1.1.many), (.d (.mp (em (fun k => D.agg (zh k)) (fun n => D.i .i64 n) v1.1.same)))])), (6, (.cells [(xi s8_21), (xi s8_22)]))], []⟩, []⟩ = some (.nor, zBg p0 v1 s1_11 s8_9 s8_14 s8_21 s8_22 v1002 cb r) := by
 unfold zsj at h
 refine zm h (fun h1101 g1 => ?_) (fun h1101 g1 => ?_)
 ·subst h1101
  exact zq (g := fun r => (Ex.nor, zBg p0 v1 s1_11 s8_9 s8_14 s8_21 s8_22 v1002 true r)) g1 (zqe [] [] ob0 (by kernel_rfl))
 ·subst h1101
  exact zq (g := fun r => (Ex.nor, zBg p0 v1 s1_11 s8_9 s8_14 s8_21 s8_22 v1002 false r)) g1 (zqe [] [] ob0 (by kernel_rfl))
noncomputable def zZx (p0 : za) (v1 : zt8) (s8_9 s1_11 s8_14 : Int) : TM := [(0, (.d (.agg (zb p0)))), (zsp 1), (2, (xi 0)), (3, (xi 0)), (4, (xi v1.2)), (zsp 5), (18, (xb false)), (22, (xb false)), (zsp 6), (7, (xi s8_9)), (29, (xi (p0.Letters.1.length : Int))), (30, (xi s1_11)), (31, (xb true)), (8, (xi s1_11)), (9, (xi s8_14))]
noncomputable def zYp (p0 : za) (v1 : zt8) (s1_11 s8_9 s8_14 s8_21 s8_22 : Int) : St := ⟨(zZx p0 v1 s8_9 s1_11 s8_14), ⟨[(zc 1 (zb p0)), (5, (.cells [(xi v1.1.many), (.d (.mp (em (fun k => D.agg (zh k)) (fun n => D.i .i64 n) v1.1.same)))])), (6, (.cells [(xi s8_21), (xi s8_22)]))], []⟩, []⟩
noncomputable def zez (p0 : za) (v1 : zt8) (r : (Int × Int × Int × Int)) (s1_11 : Int) : TM := [(0, (.d (.agg (zb p0)))), (zsp 1), (2, (xi 0)), (3, (xi 0)), (4, (xi v1.2)), (zsp 5), (18, (xb false)), (22, (xb false)), (zsp 6), (7, (xi r.1)), (29, (xi (p0.Letters.1.length : Int))), (30, (xi s1_11)), (31, (xb true)), (8, (xi s1_11)), (9, (xi r.2.1)), (39, (xb false))]
noncomputable def zvi (p0 : za) (v1 : zt8) (s1_11 : Int) (r : (Int × Int × Int × Int)) : St := ⟨(zez p0 v1 r s1_11), ⟨[(zc 1 (zb p0)), (5, (.cells [(xi v1.1.many), (.d (.mp (em (fun k => D.agg (zh k)) (fun n => D.i .i64 n) v1.1.same)))])), (6, (.cells [(xi r.2.2.1), (xi r.2.2.2)]))], []⟩, []⟩
noncomputable def zZp (p0 : za) (v1 : zt8) (s1_11 : Int) : (Int × Int × Int × Int) → Ex × St := fun r => ((.exit 2), zvi p0 v1 s1_11 r)
theorem ztp (k : Nat) (p0 : za) (v1 : zt8) (s1_11 s8_9 s8_14 s8_21 s8_22 : Int) (x : (Int × Int × Int × Int) ⊕ (Int × Int × Int × Int)) (h : zgk k p0 v1 s1_11 s8_9 s8_14 s8_21 s8_22 = some x) : zF TE 35 (blk TE 35 2) (fun s : (Int × Int × Int × Int) => zYp p0 v1 s1_11 s.1 s.2.1 s.2.2.1 s.2.2.2) (zZp p0 v1 s1_11) (s8_9, s8_14, s8_21, s8_22) x := by
 unfold zgk at h
 refine zm h (fun h1001 g1 => ?_) (fun h1001 g1 => ?_)
 ·refine zi g1 (fun v1002 h1003 g2 => ?_)
  refine zi g2 (fun v1004 h1005 g3 => ?_)
  exact zqn (v1004.1, (w64 (s8_14 + 1)), v1004.2.2.1, v1004.2.2.2) [] [(35, 11, 3, .q (xi (p0.Letters.1.length : Int))), (35, 11, 4, .q (xb true)), (35, 13, 5, .q (xi ((zH zr (⟨s1_11, s8_14⟩ : zl) v1.1.same).getD 0))), (35, 14, 6, .c (di v1002))] [(35, 2000057, (.nor, zBg p0 v1 s1_11 s8_9 s8_14 s8_21 s8_22 v1002 (decide (v1002 < s8_9)) v1004))] g3 (ob (zp zd p0.Letters.1) (ob (o_b h1001) (ob (zxm (ek := (fun k => D.agg (zh k))) (evl := (fun n => D.i .i64 n)) (q := zr) (fun _ _ => rfl) (⟨s1_11, s8_14⟩ : zl) v1.1.same 0) (ob (zae k ((zH zr (⟨s1_11, s8_14⟩ : zl) v1.1.same).getD 0) ([(w64 (v1.1.many - ((zH zr (⟨s1_11, s8_14⟩ : zl) v1.1.same).getD 0)))], .ex) _ h1003) (ob (z6o k p0 v1 s1_11 s8_9 s8_14 s8_21 s8_22 v1002 (decide (v1002 < s8_9)) _ h1005) ob0))))) (by kernel_rfl)
 ·exact zqo [(35, 11, 3, .q (xi (p0.Letters.1.length : Int))), (35, 11, 4, .q (xb false))] [] g1 (ob (zp zd p0.Letters.1) (ob (o_b h1001) ob0)) (by kernel_rfl)
noncomputable def z2x (p0 : za) (v1 : zt8) (s1_9 s1_11 : Int) : TM := [(0, (.d (.agg (zb p0)))), (zsp 1), (2, (xi 0)), (3, (xi 0)), (4, (xi v1.2)), (zsp 5), (18, (xb false)), (22, (xb false)), (zsp 6), (7, (xi s1_9)), (29, (xi (p0.Letters.1.length : Int))), (30, (xi s1_11))]
noncomputable def z0p (p0 : za) (v1 : zt8) (s1_9 s1_11 s1_18 s1_19 : Int) : St := ⟨(z2x p0 v1 s1_9 s1_11), ⟨[(zc 1 (zb p0)), (5, (.cells [(xi v1.1.many), (.d (.mp (em (fun k => D.agg (zh k)) (fun n => D.i .i64 n) v1.1.same)))])), (6, (.cells [(xi s1_18), (xi s1_19)]))], []⟩, []⟩
noncomputable def zQx (p0 : za) (v1 : zt8) (r : (Int × Int × Int × Int)) : TM := [(0, (.d (.agg (zb p0)))), (zsp 1), (2, (xi 0)), (3, (xi 0)), (4, (xi v1.2)), (zsp 5), (18, (xb false)), (22, (xb false)), (zsp 6), (7, (xi r.1)), (29, (xi (p0.Letters.1.length : Int))), (30, (xi r.2.1)), (31, (xb false))]
noncomputable def zxi (p0 : za) (v1 : zt8) (r : (Int × Int × Int × Int)) : St := ⟨(zQx p0 v1 r), ⟨[(zc 1 (zb p0)), (5, (.cells [(xi v1.1.many), (.d (.mp (em (fun k => D.agg (zh k)) (fun n => D.i .i64 n) v1.1.same)))])), (6, (.cells [(xi r.2.2.1), (xi r.2.2.2)]))], []⟩, []⟩
noncomputable def z3p (p0 : za) (v1 : zt8) : (Int × Int × Int × Int) → Ex × St := fun r => ((.exit 0), zxi p0 v1 r)
theorem zqp (k : Nat) (p0 : za) (v1 : zt8) (s1_9 s1_11 s1_18 s1_19 : Int) (x : (Int × Int × Int × Int) ⊕ (Int × Int × Int × Int)) (h : zVj k p0 v1 s1_9 s1_11 s1_18 s1_19 = some x) : zF TE 35 (blk TE 35 0) (fun s : (Int × Int × Int × Int) => z0p p0 v1 s.1 s.2.1 s.2.2.1 s.2.2.2) (z3p p0 v1) (s1_9, s1_11, s1_18, s1_19) x := by
 unfold zVj at h
 refine zm h (fun h801 g1 => ?_) (fun h801 g1 => ?_)
 ·refine zi g1 (fun v802 h803 g2 => ?_)
  exact zqn (v802.1, (w64 (s1_11 + 1)), v802.2.2.1, v802.2.2.2) [] [(35, 8, 0, .q (xb true))] [(35, 2, (.nor, zvi p0 v1 s1_11 v802))] g2 (ob (o_b h801) (ob (zu (id := 2) (r' := (.nor, zvi p0 v1 s1_11 v802)) (zex (ztp k p0 v1 s1_11) k _ _ h803) rfl) ob0)) (by kernel_rfl)
 ·exact zqo [(35, 8, 0, .q (xb false))] [] g1 (ob (o_b h801) ob0) (by kernel_rfl)
theorem zIb (k : Nat) (p0 : za) (r : (Int × Int × Int)) (h : zLm k p0 = some r) : zx TE (ev TE) 35 [(.agg (zb p0))] = some (zDi r) := by
 unfold zLm at h
 refine zi h (fun v1 h2 g1 => ?_)
 refine zm g1 (fun h3 g2 => ?_) (fun h3 g2 => ?_)
 ·exact zt (g := zDi) g2 (zqc [(35, 1, 1, .c (.tup [(.agg [(di v1.1.many), (.mp (em (fun k => D.agg (zh k)) (fun n => D.i .i64 n) v1.1.same))]), (di v1.2)])), (35, 2, 1, .q (xb true))] [] (ob (zid k p0 true _ h2) (ob (o_b h3) ob0)) (by kernel_rfl))
 ·refine zm g2 (fun h4 g3 => ?_) (fun h4 g3 => ?_)
  ·exact zt (g := zDi) g3 (zqc [(35, 1, 1, .c (.tup [(.agg [(di v1.1.many), (.mp (em (fun k => D.agg (zh k)) (fun n => D.i .i64 n) v1.1.same))]), (di v1.2)])), (35, 2, 1, .q (xb false)), (35, 4, 2, .q (xb true))] [] (ob (zid k p0 true _ h2) (ob (o_b h3) (ob (o_b h4) ob0))) (by kernel_rfl))
  ·refine zi g3 (fun v5 h6 g4 => ?_)
   exact zt (g := zDi) g4 (zqc [(35, 1, 1, .c (.tup [(.agg [(di v1.1.many), (.mp (em (fun k => D.agg (zh k)) (fun n => D.i .i64 n) v1.1.same))]), (di v1.2)])), (35, 2, 1, .q (xb false)), (35, 4, 2, .q (xb false)), (35, 7, 2, .q (xi (p0.Letters.1.length : Int)))] [(35, 0, (.nor, zxi p0 v1 v5))] (ob (zid k p0 true _ h2) (ob (o_b h3) (ob (o_b h4) (ob (zp zd p0.Letters.1) (ob (zu (id := 0) (r' := (.nor, zxi p0 v1 v5)) (zex (zqp k p0 v1) k _ _ h6) rfl) ob0))))) (by kernel_rfl))
noncomputable def zgm (p0 : za) (v3 : zt2) : TM := [(0, (.d (.agg (zb p0)))), (zsp 1), (zsp 2), (5, (.d (.fn 88 [] [(.pin [(dl zd v3.1.1 v3.1.2), (dl (eL eI) v3.2.1.1 v3.2.1.2), (dl (aI 2) v3.2.2.1.1 v3.2.2.1.2), (di v3.2.2.2.1), (.mp (em (fun k => D.agg (zh k)) (fun b => D.b b) v3.2.2.2.2))])])))]
noncomputable def z1e (p0 : za) (v3 : zt2) : (Unit ⊕ Unit) → D × FS × List LRec := Sum.elim (fun r => ((db false), ⟨[(2, (.cells [(.yld 0)])), (3, (.cells [(.fn 89 [] [(.d (.pin [(dl zd v3.1.1 v3.1.2), (dl (eL eI) v3.2.1.1 v3.2.1.2), (dl (aI 2) v3.2.2.1.1 v3.2.2.1.2), (di v3.2.2.2.1), (.mp (em (fun k => D.agg (zh k)) (fun b => D.b b) v3.2.2.2.2))])), (.ptr 1 2 0), (.ptr 1 3 0)])]))], [[(zc 1 (zb p0)), (2, (.cells [(xb true)]))]]⟩, [⟨(zgm p0 v3), 0, rfP (blk TE 66 0), rfA (blk TE 66 0), rfB (blk TE 66 0), 66, (.done .ret)⟩])) (fun r => ((db true), ⟨[(2, (.cells [(.yld 0)])), (3, (.cells [(.fn 89 [] [(.d (.pin [(dl zd v3.1.1 v3.1.2), (dl (eL eI) v3.2.1.1 v3.2.1.2), (dl (aI 2) v3.2.2.1.1 v3.2.2.1.2), (di v3.2.2.2.1), (.mp (em (fun k => D.agg (zh k)) (fun b => D.b b) v3.2.2.2.2))])), (.ptr 1 2 0), (.ptr 1 3 0)])]))], [[(zc 1 (zb p0)), (2, (.cells [(xb false)]))]]⟩, [⟨(zgm p0 v3), 0, rfP (blk TE 66 0), rfA (blk TE 66 0), rfB (blk TE 66 0), 66, .rdy⟩]))
noncomputable def z3e (p0 : za) (v3 : zt2) (f : Fr) (fs : List Fr) : (Unit ⊕ Unit) → D × FS × List LRec := Sum.elim (fun r => ((db false), ⟨f, [[(zc 1 (zb p0)), (2, (.cells [(xb true)]))], [(2, (.cells [(.yld 0)])), (3, (.cells [(.fn 89 [] [(.d (.pin [(dl zd v3.1.1 v3.1.2), (dl (eL eI) v3.2.1.1 v3.2.1.2), (dl (aI 2) v3.2.2.1.1 v3.2.2.1.2), (di v3.2.2.2.1), (.mp (em (fun k => D.agg (zh k)) (fun b => D.b b) v3.2.2.2.2))])), (.ptr 1 2 0), (.ptr 1 3 0)])]))]] ++ fs⟩, [⟨(zgm p0 v3), 0, rfP (blk TE 66 0), rfA (blk TE 66 0), rfB (blk TE 66 0), 66, (.done .ret)⟩])) (fun r => ((db true), ⟨f, [[(zc 1 (zb p0)), (2, (.cells [(xb false)]))], [(2, (.cells [(.yld 0)])), (3, (.cells [(.fn 89 [] [(.d (.pin [(dl zd v3.1.1 v3.1.2), (dl (eL eI) v3.2.1.1 v3.2.1.2), (dl (aI 2) v3.2.2.1.1 v3.2.2.1.2), (di v3.2.2.2.1), (.mp (em (fun k => D.agg (zh k)) (fun b => D.b b) v3.2.2.2.2))])), (.ptr 1 2 0), (.ptr 1 3 0)])]))]] ++ fs⟩, [⟨(zgm p0 v3), 0, rfP (blk TE 66 0), rfA (blk TE 66 0), rfB (blk TE 66 0), 66, .rdy⟩]))
noncomputable def zFf (p0 : za) (v3 : zt2) (rc : ((SL Int) → Option (Unit ⊕ Unit))) (fs : List Fr) : Prop := ∀ (f : Fr) (r0 : (SL Int)) (x : (Unit ⊕ Unit)), rc r0 = some x → zMb TE (ev TE) 89 [(.d (dl eI r0.1 r0.2)), (.d (.pin [(dl zd v3.1.1 v3.1.2), (dl (eL eI) v3.2.1.1 v3.2.1.2), (dl (aI 2) v3.2.2.1.1 v3.2.2.1.2), (di v3.2.2.2.1), (.mp (em (fun k => D.agg (zh k)) (fun b => D.b b) v3.2.2.2.2))])), (.ptr 1 2 0), (.ptr 1 3 0)] ⟨f, ([[(zc 1 (zb p0)), (2, (.cells [(xb false)]))], [(2, (.cells [(.yld 0)])), (3, (.cells [(.fn 89 [] [(.d (.pin [(dl zd v3.1.1 v3.1.2), (dl (eL eI) v3.2.1.1 v3.2.1.2), (dl (aI 2) v3.2.2.1.1 v3.2.2.1.2), (di v3.2.2.2.1), (.mp (em (fun k => D.agg (zh k)) (fun b => D.b b) v3.2.2.2.2))])), (.ptr 1 2 0), (.ptr 1 3 0)])]))]] ++ fs)⟩ [⟨(zgm p0 v3), 0, rfP (blk TE 66 0), rfA (blk TE 66 0), rfB (blk TE 66 0), 66, .rdy⟩] = some (z3e p0 v3 f fs x)
noncomputable def zDy (r0 : (SL Int)) (v3 : zt2) (v202 s2_10 : Int) (r : Bool) : TM := [(0, (.d (dl eI r0.1 r0.2))), (1, (.d (.pin [(dl zd v3.1.1 v3.1.2), (dl (eL eI) v3.2.1.1 v3.2.1.2), (dl (aI 2) v3.2.2.1.1 v3.2.2.1.2), (di v3.2.2.2.1), (.mp (em (fun k => D.agg (zh k)) (fun b => D.b b) v3.2.2.2.2))]))), (2, (.ptr 1 2 0)), (3, (.ptr 1 3 0)), (5, (xb false)), (6, (xi (r0.1.length : Int))), (15, (xb false)), (25, (xi (if (w64 (v202 + 1)) < v3.2.2.2.1 then (w64 (v202 + 1)) else v3.2.2.2.1))), (26, (xi s2_10)), (27, (xb true)), (7, (xi s2_10)), (43, (xb r))]
noncomputable def zie (p0 : za) (v3 : zt2) (r0 : (SL Int)) (v202 s2_10 : Int) (rc : ((SL Int) → Option (Unit ⊕ Unit))) (fs : List Fr) (r : Bool) : St := ⟨(zDy r0 v3 v202 s2_10 r), ⟨[], ([[(zc 1 (zb p0)), (2, (.cells [(xb false)]))], [(2, (.cells [(.yld 0)])), (3, (.cells [(.fn 89 [] [(.d (.pin [(dl zd v3.1.1 v3.1.2), (dl (eL eI) v3.2.1.1 v3.2.1.2), (dl (aI 2) v3.2.2.1.1 v3.2.2.1.2), (di v3.2.2.2.1), (.mp (em (fun k => D.agg (zh k)) (fun b => D.b b) v3.2.2.2.2))])), (.ptr 1 2 0), (.ptr 1 3 0)])]))]] ++ fs)⟩, [⟨(zgm p0 v3), 0, rfP (blk TE 66 0), rfA (blk TE 66 0), rfB (blk TE 66 0), 66, .rdy⟩]⟩
noncomputable def zSx (r0 : (SL Int)) (v3 : zt2) (k : Nat) (v202 s2_10 : Int) : TM := [(0, (.d (dl eI r0.1 r0.2))), (1, (.d (.pin [(dl zd v3.1.1 v3.1.2), (dl (eL eI) v3.2.1.1 v3.2.1.2), (dl (aI 2) v3.2.2.1.1 v3.2.2.1.2), (di v3.2.2.2.1), (.mp (em (fun k => D.agg (zh k)) (fun b => D.b b) v3.2.2.2.2))]))), (2, (.ptr 1 2 0)), (3, (.ptr 1 3 0)), (5, (xb false)), (6, (xi (r0.1.length : Int))), (15, (xb false)), (25, (xi (if (w64 (v202 + 1)) < v3.2.2.2.1 then (w64 (v202 + 1)) else v3.2.2.2.1))), (26, (xi s2_10)), (27, (xb true)), (7, (xi s2_10))]
noncomputable def zds (p0 : za) (v3 : zt2) (k : Nat) : TM := [(0, (.d (.agg (zb p0)))), (zsp 1), (zsp 2), (5, (.d (.fn 88 [] [(.pin [(dl zd v3.1.1 v3.1.2), (dl (eL eI) v3.2.1.1 v3.2.1.2), (dl (aI 2) v3.2.2.1.1 v3.2.2.1.2), (di v3.2.2.2.1), (.mp (em (fun k => D.agg (zh k)) (fun b => D.b b) v3.2.2.2.2))])])))]
theorem zCi (k : Nat) (p0 : za) (v3 : zt2) (r0 : (SL Int)) (v202 s2_10 : Int) (rc : ((SL Int) → Option (Unit ⊕ Unit))) (fs : List Fr) (hfs : fs.length ≤ 8) (hrc : zFf p0 v3 rc fs) (r : Bool) (h : znk k p0 v3 r0 v202 s2_10 rc = some r) : ev TE 89 (rgn TE 89 7) ⟨(zSx r0 v3 k v202 s2_10), ⟨[], ([[(zc 1 (zb p0)), (2, (.cells [(xb false)]))], [(2, (.cells [(.yld 0)])), (3, (.cells [(.fn 89 [] [(.d (.pin [(dl zd v3.1.1 v3.1.2), (dl (eL eI) v3.2.1.1 v3.2.1.2), (dl (aI 2) v3.2.2.1.1 v3.2.2.1.2), (di v3.2.2.2.1), (.mp (em (fun k => D.agg (zh k)) (fun b => D.b b) v3.2.2.2.2))])), (.ptr 1 2 0), (.ptr 1 3 0)])]))]] ++ fs)⟩, [⟨(zds p0 v3 k), 0, rfP (blk TE 66 0), rfA (blk TE 66 0), rfB (blk TE 66 0), 66, .rdy⟩]⟩ = some (.nor, zie p0 v3 r0 v202 s2_10 rc fs r) := by
 unfold znk at h
 refine zi h (fun v501 h502 g1 => ?_)
 refine zm g1 (fun h503 g2 => ?_) (fun h503 g2 => ?_)
 ·exact zq (g := fun r => (Ex.nor, zie p0 v3 r0 v202 s2_10 rc fs r)) g2 (zqe [(89, 7, 4, .c (db v501)), (89, 7, 6, .q (xb true))] [] (ob (zZ k (⟨(⟨v3.1, v3.2.1, v3.2.2.1, v3.2.2.2.1⟩ : za), v3.2.2.2.2⟩ : zj) r0 (r0.1.length : Int) s2_10 _ h502) (ob (o_b h503) ob0)) (by cases f8 hfs <;> kernel_rfl))
 ·refine zi g2 (fun v504 h505 g3 => ?_)
  refine zi g3 (fun v506 h507 g4 => ?_)
  exact zq (g := fun r => (Ex.nor, zie p0 v3 r0 v202 s2_10 rc fs r)) g4 (zqe [(89, 7, 4, .c (db v501)), (89, 7, 6, .q (xb false)), (89, 7, 10, .c (.agg (aB 8 v504))), (89, 7, 12, .c (db v506))] [] (ob (zZ k (⟨(⟨v3.1, v3.2.1, v3.2.2.1, v3.2.2.2.1⟩ : za), v3.2.2.2.2⟩ : zj) r0 (r0.1.length : Int) s2_10 _ h502) (ob (o_b h503) (ob (zGf k r0 s2_10 _ h505) (ob (zic k (⟨(⟨v3.1, v3.2.1, v3.2.2.1, v3.2.2.2.1⟩ : za), v3.2.2.2.2⟩ : zj) v504 (r0.1.length : Int) _ h507) ob0)))) (by cases f8 hfs <;> kernel_rfl))
noncomputable def zzz (r0 : (SL Int)) (v3 : zt2) (v202 s2_10 : Int) : TM := [(0, (.d (dl eI r0.1 r0.2))), (1, (.d (.pin [(dl zd v3.1.1 v3.1.2), (dl (eL eI) v3.2.1.1 v3.2.1.2), (dl (aI 2) v3.2.2.1.1 v3.2.2.1.2), (di v3.2.2.2.1), (.mp (em (fun k => D.agg (zh k)) (fun b => D.b b) v3.2.2.2.2))]))), (2, (.ptr 1 2 0)), (3, (.ptr 1 3 0)), (5, (xb false)), (6, (xi (r0.1.length : Int))), (15, (xb false)), (25, (xi (if (w64 (v202 + 1)) < v3.2.2.2.1 then (w64 (v202 + 1)) else v3.2.2.2.1))), (26, (xi s2_10))]
noncomputable def z2p (p0 : za) (v3 : zt2) (r0 : (SL Int)) (v202 : Int) (rc : ((SL Int) → Option (Unit ⊕ Unit))) (fs : List Fr) (s2_10 : Int) : St := ⟨(zzz r0 v3 v202 s2_10), ⟨[], ([[(zc 1 (zb p0)), (2, (.cells [(xb false)]))], [(2, (.cells [(.yld 0)])), (3, (.cells [(.fn 89 [] [(.d (.pin [(dl zd v3.1.1 v3.1.2), (dl (eL eI) v3.2.1.1 v3.2.1.2), (dl (aI 2) v3.2.2.1.1 v3.2.2.1.2), (di v3.2.2.2.1), (.mp (em (fun k => D.agg (zh k)) (fun b => D.b b) v3.2.2.2.2))])), (.ptr 1 2 0), (.ptr 1 3 0)])]))]] ++ fs)⟩, [⟨(zgm p0 v3), 0, rfP (blk TE 66 0), rfA (blk TE 66 0), rfB (blk TE 66 0), 66, .rdy⟩]⟩
noncomputable def zSy (r0 : (SL Int)) (v3 : zt2) (v202 r : Int) : TM := [(0, (.d (dl eI r0.1 r0.2))), (1, (.d (.pin [(dl zd v3.1.1 v3.1.2), (dl (eL eI) v3.2.1.1 v3.2.1.2), (dl (aI 2) v3.2.2.1.1 v3.2.2.1.2), (di v3.2.2.2.1), (.mp (em (fun k => D.agg (zh k)) (fun b => D.b b) v3.2.2.2.2))]))), (2, (.ptr 1 2 0)), (3, (.ptr 1 3 0)), (5, (xb false)), (6, (xi (r0.1.length : Int))), (15, (xb false)), (25, (xi (if (w64 (v202 + 1)) < v3.2.2.2.1 then (w64 (v202 + 1)) else v3.2.2.2.1))), (26, (xi r)), (27, (xb true)), (7, (xi r)), (43, (xb false)), (53, (xb true))]
noncomputable def z8e (p0 : za) (v3 : zt2) (r0 : (SL Int)) (v202 : Int) (rc : ((SL Int) → Option (Unit ⊕ Unit))) (fs : List Fr) (r : Int) : St := ⟨(zSy r0 v3 v202 r), ⟨[], ([[(zc 1 (zb p0)), (2, (.cells [(xb true)]))], [(2, (.cells [(.yld 0)])), (3, (.cells [(.fn 89 [] [(.d (.pin [(dl zd v3.1.1 v3.1.2), (dl (eL eI) v3.2.1.1 v3.2.1.2), (dl (aI 2) v3.2.2.1.1 v3.2.2.1.2), (di v3.2.2.2.1), (.mp (em (fun k => D.agg (zh k)) (fun b => D.b b) v3.2.2.2.2))])), (.ptr 1 2 0), (.ptr 1 3 0)])]))]] ++ fs)⟩, [⟨(zgm p0 v3), 0, rfP (blk TE 66 0), rfA (blk TE 66 0), rfB (blk TE 66 0), 66, (.done .ret)⟩]⟩
noncomputable def z6x (r0 : (SL Int)) (v3 : zt2) (v202 r : Int) : TM := [(0, (.d (dl eI r0.1 r0.2))), (1, (.d (.pin [(dl zd v3.1.1 v3.1.2), (dl (eL eI) v3.2.1.1 v3.2.1.2), (dl (aI 2) v3.2.2.1.1 v3.2.2.1.2), (di v3.2.2.2.1), (.mp (em (fun k => D.agg (zh k)) (fun b => D.b b) v3.2.2.2.2))]))), (2, (.ptr 1 2 0)), (3, (.ptr 1 3 0)), (5, (xb false)), (6, (xi (r0.1.length : Int))), (15, (xb false)), (25, (xi (if (w64 (v202 + 1)) < v3.2.2.2.1 then (w64 (v202 + 1)) else v3.2.2.2.1))), (26, (xi r)), (27, (xb false))]
noncomputable def z7e (p0 : za) (v3 : zt2) (r0 : (SL Int)) (v202 : Int) (rc : ((SL Int) → Option (Unit ⊕ Unit))) (fs : List Fr) (r : Int) : St := ⟨(z6x r0 v3 v202 r), ⟨[], ([[(zc 1 (zb p0)), (2, (.cells [(xb false)]))], [(2, (.cells [(.yld 0)])), (3, (.cells [(.fn 89 [] [(.d (.pin [(dl zd v3.1.1 v3.1.2), (dl (eL eI) v3.2.1.1 v3.2.1.2), (dl (aI 2) v3.2.2.1.1 v3.2.2.1.2), (di v3.2.2.2.1), (.mp (em (fun k => D.agg (zh k)) (fun b => D.b b) v3.2.2.2.2))])), (.ptr 1 2 0), (.ptr 1 3 0)])]))]] ++ fs)⟩, [⟨(zgm p0 v3), 0, rfP (blk TE 66 0), rfA (blk TE 66 0), rfB (blk TE 66 0), 66, .rdy⟩]⟩
noncomputable def z1p (p0 : za) (v3 : zt2) (r0 : (SL Int)) (v202 : Int) (rc : ((SL Int) → Option (Unit ⊕ Unit))) (fs : List Fr) : (Int ⊕ Int) → Ex × St := Sum.elim (fun r => (.ret, z8e p0 v3 r0 v202 rc fs r)) (fun r => ((.exit 0), z7e p0 v3 r0 v202 rc fs r))
theorem zCg (k : Nat) (p0 : za) (v3 : zt2) (r0 : (SL Int)) (v202 : Int) (rc : ((SL Int) → Option (Unit ⊕ Unit))) (fs : List Fr) (hfs : fs.length ≤ 8) (hrc : zFf p0 v3 rc fs) (s2_10 : Int) (x : Int ⊕ (Int ⊕ Int)) (h : zTj k p0 v3 r0 v202 rc s2_10 = some x) : zF TE 89 (blk TE 89 0) (fun s : Int => z2p p0 v3 r0 v202 rc fs s) (z1p p0 v3 r0 v202 rc fs) s2_10 x := by
 unfold zTj at h
 refine zm h (fun h401 g1 => ?_) (fun h401 g1 => ?_)
 ·refine zi g1 (fun v402 h403 g2 => ?_)
  refine zm g2 (fun h404 g3 => ?_) (fun h404 g3 => ?_)
  ·subst h404
   exact zqn (w64 (s2_10 + 1)) [] [(89, 5, 0, .q (xb true))] [(89, 1000007, (.nor, zie p0 v3 r0 v202 s2_10 rc fs true))] g3 (ob (o_b h401) (ob (zCi k p0 v3 r0 v202 s2_10 rc fs hfs hrc _ h403) ob0)) (by cases f8 hfs <;> kernel_rfl)
  ·subst h404
   refine zm g3 (fun h405 g4 => ?_) (fun h405 g4 => ?_)
   ·cases g4
   ·refine zib g4 (fun h406 g5 => ?_)
    refine zi g5 (fun v407 h408 g6 => ?_)
    refine zJb g6 (fun v410 hh g7_0 => ?_) (fun v410 hh g7_0 => ?_)
    ·subst hh
     exact zqo [(89, 5, 0, .q (xb true)), (89, 8, 4, .q (.d (dl eI r0.1 (ccap r0.2)))), (89, 8, 7, .q (.d (dl eI (r0.1 ++ [s2_10]) .ro))), (89, 8, 8, .i (db false) ⟨[], ([[(1, (.cells ((zb p0).map .d))), (2, (.cells [(xb true)]))], [(2, (.cells [(.yld 0)])), (3, (.cells [(.fn 89 [] [(.d (.pin [(dl zd v3.1.1 v3.1.2), (dl (eL eI) v3.2.1.1 v3.2.1.2), (dl (aI 2) v3.2.2.1.1 v3.2.2.1.2), (di v3.2.2.2.1), (.mp (em (fun k => D.agg (zh k)) (fun b => D.b b) v3.2.2.2.2))])), (.ptr 1 2 0), (.ptr 1 3 0)])]))]] ++ fs)⟩ [⟨[(0, (.d (.agg (zb p0)))), (1, (.ptr 0 1 0)), (2, (.ptr 0 2 0)), (5, (.d (.fn 88 [] [(.pin [(dl zd v3.1.1 v3.1.2), (dl (eL eI) v3.2.1.1 v3.2.1.2), (dl (aI 2) v3.2.2.1.1 v3.2.2.1.2), (di v3.2.2.2.1), (.mp (em (fun k => D.agg (zh k)) (fun b => D.b b) v3.2.2.2.2))])])))], 0, rfP (blk TE 66 0), rfA (blk TE 66 0), rfB (blk TE 66 0), 66, (.done .ret)⟩])] [(89, 1000007, (.nor, zie p0 v3 r0 v202 s2_10 rc fs false))] g7_0 (ob (o_b h401) (ob (zCi k p0 v3 r0 v202 s2_10 rc fs hfs hrc _ h403) (ob (zmo (e := eI) (z := 1) r0.1 r0.2) (ob (o_ad (P := TE.P) (φ := fun _ _ => none) (T := 27) (q := (1, [(di 0)])) (c := (ccap r0.2)) (e := eI) r0.1 s2_10 (by kernel_rfl) (fun _ => rfl) h405 h406) (ob (hrc ([] : Fr) ((r0.1 ++ [s2_10]), .ro) _ h408) ob0))))) (by cases f8 hfs <;> kernel_rfl)
    ·subst hh
     exact zqn (w64 (s2_10 + 1)) [] [(89, 5, 0, .q (xb true)), (89, 8, 4, .q (.d (dl eI r0.1 (ccap r0.2)))), (89, 8, 7, .q (.d (dl eI (r0.1 ++ [s2_10]) .ro))), (89, 8, 8, .i (db true) ⟨[], ([[(1, (.cells ((zb p0).map .d))), (2, (.cells [(xb false)]))], [(2, (.cells [(.yld 0)])), (3, (.cells [(.fn 89 [] [(.d (.pin [(dl zd v3.1.1 v3.1.2), (dl (eL eI) v3.2.1.1 v3.2.1.2), (dl (aI 2) v3.2.2.1.1 v3.2.2.1.2), (di v3.2.2.2.1), (.mp (em (fun k => D.agg (zh k)) (fun b => D.b b) v3.2.2.2.2))])), (.ptr 1 2 0), (.ptr 1 3 0)])]))]] ++ fs)⟩ [⟨[(0, (.d (.agg (zb p0)))), (1, (.ptr 0 1 0)), (2, (.ptr 0 2 0)), (5, (.d (.fn 88 [] [(.pin [(dl zd v3.1.1 v3.1.2), (dl (eL eI) v3.2.1.1 v3.2.1.2), (dl (aI 2) v3.2.2.1.1 v3.2.2.1.2), (di v3.2.2.2.1), (.mp (em (fun k => D.agg (zh k)) (fun b => D.b b) v3.2.2.2.2))])])))], 0, rfP (blk TE 66 0), rfA (blk TE 66 0), rfB (blk TE 66 0), 66, .rdy⟩])] [(89, 1000007, (.nor, zie p0 v3 r0 v202 s2_10 rc fs false))] g7_0 (ob (o_b h401) (ob (zCi k p0 v3 r0 v202 s2_10 rc fs hfs hrc _ h403) (ob (zmo (e := eI) (z := 1) r0.1 r0.2) (ob (o_ad (P := TE.P) (φ := fun _ _ => none) (T := 27) (q := (1, [(di 0)])) (c := (ccap r0.2)) (e := eI) r0.1 s2_10 (by kernel_rfl) (fun _ => rfl) h405 h406) (ob (hrc ([] : Fr) ((r0.1 ++ [s2_10]), .ro) _ h408) ob0))))) (by cases f8 hfs <;> kernel_rfl)
 ·exact zqo [(89, 5, 0, .q (xb false))] [] g1 (ob (o_b h401) ob0) (by cases f8 hfs <;> kernel_rfl)
theorem zfp (k : Nat) (p0 : za) (v3 : zt2) (rc : ((SL Int) → Option (Unit ⊕ Unit))) (hrc : zFf p0 v3 rc []) (r0 : (SL Int)) (x : (Unit ⊕ Unit)) (h : zJf k p0 v3 rc r0 = some x) : zMb TE (ev TE) 89 [(.d (dl eI r0.1 r0.2)), (.d (.pin [(dl zd v3.1.1 v3.1.2), (dl (eL eI) v3.2.1.1 v3.2.1.2), (dl (aI 2) v3.2.2.1.1 v3.2.2.1.2), (di v3.2.2.2.1), (.mp (em (fun k => D.agg (zh k)) (fun b => D.b b) v3.2.2.2.2))])), (.ptr 1 2 0), (.ptr 1 3 0)] ⟨[(2, (.cells [(.yld 0)])), (3, (.cells [(.fn 89 [] [(.d (.pin [(dl zd v3.1.1 v3.1.2), (dl (eL eI) v3.2.1.1 v3.2.1.2), (dl (aI 2) v3.2.2.1.1 v3.2.2.1.2), (di v3.2.2.2.1), (.mp (em (fun k => D.agg (zh k)) (fun b => D.b b) v3.2.2.2.2))])), (.ptr 1 2 0), (.ptr 1 3 0)])]))], [[(zc 1 (zb p0)), (2, (.cells [(xb false)]))]]⟩ [⟨(zds p0 v3 k), 0, rfP (blk TE 66 0), rfA (blk TE 66 0), rfB (blk TE 66 0), 66, .rdy⟩] = some (z1e p0 v3 x) := by
 unfold zJf at h
 refine zm h (fun h201 g1 => ?_) (fun h201 g1 => ?_)
 ·exact zkd (g := z1e p0 v3) g1 (z0b (n := 80) (V := [(89, 1, 1, .q (xi (r0.1.length : Int))), (89, 2, 4, .q (xi (v3.1.1.length : Int))), (89, 2, 5, .q (xb true))]) (C := []) (ob (zp eI r0.1) (ob (zp zd v3.1.1) (ob (o_b h201) ob0))) (by kernel_rfl))
 ·refine zi g1 (fun v202 h203 g2 => ?_)
  refine zi g2 (fun v204 h205 g3 => ?_)
  refine zJb g3 (fun v207 hh g4_0 => ?_) (fun v207 hh g4_0 => ?_)
  ·subst hh
   exact zkd (g := z1e p0 v3) g4_0 (z0b (n := 80) (V := [(89, 1, 1, .q (xi (r0.1.length : Int))), (89, 2, 4, .q (xi (v3.1.1.length : Int))), (89, 2, 5, .q (xb false)), (89, 4, 4, .c (di v202))]) (C := [(89, 0, (.ret, z8e p0 v3 r0 v202 rc ([] : List Fr) v207))]) (ob (zp eI r0.1) (ob (zp zd v3.1.1) (ob (o_b h201) (ob (zW k r0 _ h203) (ob (zu (id := 0) (r' := (.ret, z8e p0 v3 r0 v202 rc ([] : List Fr) v207)) (znc (zCg k p0 v3 r0 v202 rc ([] : List Fr) (Nat.zero_le _) hrc) k _ _ h205) rfl) ob0))))) (by kernel_rfl))
  ·subst hh
   exact zkd (g := z1e p0 v3) g4_0 (z0b (n := 80) (V := [(89, 1, 1, .q (xi (r0.1.length : Int))), (89, 2, 4, .q (xi (v3.1.1.length : Int))), (89, 2, 5, .q (xb false)), (89, 4, 4, .c (di v202))]) (C := [(89, 0, (.nor, z7e p0 v3 r0 v202 rc ([] : List Fr) v207))]) (ob (zp eI r0.1) (ob (zp zd v3.1.1) (ob (o_b h201) (ob (zW k r0 _ h203) (ob (zu (id := 0) (r' := (.nor, z7e p0 v3 r0 v202 rc ([] : List Fr) v207)) (znc (zCg k p0 v3 r0 v202 rc ([] : List Fr) (Nat.zero_le _) hrc) k _ _ h205) rfl) ob0))))) (by kernel_rfl))
theorem zbp (k : Nat) (p0 : za) (v3 : zt2) (rc : ((SL Int) → Option (Unit ⊕ Unit))) (f : Fr) (fs : List Fr) (hfs : fs.length + 1 ≤ 8) (hrc : zFf p0 v3 rc (fs ++ [f])) (r0 : (SL Int)) (x : (Unit ⊕ Unit)) (h : zJf k p0 v3 rc r0 = some x) : zMb TE (ev TE) 89 [(.d (dl eI r0.1 r0.2)), (.d (.pin [(dl zd v3.1.1 v3.1.2), (dl (eL eI) v3.2.1.1 v3.2.1.2), (dl (aI 2) v3.2.2.1.1 v3.2.2.1.2), (di v3.2.2.2.1), (.mp (em (fun k => D.agg (zh k)) (fun b => D.b b) v3.2.2.2.2))])), (.ptr 1 2 0), (.ptr 1 3 0)] ⟨f, ([[(zc 1 (zb p0)), (2, (.cells [(xb false)]))], [(2, (.cells [(.yld 0)])), (3, (.cells [(.fn 89 [] [(.d (.pin [(dl zd v3.1.1 v3.1.2), (dl (eL eI) v3.2.1.1 v3.2.1.2), (dl (aI 2) v3.2.2.1.1 v3.2.2.1.2), (di v3.2.2.2.1), (.mp (em (fun k => D.agg (zh k)) (fun b => D.b b) v3.2.2.2.2))])), (.ptr 1 2 0), (.ptr 1 3 0)])]))]] ++ fs)⟩ [⟨(zds p0 v3 k), 0, rfP (blk TE 66 0), rfA (blk TE 66 0), rfB (blk TE 66 0), 66, .rdy⟩] = some (z3e p0 v3 f fs x) := by
 unfold zJf at h
 refine zm h (fun h201 g1 => ?_) (fun h201 g1 => ?_)
 ·exact zkd (g := z3e p0 v3 f fs) g1 (z0b (n := 80) (V := [(89, 1, 1, .q (xi (r0.1.length : Int))), (89, 2, 4, .q (xi (v3.1.1.length : Int))), (89, 2, 5, .q (xb true))]) (C := []) (ob (zp eI r0.1) (ob (zp zd v3.1.1) (ob (o_b h201) ob0))) (by cases f8 (Nat.le_of_succ_le hfs) <;> kernel_rfl))
 ·refine zi g1 (fun v202 h203 g2 => ?_)
  refine zi g2 (fun v204 h205 g3 => ?_)
  refine zJb g3 (fun v207 hh g4_0 => ?_) (fun v207 hh g4_0 => ?_)
  ·subst hh
   exact zkd (g := z3e p0 v3 f fs) g4_0 (z0b (n := 80) (V := [(89, 1, 1, .q (xi (r0.1.length : Int))), (89, 2, 4, .q (xi (v3.1.1.length : Int))), (89, 2, 5, .q (xb false)), (89, 4, 4, .c (di v202))]) (C := [(89, 0, (.ret, z8e p0 v3 r0 v202 rc (fs ++ [f]) v207))]) (ob (zp eI r0.1) (ob (zp zd v3.1.1) (ob (o_b h201) (ob (zW k r0 _ h203) (ob (zu (id := 0) (r' := (.ret, z8e p0 v3 r0 v202 rc (fs ++ [f]) v207)) (znc (zCg k p0 v3 r0 v202 rc (fs ++ [f]) (z5k f hfs) hrc) k _ _ h205) rfl) ob0))))) (by cases f8 (Nat.le_of_succ_le hfs) <;> kernel_rfl))
  ·subst hh
   exact zkd (g := z3e p0 v3 f fs) g4_0 (z0b (n := 80) (V := [(89, 1, 1, .q (xi (r0.1.length : Int))), (89, 2, 4, .q (xi (v3.1.1.length : Int))), (89, 2, 5, .q (xb false)), (89, 4, 4, .c (di v202))]) (C := [(89, 0, (.nor, z7e p0 v3 r0 v202 rc (fs ++ [f]) v207))]) (ob (zp eI r0.1) (ob (zp zd v3.1.1) (ob (o_b h201) (ob (zW k r0 _ h203) (ob (zu (id := 0) (r' := (.nor, z7e p0 v3 r0 v202 rc (fs ++ [f]) v207)) (znc (zCg k p0 v3 r0 v202 rc (fs ++ [f]) (z5k f hfs) hrc) k _ _ h205) rfl) ob0))))) (by cases f8 (Nat.le_of_succ_le hfs) <;> kernel_rfl))
theorem zxk (k : Nat) (p0 : za) (v3 : zt2) : ∀ (n : Nat) (fs : List Fr), fs.length + n ≤ 8 → zFf p0 v3 (zAg k p0 v3 n) fs
 | 0, fs, hfs => fun f r0 x h => by cases h
 | n + 1, fs, hfs => fun f r0 x h => zbp k p0 v3 _ f fs (by omega) (zxk k p0 v3 n (fs ++ [f]) (by simp; omega)) r0 x h
theorem z6k (k : Nat) (p0 : za) (v3 : zt2) (r0 : (SL Int)) (x : (Unit ⊕ Unit)) (h : zAg k p0 v3 9 r0 = some x) : zMb TE (ev TE) 89 [(.d (dl eI r0.1 r0.2)), (.d (.pin [(dl zd v3.1.1 v3.1.2), (dl (eL eI) v3.2.1.1 v3.2.1.2), (dl (aI 2) v3.2.2.1.1 v3.2.2.1.2), (di v3.2.2.2.1), (.mp (em (fun k => D.agg (zh k)) (fun b => D.b b) v3.2.2.2.2))])), (.ptr 1 2 0), (.ptr 1 3 0)] ⟨[(2, (.cells [(.yld 0)])), (3, (.cells [(.fn 89 [] [(.d (.pin [(dl zd v3.1.1 v3.1.2), (dl (eL eI) v3.2.1.1 v3.2.1.2), (dl (aI 2) v3.2.2.1.1 v3.2.2.1.2), (di v3.2.2.2.1), (.mp (em (fun k => D.agg (zh k)) (fun b => D.b b) v3.2.2.2.2))])), (.ptr 1 2 0), (.ptr 1 3 0)])]))], [[(zc 1 (zb p0)), (2, (.cells [(xb false)]))]]⟩ [⟨(zds p0 v3 k), 0, rfP (blk TE 66 0), rfA (blk TE 66 0), rfB (blk TE 66 0), 66, .rdy⟩] = some (z1e p0 v3 x) := zfp k p0 v3 _ (zxk k p0 v3 8 [] (by decide)) r0 x h
theorem zii (k : Nat) (p0 : za) (r : Bool) (h : zAi k p0 = some r) : zx TE (ev TE) 66 [(.agg (zb p0))] = some (zFk r) := by
 unfold zAi at h
 refine zi h (fun v1 h2 g1 => ?_)
 refine zi g1 (fun v3 h4 g2 => ?_)
 refine zi g2 (fun v5 h6 g3 => ?_)
 refine zJb g3 (fun v8 hh g4_0 => ?_) (fun v8 hh g4_0 => ?_)
 ·subst hh
  exact zt (g := zFk) g4_0 (zqc [(66, 1, 1, .c (.agg (zo v1))), (66, 1, 2, .c (.fn 88 [] [(.pin [(dl zd v3.1.1 v3.1.2), (dl (eL eI) v3.2.1.1 v3.2.1.2), (dl (aI 2) v3.2.2.1.1 v3.2.2.1.2), (di v3.2.2.2.1), (.mp (em (fun k => D.agg (zh k)) (fun b => D.b b) v3.2.2.2.2))])])), (88, 3, 1, .i (db false) ⟨[(2, (.cells [(.yld 0)])), (3, (.cells [(.fn 89 [] [(.d (.pin [(dl zd v3.1.1 v3.1.2), (dl (eL eI) v3.2.1.1 v3.2.1.2), (dl (aI 2) v3.2.2.1.1 v3.2.2.1.2), (di v3.2.2.2.1), (.mp (em (fun k => D.agg (zh k)) (fun b => D.b b) v3.2.2.2.2))])), (.ptr 1 2 0), (.ptr 1 3 0)])]))], [[(1, (.cells ((zb p0).map .d))), (2, (.cells [(xb true)]))]]⟩ [⟨[(0, (.d (.agg (zb p0)))), (1, (.ptr 0 1 0)), (2, (.ptr 0 2 0)), (5, (.d (.fn 88 [] [(.pin [(dl zd v3.1.1 v3.1.2), (dl (eL eI) v3.2.1.1 v3.2.1.2), (dl (aI 2) v3.2.2.1.1 v3.2.2.1.2), (di v3.2.2.2.1), (.mp (em (fun k => D.agg (zh k)) (fun b => D.b b) v3.2.2.2.2))])])))], 0, rfP (blk TE 66 0), rfA (blk TE 66 0), rfB (blk TE 66 0), 66, (.done .ret)⟩])] [] (ob (zsb k p0 _ h2) (ob (zec k v1 _ h4) (ob (z6k k p0 v3 ([], Cap.nil) _ h6) ob0))) (by kernel_rfl))
 ·subst hh
  exact zt (g := zFk) g4_0 (zqc [(66, 1, 1, .c (.agg (zo v1))), (66, 1, 2, .c (.fn 88 [] [(.pin [(dl zd v3.1.1 v3.1.2), (dl (eL eI) v3.2.1.1 v3.2.1.2), (dl (aI 2) v3.2.2.1.1 v3.2.2.1.2), (di v3.2.2.2.1), (.mp (em (fun k => D.agg (zh k)) (fun b => D.b b) v3.2.2.2.2))])])), (88, 3, 1, .i (db true) ⟨[(2, (.cells [(.yld 0)])), (3, (.cells [(.fn 89 [] [(.d (.pin [(dl zd v3.1.1 v3.1.2), (dl (eL eI) v3.2.1.1 v3.2.1.2), (dl (aI 2) v3.2.2.1.1 v3.2.2.1.2), (di v3.2.2.2.1), (.mp (em (fun k => D.agg (zh k)) (fun b => D.b b) v3.2.2.2.2))])), (.ptr 1 2 0), (.ptr 1 3 0)])]))], [[(1, (.cells ((zb p0).map .d))), (2, (.cells [(xb false)]))]]⟩ [⟨[(0, (.d (.agg (zb p0)))), (1, (.ptr 0 1 0)), (2, (.ptr 0 2 0)), (5, (.d (.fn 88 [] [(.pin [(dl zd v3.1.1 v3.1.2), (dl (eL eI) v3.2.1.1 v3.2.1.2), (dl (aI 2) v3.2.2.1.1 v3.2.2.1.2), (di v3.2.2.2.1), (.mp (em (fun k => D.agg (zh k)) (fun b => D.b b) v3.2.2.2.2))])])))], 0, rfP (blk TE 66 0), rfA (blk TE 66 0), rfB (blk TE 66 0), 66, .rdy⟩])] [] (ob (zsb k p0 _ h2) (ob (zec k v1 _ h4) (ob (z6k k p0 v3 ([], Cap.nil) _ h6) ob0))) (by kernel_rfl))
noncomputable def zBy (p0 : (SL Int)) (p1 s1_4 : Int) : TM := [(0, (.d (dl eI p0.1 p0.2))), (1, (xi p1)), (4, (xi 0)), (7, (xi (p0.1.length : Int))), (8, (xi s1_4))]
noncomputable def zSl (p0 : (SL Int)) (p1 s1_4 : Int) : St := ⟨(zBy p0 p1 s1_4), ⟨[], []⟩, []⟩
noncomputable def z0y (p0 : (SL Int)) (p1 r : Int) : TM := [(0, (.d (dl eI p0.1 p0.2))), (1, (xi p1)), (4, (xi r)), (7, (xi (p0.1.length : Int))), (8, (xi r)), (9, (xb true)), (5, (xi r)), (16, (xb true))]
noncomputable def zDf (p0 : (SL Int)) (p1 r : Int) : St := ⟨(z0y p0 p1 r), ⟨[], []⟩, []⟩
noncomputable def zvy (p0 : (SL Int)) (p1 r : Int) : TM := [(0, (.d (dl eI p0.1 p0.2))), (1, (xi p1)), (4, (xi 0)), (7, (xi (p0.1.length : Int))), (8, (xi r)), (9, (xb false))]
noncomputable def zzf (p0 : (SL Int)) (p1 r : Int) : St := ⟨(zvy p0 p1 r), ⟨[], []⟩, []⟩
noncomputable def z3l (p0 : (SL Int)) (p1 : Int) : (Int ⊕ Int) → Ex × St := Sum.elim (fun r => (.ret, zDf p0 p1 r)) (fun r => ((.exit 0), zzf p0 p1 r))
theorem zXh (k : Nat) (p0 : (SL Int)) (p1 s1_4 : Int) (x : Int ⊕ (Int ⊕ Int)) (h : ztg k p0 p1 s1_4 = some x) : zF TE 94 (blk TE 94 0) (fun s : Int => zSl p0 p1 s) (z3l p0 p1) s1_4 x := by
 unfold ztg at h
 refine zm h (fun h201 g1 => ?_) (fun h201 g1 => ?_)
 ·refine zi g1 (fun v202 h203 g2 => ?_)
  refine zm g2 (fun h204 g3 => ?_) (fun h204 g3 => ?_)
  ·exact zqo [(94, 2, 0, .q (xb true)), (94, 4, 3, .q (.d (.pin [(di v202)]))), (94, 4, 5, .q (xb true))] [] g3 (ob (o_b h201) (ob (o_ia (e := eI) 1 h203 rfl) (ob (o_b h204) ob0))) (by kernel_rfl)
  ·exact zqn (w64 (s1_4 + 1)) [] [(94, 2, 0, .q (xb true)), (94, 4, 3, .q (.d (.pin [(di v202)]))), (94, 4, 5, .q (xb false))] [] g3 (ob (o_b h201) (ob (o_ia (e := eI) 1 h203 rfl) (ob (o_b h204) ob0))) (by kernel_rfl)
 ·exact zqo [(94, 2, 0, .q (xb false))] [] g1 (ob (o_b h201) ob0) (by kernel_rfl)
theorem z5m (k : Nat) (p0 : (SL Int)) (p1 r : Int) (h : zGh k p0 p1 = some r) : zx TE (ev TE) 94 [(dl eI p0.1 p0.2), (di p1)] = some (zQg r) := by
 unfold zGh at h
 refine zi h (fun v1 h2 g1 => ?_)
 refine zJb g1 (fun v4 hh g2_0 => ?_) (fun v4 hh g2_0 => ?_)
 ·subst hh
  exact zt (g := zQg) g2_0 (zqc [(94, 1, 1, .q (xi (p0.1.length : Int)))] [(94, 0, (.ret, zDf p0 p1 v4))] (ob (zp eI p0.1) (ob (zu (id := 0) (r' := (.ret, zDf p0 p1 v4)) (znc (zXh k p0 p1) k _ _ h2) rfl) ob0)) (by kernel_rfl))
 ·subst hh
  exact zt (g := zQg) g2_0 (zqc [(94, 1, 1, .q (xi (p0.1.length : Int)))] [(94, 0, (.nor, zzf p0 p1 v4))] (ob (zp eI p0.1) (ob (zu (id := 0) (r' := (.nor, zzf p0 p1 v4)) (znc (zXh k p0 p1) k _ _ h2) rfl) ob0)) (by kernel_rfl))
theorem zSh (k : Nat) (p0 : (SL Int)) (p1 : Int) (r : Bool) (h : zrg k p0 p1 = some r) : zx TE (ev TE) 92 [(dl eI p0.1 p0.2), (di p1)] = some (zai r) := by
 unfold zrg at h
 refine zi h (fun v1 h2 g1 => ?_)
 exact zt (g := zai) g1 (zqc [(92, 1, 2, .c (di v1))] [] (ob (z5m k p0 p1 _ h2) ob0) (by kernel_rfl))
noncomputable def zOy (p0 : za) (p1 : (SL Int)) (s1_7 : Int) : TM := [(0, (.d (.agg (zb p0)))), (1, (.d (dl eI p1.1 p1.2))), (zsp 2), (zsp 4), (zsp 5), (6, (.map 0 18)), (20, (.d (dl zd p0.Letters.1 p0.Letters.2))), (21, (xi (p0.Letters.1.length : Int))), (22, (xi s1_7))]
noncomputable def zUn (p0 : za) (p1 : (SL Int)) (s1_7 : Int) (s1_18 : (List zn)) (s1_20 : (List (Int × Int))) : St := ⟨(zOy p0 p1 s1_7), ⟨[(zc 2 (zb p0)), (4, (.cells [(.d (.sl [] .nil)), (.d (.sl [] .nil)), (.d (.sl [] .nil)), (xi 0)])), (5, (.cells [(.row 0 1016 s1_18.length), (.d (dl (eL eI) p0.Far.1 p0.Far.2)), (.row 0 1017 0), (xi p0.Most)])), (1016, (rowO true 6 zd s1_18 true)), (1017, .nrow), (18, (.map (em (fun n => D.i .i64 n) (fun n => D.i .i64 n) s1_20)))], []⟩, []⟩
noncomputable def zWx (p0 : za) (p1 : (SL Int)) (r : zt17) : TM := [(0, (.d (.agg (zb p0)))), (1, (.d (dl eI p1.1 p1.2))), (zsp 2), (zsp 4), (zsp 5), (6, (.map 0 18)), (20, (.d (dl zd p0.Letters.1 p0.Letters.2))), (21, (xi (p0.Letters.1.length : Int))), (22, (xi r.1)), (23, (xb false))]
noncomputable def zTg (p0 : za) (p1 : (SL Int)) (r : zt17) : St := ⟨(zWx p0 p1 r), ⟨[(zc 2 (zb p0)), (4, (.cells [(.d (.sl [] .nil)), (.d (.sl [] .nil)), (.d (.sl [] .nil)), (xi 0)])), (5, (.cells [(.row 0 1016 r.2.1.length), (.d (dl (eL eI) p0.Far.1 p0.Far.2)), (.row 0 1017 0), (xi p0.Most)])), (1016, (rowO true 6 zd r.2.1 true)), (1017, .nrow), (18, (.map (em (fun n => D.i .i64 n) (fun n => D.i .i64 n) r.2.2)))], []⟩, []⟩
noncomputable def zMn (p0 : za) (p1 : (SL Int)) : (Int × (List zn) × (List (Int × Int))) → Ex × St := fun r => ((.exit 0), zTg p0 p1 r)
theorem zzn (k : Nat) (p0 : za) (p1 : (SL Int)) (s1_7 : Int) (s1_18 : (List zn)) (s1_20 : (List (Int × Int))) (x : (Int × (List zn) × (List (Int × Int))) ⊕ (Int × (List zn) × (List (Int × Int)))) (h : z3h k p0 p1 s1_7 s1_18 s1_20 = some x) : zF TE 70 (blk TE 70 0) (fun s : (Int × (List zn) × (List (Int × Int))) => zUn p0 p1 s.1 s.2.1 s.2.2) (zMn p0 p1) (s1_7, s1_18, s1_20) x := by
 unfold z3h at h
 refine zm h (fun h301 g1 => ?_) (fun h301 g1 => ?_)
 ·refine zi g1 (fun v302 h303 g2 => ?_)
  refine zi g2 (fun v304 h305 g3 => ?_)
  refine zm g3 (fun h306 g4 => ?_) (fun h306 g4 => ?_)
  ·refine zib g4 (fun h307 g5 => ?_)
   exact zqn ((w64 (s1_7 + 1)), (s1_18 ++ [v302]), (mset zKc s1_7 (s1_18.length : Int) s1_20)) [1016] [(70, 5, 0, .q (xb true)), (70, 6, 1, .q (.d (.pin (zd v302)))), (70, 7, 2, .c (db v304)), (70, 7, 3, .q (xb true)), (70, 8, 4, .q (xi (s1_18.length : Int))), (70, 8, 5, .mp (em (fun n => D.i .i64 n) (fun n => D.i .i64 n) (mset zKc s1_7 (s1_18.length : Int) s1_20))), (70, 9, 4, .ap (s1_18 ++ [v302]).length (rowO true 6 zd (s1_18 ++ [v302]) true))] [] g5 (ob (o_b h301) (ob (o_ia (e := zd) 6 h303 rfl) (ob (zSh k p1 s1_7 _ h305) (ob (o_b h306) (ob (z2e true 6 zd s1_18 true) (ob (zls (ek := (fun n => D.i .i64 n)) (evl := (fun n => D.i .i64 n)) (q := zKc) (fun _ _ => rfl) s1_7 (s1_18.length : Int) s1_20) (ob (o_ap (b := true) (z := 6) (e := zd) (l := s1_18) (w := true) v302 (fun _ => rfl) h307) (ob (zWd true 6 zd (s1_18 ++ [v302]) true) ob0)))))))) (by kernel_rfl)
  ·exact zqn ((w64 (s1_7 + 1)), s1_18, s1_20) [1016] [(70, 5, 0, .q (xb true)), (70, 6, 1, .q (.d (.pin (zd v302)))), (70, 7, 2, .c (db v304)), (70, 7, 3, .q (xb false))] [] g4 (ob (o_b h301) (ob (o_ia (e := zd) 6 h303 rfl) (ob (zSh k p1 s1_7 _ h305) (ob (o_b h306) (ob (zWd true 6 zd s1_18 true) ob0))))) (by kernel_rfl)
 ·exact zqo [(70, 5, 0, .q (xb false))] [] g1 (ob (o_b h301) ob0) (by kernel_rfl)
noncomputable def zjy (p0 : za) (p1 : (SL Int)) (v1 : zt17) (s3_11 : Int) (v802 : zt11) (r : Bool) : TM := [(0, (.d (.agg (zb p0)))), (1, (.d (dl eI p1.1 p1.2))), (zsp 2), (zsp 4), (zsp 5), (6, (.map 0 18)), (20, (.d (dl zd p0.Letters.1 p0.Letters.2))), (21, (xi (p0.Letters.1.length : Int))), (22, (xi v1.1)), (23, (xb false)), (44, (.d (dl (aI 2) p0.Apart.1 p0.Apart.2))), (45, (xi (p0.Apart.1.length : Int))), (46, (xi s3_11)), (47, (xb true)), (zsp 10), (11, (xi ((zH zKc (v802 0) v1.2.2).getD 0))), (12, (xb (zH zKc (v802 0) v1.2.2).isSome)), (13, (xi ((zH zKc (v802 1) v1.2.2).getD 0))), (14, (xb (zH zKc (v802 1) v1.2.2).isSome)), (67, (xb r))]
noncomputable def zcf (p0 : za) (p1 : (SL Int)) (v1 : zt17) (s3_11 : Int) (s3_24 : (List (Nat → Int))) (v802 : zt11) (r : Bool) : St := ⟨(zjy p0 p1 v1 s3_11 v802 r), ⟨[(zc 2 (zb p0)), (4, (.cells [(.d (.sl [] .nil)), (.d (.sl [] .nil)), (.d (.sl [] .nil)), (xi 0)])), (5, (.cells [(.row 0 1016 v1.2.1.length), (.d (dl (eL eI) p0.Far.1 p0.Far.2)), (.row 0 1017 s3_24.length), (xi p0.Most)])), (1016, (rowO true 6 zd v1.2.1 true)), (1017, (rowO true 2 (aI 2) s3_24 true)), (18, (.map (em (fun n => D.i .i64 n) (fun n => D.i .i64 n) v1.2.2))), (zc 10 (aI 2 v802))], []⟩, []⟩
noncomputable def zGu (p0 : za) (p1 : (SL Int)) (v1 : zt17) (s3_11 : Int) (v802 : zt11) : TM := [(0, (.d (.agg (zb p0)))), (1, (.d (dl eI p1.1 p1.2))), (zsp 2), (zsp 4), (zsp 5), (6, (.map 0 18)), (20, (.d (dl zd p0.Letters.1 p0.Letters.2))), (21, (xi (p0.Letters.1.length : Int))), (22, (xi v1.1)), (23, (xb false)), (44, (.d (dl (aI 2) p0.Apart.1 p0.Apart.2))), (45, (xi (p0.Apart.1.length : Int))), (46, (xi s3_11)), (47, (xb true)), (zsp 10), (11, (xi ((zH zKc (v802 0) v1.2.2).getD 0))), (12, (xb (zH zKc (v802 0) v1.2.2).isSome)), (13, (xi ((zH zKc (v802 1) v1.2.2).getD 0))), (14, (xb (zH zKc (v802 1) v1.2.2).isSome))]
theorem zBn (k : Nat) (p0 : za) (p1 : (SL Int)) (v1 : zt17) (s3_11 : Int) (s3_24 : (List (Nat → Int))) (v802 : zt11) (r : Bool) (h : z2h k p0 p1 v1 s3_11 s3_24 v802 = some r) : ev TE 70 (rgn TE 70 16) ⟨(zGu p0 p1 v1 s3_11 v802), ⟨[(zc 2 (zb p0)), (4, (.cells [(.d (.sl [] .nil)), (.d (.sl [] .nil)), (.d (.sl [] .nil)), (xi 0)])), (5, (.cells [(.row 0 1016 v1.2.1.length), (.d (dl (eL eI) p0.Far.1 p0.Far.2)), (.row 0 1017 s3_24.length), (xi p0.Most)])), (1016, (rowO true 6 zd v1.2.1 true)), (1017, (rowO true 2 (aI 2) s3_24 true)), (18, (.map (em (fun n => D.i .i64 n) (fun n => D.i .i64 n) v1.2.2))), (zc 10 (aI 2 v802))], []⟩, []⟩ = some (.nor, zcf p0 p1 v1 s3_11 s3_24 v802 r) := by
 unfold z2h at h
 refine zm h (fun h901 g1 => ?_) (fun h901 g1 => ?_)
 ·exact zq (g := fun r => (Ex.nor, zcf p0 p1 v1 s3_11 s3_24 v802 r)) g1 (zqe [(70, 16, 1, .q (xb true))] [] (ob (o_b h901) ob0) (by kernel_rfl))
 ·exact zq (g := fun r => (Ex.nor, zcf p0 p1 v1 s3_11 s3_24 v802 r)) g1 (zqe [(70, 16, 1, .q (xb false))] [] (ob (o_b h901) ob0) (by kernel_rfl))
noncomputable def zgf (p0 : za) (p1 : (SL Int)) (v1 : zt17) (s3_11 : Int) (s3_24 : (List (Nat → Int))) (v802 : zt11) (v804 : Bool) (r : (Bool × (List (Nat → Int)))) : St := ⟨(zGu p0 p1 v1 s3_11 v802 ++ [(67, (xb r.1))]), ⟨[(zc 2 (zb p0)), (4, (.cells [(.d (.sl [] .nil)), (.d (.sl [] .nil)), (.d (.sl [] .nil)), (xi 0)])), (5, (.cells [(.row 0 1016 v1.2.1.length), (.d (dl (eL eI) p0.Far.1 p0.Far.2)), (.row 0 1017 r.2.length), (xi p0.Most)])), (1016, (rowO true 6 zd v1.2.1 true)), (1017, (rowO true 2 (aI 2) r.2 true)), (18, (.map (em (fun n => D.i .i64 n) (fun n => D.i .i64 n) v1.2.2))), (zc 10 (aI 2 v802))], []⟩, []⟩
theorem zyn (k : Nat) (p0 : za) (p1 : (SL Int)) (v1 : zt17) (s3_11 : Int) (s3_24 : (List (Nat → Int))) (v802 : zt11) (v804 : Bool) (r : (Bool × (List (Nat → Int)))) (h : z0h k p0 p1 v1 s3_11 s3_24 v802 v804 = some r) : ev TE 70 (cnd TE 70 67) ⟨(zGu p0 p1 v1 s3_11 v802 ++ [(67, (xb v804))]), ⟨[(zc 2 (zb p0)), (4, (.cells [(.d (.sl [] .nil)), (.d (.sl [] .nil)), (.d (.sl [] .nil)), (xi 0)])), (5, (.cells [(.row 0 1016 v1.2.1.length), (.d (dl (eL eI) p0.Far.1 p0.Far.2)), (.row 0 1017 s3_24.length), (xi p0.Most)])), (1016, (rowO true 6 zd v1.2.1 true)), (1017, (rowO true 2 (aI 2) s3_24 true)), (18, (.map (em (fun n => D.i .i64 n) (fun n => D.i .i64 n) v1.2.2))), (zc 10 (aI 2 v802))], []⟩, []⟩ = some (.nor, zgf p0 p1 v1 s3_11 s3_24 v802 v804 r) := by
 unfold z0h at h
 refine zm h (fun h1001 g1 => ?_) (fun h1001 g1 => ?_)
 ·subst h1001
  refine zib g1 (fun h1002 g2 => ?_)
  exact zq (g := fun r => (Ex.nor, zgf p0 p1 v1 s3_11 s3_24 v802 true r)) g2 (zqe [(70, 17, 6, .ap (s3_24 ++ [(lfI [((zH zKc (v802 0) v1.2.2).getD 0), ((zH zKc (v802 1) v1.2.2).getD 0)])]).length (rowO true 2 (aI 2) (s3_24 ++ [(lfI [((zH zKc (v802 0) v1.2.2).getD 0), ((zH zKc (v802 1) v1.2.2).getD 0)])]) true))] [] (ob (o_ap (b := true) (z := 2) (e := (aI 2)) (l := s3_24) (w := true) (lfI [((zH zKc (v802 0) v1.2.2).getD 0), ((zH zKc (v802 1) v1.2.2).getD 0)]) (fun _ => rfl) h1002) ob0) (by kernel_rfl))
 ·subst h1001
  exact zq (g := fun r => (Ex.nor, zgf p0 p1 v1 s3_11 s3_24 v802 false r)) g1 (zqe [] [] ob0 (by kernel_rfl))
noncomputable def z1x (p0 : za) (p1 : (SL Int)) (v1 : zt17) (s3_11 : Int) : TM := [(0, (.d (.agg (zb p0)))), (1, (.d (dl eI p1.1 p1.2))), (zsp 2), (zsp 4), (zsp 5), (6, (.map 0 18)), (20, (.d (dl zd p0.Letters.1 p0.Letters.2))), (21, (xi (p0.Letters.1.length : Int))), (22, (xi v1.1)), (23, (xb false)), (44, (.d (dl (aI 2) p0.Apart.1 p0.Apart.2))), (45, (xi (p0.Apart.1.length : Int))), (46, (xi s3_11))]
noncomputable def zPn (p0 : za) (p1 : (SL Int)) (v1 : zt17) (s3_11 : Int) (s3_24 : (List (Nat → Int))) : St := ⟨(z1x p0 p1 v1 s3_11), ⟨[(zc 2 (zb p0)), (4, (.cells [(.d (.sl [] .nil)), (.d (.sl [] .nil)), (.d (.sl [] .nil)), (xi 0)])), (5, (.cells [(.row 0 1016 v1.2.1.length), (.d (dl (eL eI) p0.Far.1 p0.Far.2)), (.row 0 1017 s3_24.length), (xi p0.Most)])), (1016, (rowO true 6 zd v1.2.1 true)), (1017, (rowO true 2 (aI 2) s3_24 true)), (18, (.map (em (fun n => D.i .i64 n) (fun n => D.i .i64 n) v1.2.2)))], []⟩, []⟩
noncomputable def zIz (p0 : za) (p1 : (SL Int)) (v1 : zt17) (r : (Int × (List (Nat → Int)))) : TM := [(0, (.d (.agg (zb p0)))), (1, (.d (dl eI p1.1 p1.2))), (zsp 2), (zsp 4), (zsp 5), (6, (.map 0 18)), (20, (.d (dl zd p0.Letters.1 p0.Letters.2))), (21, (xi (p0.Letters.1.length : Int))), (22, (xi v1.1)), (23, (xb false)), (44, (.d (dl (aI 2) p0.Apart.1 p0.Apart.2))), (45, (xi (p0.Apart.1.length : Int))), (46, (xi r.1)), (47, (xb false))]
noncomputable def zWg (p0 : za) (p1 : (SL Int)) (v1 : zt17) (r : (Int × (List (Nat → Int)))) : St := ⟨(zIz p0 p1 v1 r), ⟨[(zc 2 (zb p0)), (4, (.cells [(.d (.sl [] .nil)), (.d (.sl [] .nil)), (.d (.sl [] .nil)), (xi 0)])), (5, (.cells [(.row 0 1016 v1.2.1.length), (.d (dl (eL eI) p0.Far.1 p0.Far.2)), (.row 0 1017 r.2.length), (xi p0.Most)])), (1016, (rowO true 6 zd v1.2.1 true)), (1017, (rowO true 2 (aI 2) r.2 true)), (18, (.map (em (fun n => D.i .i64 n) (fun n => D.i .i64 n) v1.2.2)))], []⟩, []⟩
noncomputable def zWn (p0 : za) (p1 : (SL Int)) (v1 : zt17) : (Int × (List (Nat → Int))) → Ex × St := fun r => ((.exit 2), zWg p0 p1 v1 r)
theorem zDn (k : Nat) (p0 : za) (p1 : (SL Int)) (v1 : zt17) (s3_11 : Int) (s3_24 : (List (Nat → Int))) (x : (Int × (List (Nat → Int))) ⊕ (Int × (List (Nat → Int)))) (h : z1h k p0 p1 v1 s3_11 s3_24 = some x) : zF TE 70 (blk TE 70 2) (fun s : (Int × (List (Nat → Int))) => zPn p0 p1 v1 s.1 s.2) (zWn p0 p1 v1) (s3_11, s3_24) x := by
 unfold z1h at h
 refine zm h (fun h801 g1 => ?_) (fun h801 g1 => ?_)
 ·refine zi g1 (fun v802 h803 g2 => ?_)
  refine zi g2 (fun v804 h805 g3 => ?_)
  refine zi g3 (fun v806 h807 g4 => ?_)
  exact zqn ((w64 (s3_11 + 1)), v806.2) [1016, 1017] [(70, 12, 0, .q (xb true)), (70, 13, 0, .q (.d (.pin (aI 2 v802)))), (70, 14, 3, .q (.d (.tup [(di ((zH zKc (v802 0) v1.2.2).getD 0)), (db (zH zKc (v802 0) v1.2.2).isSome)]))), (70, 15, 3, .q (.d (.tup [(di ((zH zKc (v802 1) v1.2.2).getD 0)), (db (zH zKc (v802 1) v1.2.2).isSome)])))] [(70, 1000016, (.nor, zcf p0 p1 v1 s3_11 s3_24 v802 v804)), (70, 2000067, (.nor, zgf p0 p1 v1 s3_11 s3_24 v802 v804 v806))] g4 (ob (o_b h801) (ob (o_ia (e := (aI 2)) 2 h803 rfl) (ob (zBt (ek := (fun n => D.i .i64 n)) (evl := (fun n => D.i .i64 n)) (q := zKc) (fun _ _ => rfl) (v802 0) v1.2.2 0) (ob (zBt (ek := (fun n => D.i .i64 n)) (evl := (fun n => D.i .i64 n)) (q := zKc) (fun _ _ => rfl) (v802 1) v1.2.2 0) (ob (zBn k p0 p1 v1 s3_11 s3_24 v802 _ h805) (ob (zyn k p0 p1 v1 s3_11 s3_24 v802 v804 _ h807) (ob (zWd true 6 zd v1.2.1 true) (ob (zWd true 2 (aI 2) v806.2 true) ob0)))))))) (by kernel_rfl)
 ·exact zqo [(70, 12, 0, .q (xb false))] [] g1 (ob (o_b h801) ob0) (by kernel_rfl)
theorem zyk (k : Nat) (p0 : za) (p1 : (SL Int)) (r : za) (h : zzh k p0 p1 = some r) : zx TE (ev TE) 70 [(.agg (zb p0)), (dl eI p1.1 p1.2)] = some (z7k r) := by
 unfold zzh at h
 refine zi h (fun v1 h2 g1 => ?_)
 refine zi g1 (fun v3 h4 g2 => ?_)
 exact zt (g := z7k) g2 (zqr [(70, 4, 2, .q (xi (p0.Letters.1.length : Int))), (70, 11, 2, .q (xi (p0.Apart.1.length : Int)))] [(70, 0, (.nor, zTg p0 p1 v1)), (70, 2, (.nor, zWg p0 p1 v1 v3))] [(.agg [(dl zd v1.2.1 (rcap true v1.2.1)), (dl (eL eI) p0.Far.1 p0.Far.2), (dl (aI 2) v3.2 (rcap true v3.2)), (di p0.Most)])] (ob (zp zd p0.Letters.1) (ob (zu (id := 0) (r' := (.nor, zTg p0 p1 v1)) (zYi (zzn k p0 p1) k _ _ h2) rfl) (ob (zp (aI 2) p0.Apart.1) (ob (zu (id := 2) (r' := (.nor, zWg p0 p1 v1 v3)) (zQb (zDn k p0 p1 v1) k _ _ h4) rfl) (ob (show zFc ⟨[(1016, (rowO true 6 zd v1.2.1 true)), (1017, (rowO true 2 (aI 2) v3.2 true))], []⟩ _ = _ from (o_s1 (x := (.agg [(.row 0 1016 v1.2.1.length), (.d (dl (eL eI) p0.Far.1 p0.Far.2)), (.row 0 1017 v3.2.length), (xi p0.Most)])) (zav (o_c1 (zko true 6 zd v1.2.1 true rfl) (o_cd (o_c1 (zko true 2 (aI 2) v3.2 true rfl) (o_cd o_c0))))) o_s0)) ob0))))) (by kernel_rfl))
theorem zmb (k : Nat) (p0 : Int) (r : Bool) (h : zdj k p0 = some r) : zx TE (ev TE) 91 [(di p0)] = some (zsn r) := by
 unfold zdj at h
 exact zt (g := zsn) h (zqc [] [] ob0 (by kernel_rfl))
theorem zFg (k : Nat) (p0 p1 r : Int) (h : z8h k p0 p1 = some r) : zx TE (ev TE) 68 [(di p0), (di p1)] = some (zhd r) := by
 unfold z8h at h
 refine zi h (fun v1 h2 g1 => ?_)
 refine zi g1 (fun v3 h4 g2 => ?_)
 refine zm g2 (fun h5 g3 => ?_) (fun h5 g3 => ?_)
 ·refine zm g3 (fun h6 g4 => ?_) (fun h6 g4 => ?_)
  ·exact zt (g := zhd) g4 (zqc [(68, 1, 1, .c (db v1)), (68, 2, 1, .c (db v3)), (68, 3, 0, .q (xb true)), (68, 4, 0, .q (xb true))] [] (ob (zmb k p0 _ h2) (ob (zmb k p1 _ h4) (ob (o_b h5) (ob (o_b h6) ob0)))) (by kernel_rfl))
  ·exact zt (g := zhd) g4 (zqc [(68, 1, 1, .c (db v1)), (68, 2, 1, .c (db v3)), (68, 3, 0, .q (xb true)), (68, 4, 0, .q (xb false))] [] (ob (zmb k p0 _ h2) (ob (zmb k p1 _ h4) (ob (o_b h5) (ob (o_b h6) ob0)))) (by kernel_rfl))
 ·refine zm g3 (fun h6 g4 => ?_) (fun h6 g4 => ?_)
  ·exact zt (g := zhd) g4 (zqc [(68, 1, 1, .c (db v1)), (68, 2, 1, .c (db v3)), (68, 3, 0, .q (xb false)), (68, 7, 0, .q (xb true))] [] (ob (zmb k p0 _ h2) (ob (zmb k p1 _ h4) (ob (o_b h5) (ob (o_b h6) ob0)))) (by kernel_rfl))
  ·refine zm g4 (fun h7 g5 => ?_) (fun h7 g5 => ?_)
   ·exact zt (g := zhd) g5 (zqc [(68, 1, 1, .c (db v1)), (68, 2, 1, .c (db v3)), (68, 3, 0, .q (xb false)), (68, 7, 0, .q (xb false)), (68, 9, 2, .q (xb true))] [] (ob (zmb k p0 _ h2) (ob (zmb k p1 _ h4) (ob (o_b h5) (ob (o_b h6) (ob (o_b h7) ob0))))) (by kernel_rfl))
   ·refine zm g5 (fun h8 g6 => ?_) (fun h8 g6 => ?_)
    ·exact zt (g := zhd) g6 (zqc [(68, 1, 1, .c (db v1)), (68, 2, 1, .c (db v3)), (68, 3, 0, .q (xb false)), (68, 7, 0, .q (xb false)), (68, 9, 2, .q (xb false)), (68, 11, 2, .q (xb true))] [] (ob (zmb k p0 _ h2) (ob (zmb k p1 _ h4) (ob (o_b h5) (ob (o_b h6) (ob (o_b h7) (ob (o_b h8) ob0)))))) (by kernel_rfl))
    ·exact zt (g := zhd) g6 (zqc [(68, 1, 1, .c (db v1)), (68, 2, 1, .c (db v3)), (68, 3, 0, .q (xb false)), (68, 7, 0, .q (xb false)), (68, 9, 2, .q (xb false)), (68, 11, 2, .q (xb false))] [] (ob (zmb k p0 _ h2) (ob (zmb k p1 _ h4) (ob (o_b h5) (ob (o_b h6) (ob (o_b h7) (ob (o_b h8) ob0)))))) (by kernel_rfl))
noncomputable def zlz (p0 p1 : (SL Int)) (s1_5 : Int) : TM := [(0, (.d (dl eI p0.1 p0.2))), (1, (.d (dl eI p1.1 p1.2))), (4, (xi 0)), (9, (.d (dl eI p0.1 p0.2))), (10, (xi (p0.1.length : Int))), (11, (xi s1_5))]
noncomputable def z1k (p0 p1 : (SL Int)) (s1_5 : Int) : St := ⟨(zlz p0 p1 s1_5), ⟨[], []⟩, []⟩
noncomputable def zFz (p0 p1 : (SL Int)) (r : zt0) : TM := [(0, (.d (dl eI p0.1 p0.2))), (1, (.d (dl eI p1.1 p1.2))), (4, (xi 1)), (9, (.d (dl eI p0.1 p0.2))), (10, (xi (p0.1.length : Int))), (11, (xi r.1)), (12, (xb true)), (5, (xi r.1)), (6, (xi r.2)), (19, (xb true))]
noncomputable def zLe (p0 p1 : (SL Int)) (r : zt0) : St := ⟨(zFz p0 p1 r), ⟨[], []⟩, []⟩
noncomputable def zJx (p0 p1 : (SL Int)) (r : (Int × Int × Int × Int)) : TM := [(0, (.d (dl eI p0.1 p0.2))), (1, (.d (dl eI p1.1 p1.2))), (4, (xi r.1)), (9, (.d (dl eI p0.1 p0.2))), (10, (xi (p0.1.length : Int))), (11, (xi r.2.1)), (12, (xb true)), (5, (xi r.2.1)), (6, (xi r.2.2.1)), (19, (xb false)), (7, (xi r.2.2.2)), (8, (xi r.1)), (28, (xb true))]
noncomputable def zKe (p0 p1 : (SL Int)) (r : (Int × Int × Int × Int)) : St := ⟨(zJx p0 p1 r), ⟨[], []⟩, []⟩
noncomputable def zky (p0 p1 : (SL Int)) (r : Int) : TM := [(0, (.d (dl eI p0.1 p0.2))), (1, (.d (dl eI p1.1 p1.2))), (4, (xi 0)), (9, (.d (dl eI p0.1 p0.2))), (10, (xi (p0.1.length : Int))), (11, (xi r)), (12, (xb false))]
noncomputable def z5b (p0 p1 : (SL Int)) (r : Int) : St := ⟨(zky p0 p1 r), ⟨[], []⟩, []⟩
noncomputable def zZk (p0 p1 : (SL Int)) : ((Int × Int) ⊕ ((Int × Int × Int × Int) ⊕ Int)) → Ex × St := Sum.elim (fun r => (.ret, zLe p0 p1 r)) (Sum.elim (fun r => (.ret, zKe p0 p1 r)) (fun r => ((.exit 0), z5b p0 p1 r)))
theorem z0c (k : Nat) (p0 p1 : (SL Int)) (s1_5 : Int) (x : Int ⊕ ((Int × Int) ⊕ ((Int × Int × Int × Int) ⊕ Int))) (h : zRf k p0 p1 s1_5 = some x) : zF TE 69 (blk TE 69 0) (fun s : Int => z1k p0 p1 s) (zZk p0 p1) s1_5 x := by
 unfold zRf at h
 refine zm h (fun h201 g1 => ?_) (fun h201 g1 => ?_)
 ·refine zi g1 (fun v202 h203 g2 => ?_)
  refine zm g2 (fun h204 g3 => ?_) (fun h204 g3 => ?_)
  ·exact zqo [(69, 2, 0, .q (xb true)), (69, 3, 1, .q (.d (.pin [(di v202)]))), (69, 4, 2, .q (xi (p1.1.length : Int))), (69, 4, 3, .q (xb true))] [] g3 (ob (o_b h201) (ob (o_ia (e := eI) 1 h203 rfl) (ob (zp eI p1.1) (ob (o_b h204) ob0)))) (by kernel_rfl)
  ·refine zi g3 (fun v205 h206 g4 => ?_)
   refine zi g4 (fun v207 h208 g5 => ?_)
   refine zm g5 (fun h209 g6 => ?_) (fun h209 g6 => ?_)
   ·exact zqo [(69, 2, 0, .q (xb true)), (69, 3, 1, .q (.d (.pin [(di v202)]))), (69, 4, 2, .q (xi (p1.1.length : Int))), (69, 4, 3, .q (xb false)), (69, 6, 2, .q (.d (.pin [(di v205)]))), (69, 7, 2, .c (di v207)), (69, 8, 1, .q (xb true))] [] g6 (ob (o_b h201) (ob (o_ia (e := eI) 1 h203 rfl) (ob (zp eI p1.1) (ob (o_b h204) (ob (o_ia (e := eI) 1 h206 rfl) (ob (zFg k v202 v205 _ h208) (ob (o_b h209) ob0))))))) (by kernel_rfl)
   ·exact zqn (w64 (s1_5 + 1)) [] [(69, 2, 0, .q (xb true)), (69, 3, 1, .q (.d (.pin [(di v202)]))), (69, 4, 2, .q (xi (p1.1.length : Int))), (69, 4, 3, .q (xb false)), (69, 6, 2, .q (.d (.pin [(di v205)]))), (69, 7, 2, .c (di v207)), (69, 8, 1, .q (xb false))] [] g6 (ob (o_b h201) (ob (o_ia (e := eI) 1 h203 rfl) (ob (zp eI p1.1) (ob (o_b h204) (ob (o_ia (e := eI) 1 h206 rfl) (ob (zFg k v202 v205 _ h208) (ob (o_b h209) ob0))))))) (by kernel_rfl)
 ·exact zqo [(69, 2, 0, .q (xb false))] [] g1 (ob (o_b h201) ob0) (by kernel_rfl)
theorem zdi (k : Nat) (p0 p1 : (SL Int)) (r : Int) (h : zPg k p0 p1 = some r) : zx TE (ev TE) 69 [(dl eI p0.1 p0.2), (dl eI p1.1 p1.2)] = some (zNc r) := by
 unfold zPg at h
 refine zi h (fun v1 h2 g1 => ?_)
 refine zJb g1 (fun v4 hh g2_0 => ?_) (fun w1_0 hh g2_0 => ?_)
 ·subst hh
  exact zt (g := zNc) g2_0 (zqc [(69, 1, 1, .q (xi (p0.1.length : Int)))] [(69, 0, (.ret, zLe p0 p1 v4))] (ob (zp eI p0.1) (ob (zu (id := 0) (r' := (.ret, zLe p0 p1 v4)) (znc (z0c k p0 p1) k _ _ h2) rfl) ob0)) (by kernel_rfl))
 ·subst hh
  refine zJb g2_0 (fun v4 hh g2_1 => ?_) (fun v4 hh g2_1 => ?_)
  ·subst hh
   exact zt (g := zNc) g2_1 (zqc [(69, 1, 1, .q (xi (p0.1.length : Int)))] [(69, 0, (.ret, zKe p0 p1 v4))] (ob (zp eI p0.1) (ob (zu (id := 0) (r' := (.ret, zKe p0 p1 v4)) (znc (z0c k p0 p1) k _ _ h2) rfl) ob0)) (by kernel_rfl))
  ·subst hh
   refine zm g2_1 (fun h5 g3 => ?_) (fun h5 g3 => ?_)
   ·exact zt (g := zNc) g3 (zqc [(69, 1, 1, .q (xi (p0.1.length : Int))), (69, 11, 1, .q (xi (p0.1.length : Int))), (69, 11, 3, .q (xi (p1.1.length : Int))), (69, 11, 4, .q (xb true))] [(69, 0, (.nor, z5b p0 p1 v4))] (ob (zp eI p0.1) (ob (zu (id := 0) (r' := (.nor, z5b p0 p1 v4)) (znc (z0c k p0 p1) k _ _ h2) rfl) (ob (zp eI p0.1) (ob (zp eI p1.1) (ob (o_b h5) ob0))))) (by kernel_rfl))
   ·exact zt (g := zNc) g3 (zqc [(69, 1, 1, .q (xi (p0.1.length : Int))), (69, 11, 1, .q (xi (p0.1.length : Int))), (69, 11, 3, .q (xi (p1.1.length : Int))), (69, 11, 4, .q (xb false))] [(69, 0, (.nor, z5b p0 p1 v4))] (ob (zp eI p0.1) (ob (zu (id := 0) (r' := (.nor, z5b p0 p1 v4)) (znc (z0c k p0 p1) k _ _ h2) rfl) (ob (zp eI p0.1) (ob (zp eI p1.1) (ob (o_b h5) ob0))))) (by kernel_rfl))
noncomputable def zTx (p0 : (SL Int)) (s1_5 : Int) : TM := [(0, (.d (dl eI p0.1 p0.2))), (2, (xi 0)), (3, (xi 0)), (6, (.d (dl eI p0.1 p0.2))), (7, (xi (p0.1.length : Int))), (8, (xi s1_5))]
noncomputable def zar (p0 : (SL Int)) (s1_5 : Int) : St := ⟨(zTx p0 s1_5), ⟨[], []⟩, []⟩
noncomputable def zcy (p0 : (SL Int)) (r : zt0) : TM := [(0, (.d (dl eI p0.1 p0.2))), (2, (xi r.1)), (3, (xi 0)), (6, (.d (dl eI p0.1 p0.2))), (7, (xi (p0.1.length : Int))), (8, (xi r.2)), (9, (xb true)), (5, (xi r.1)), (14, (xb true))]
noncomputable def zfj (p0 : (SL Int)) (r : zt0) : St := ⟨(zcy p0 r), ⟨[], []⟩, []⟩
noncomputable def zgy (p0 : (SL Int)) (r : Int) : TM := [(0, (.d (dl eI p0.1 p0.2))), (2, (xi 0)), (3, (xi 0)), (6, (.d (dl eI p0.1 p0.2))), (7, (xi (p0.1.length : Int))), (8, (xi r)), (9, (xb false))]
noncomputable def znj (p0 : (SL Int)) (r : Int) : St := ⟨(zgy p0 r), ⟨[], []⟩, []⟩
noncomputable def zXq (p0 : (SL Int)) : ((Int × Int) ⊕ Int) → Ex × St := Sum.elim (fun r => (.ret, zfj p0 r)) (fun r => ((.exit 0), znj p0 r))
theorem zrm (k : Nat) (p0 : (SL Int)) (s1_5 : Int) (x : Int ⊕ ((Int × Int) ⊕ Int)) (h : zfl k p0 s1_5 = some x) : zF TE 67 (blk TE 67 0) (fun s : Int => zar p0 s) (zXq p0) s1_5 x := by
 unfold zfl at h
 refine zm h (fun h201 g1 => ?_) (fun h201 g1 => ?_)
 ·refine zi g1 (fun v202 h203 g2 => ?_)
  refine zm g2 (fun h204 g3 => ?_) (fun h204 g3 => ?_)
  ·exact zqo [(67, 3, 0, .q (xb true)), (67, 4, 0, .q (.d (.pin [(di v202)]))), (67, 5, 2, .q (xb true))] [] g3 (ob (o_b h201) (ob (o_ia (e := eI) 1 h203 rfl) (ob (o_b h204) ob0))) (by kernel_rfl)
  ·exact zqn (w64 (s1_5 + 1)) [] [(67, 3, 0, .q (xb true)), (67, 4, 0, .q (.d (.pin [(di v202)]))), (67, 5, 2, .q (xb false))] [] g3 (ob (o_b h201) (ob (o_ia (e := eI) 1 h203 rfl) (ob (o_b h204) ob0))) (by kernel_rfl)
 ·exact zqo [(67, 3, 0, .q (xb false))] [] g1 (ob (o_b h201) ob0) (by kernel_rfl)
theorem zUo (k : Nat) (p0 : (SL Int)) (r : Int) (h : zro k p0 = some r) : zx TE (ev TE) 67 [(dl eI p0.1 p0.2)] = some (zpm r) := by
 unfold zro at h
 refine zi h (fun v1 h2 g1 => ?_)
 refine zJb g1 (fun v4 hh g2_0 => ?_) (fun v4 hh g2_0 => ?_)
 ·subst hh
  exact zt (g := zpm) g2_0 (zqc [(67, 2, 1, .q (xi (p0.1.length : Int)))] [(67, 0, (.ret, zfj p0 v4))] (ob (zp eI p0.1) (ob (zu (id := 0) (r' := (.ret, zfj p0 v4)) (znc (zrm k p0) k _ _ h2) rfl) ob0)) (by kernel_rfl))
 ·subst hh
  exact zt (g := zpm) g2_0 (zqc [(67, 2, 1, .q (xi (p0.1.length : Int)))] [(67, 0, (.nor, znj p0 v4))] (ob (zp eI p0.1) (ob (zu (id := 0) (r' := (.nor, znj p0 v4)) (znc (zrm k p0) k _ _ h2) rfl) ob0)) (by kernel_rfl))
noncomputable def zwz (p0 : za) (v1 : Int) (s1_9 : (SL Int)) (s1_11 : Int) (s6_20 : zt6) (s6_15 : Int) : TM := [(0, (.d (.agg (zb p0)))), (zsp 1), (2, (.d (.sl [] .nil))), (3, (xi 0)), (4, (xi v1)), (12, (xb false)), (15, (xb false)), (5, (.d (dl eI s1_9.1 s1_9.2))), (19, (xi (zTk 1 (p0.Letters.1.length : Int)))), (20, (xi s1_11)), (21, (xb true)), (6, (xi s1_11)), (7, (.row 0 7 s6_20.length)), (25, (xi (p0.Letters.1.length : Int))), (26, (xi s6_15))]
noncomputable def zMp (p0 : za) (v1 : Int) (s1_9 : (SL Int)) (s1_11 s6_15 : Int) (s6_20 : zt6) : St := ⟨(zwz p0 v1 s1_9 s1_11 s6_20 s6_15), ⟨[(zc 1 (zb p0)), (7, (rowO true 1 eI s6_20 true))], []⟩, []⟩
noncomputable def z7y (p0 : za) (v1 : Int) (s1_9 : (SL Int)) (s1_11 : Int) (r : (Int × (List Int))) : TM := [(0, (.d (.agg (zb p0)))), (zsp 1), (2, (.d (.sl [] .nil))), (3, (xi 0)), (4, (xi v1)), (12, (xb false)), (15, (xb false)), (5, (.d (dl eI s1_9.1 s1_9.2))), (19, (xi (zTk 1 (p0.Letters.1.length : Int)))), (20, (xi s1_11)), (21, (xb true)), (6, (xi s1_11)), (7, (.row 0 7 r.2.length)), (25, (xi (p0.Letters.1.length : Int))), (26, (xi r.1)), (27, (xb false))]
noncomputable def z5h (p0 : za) (v1 : Int) (s1_9 : (SL Int)) (s1_11 : Int) (r : (Int × (List Int))) : St := ⟨(z7y p0 v1 s1_9 s1_11 r), ⟨[(zc 1 (zb p0)), (7, (rowO true 1 eI r.2 true))], []⟩, []⟩
noncomputable def zyp (p0 : za) (v1 : Int) (s1_9 : (SL Int)) (s1_11 : Int) : (Int × (List Int)) → Ex × St := fun r => ((.exit 2), z5h p0 v1 s1_9 s1_11 r)
theorem zYo (k : Nat) (p0 : za) (v1 : Int) (s1_9 : (SL Int)) (s1_11 s6_15 : Int) (s6_20 : zt6) (x : (Int × (List Int)) ⊕ (Int × (List Int))) (h : zpj k p0 v1 s1_9 s1_11 s6_15 s6_20 = some x) : zF TE 28 (blk TE 28 2) (fun s : (Int × (List Int)) => zMp p0 v1 s1_9 s1_11 s.1 s.2) (zyp p0 v1 s1_9 s1_11) (s6_15, s6_20) x := by
 unfold zpj at h
 refine zm h (fun h801 g1 => ?_) (fun h801 g1 => ?_)
 ·refine zm g1 (fun h802 g2 => ?_) (fun h802 g2 => ?_)
  ·cases g2
  ·refine zm g2 (fun h803 g3 => ?_) (fun h803 g3 => ?_)
   ·refine zib g3 (fun h804 g4 => ?_)
    exact zqn ((w64 (s6_15 + 1)), (s6_20 ++ [s6_15])) [7] [(28, 12, 0, .q (xb true)), (28, 14, 2, .q (xi (zfs s1_11 s6_15))), (28, 14, 4, .q (xb true)), (28, 15, 3, .ap (s6_20 ++ [s6_15]).length (rowO true 1 eI (s6_20 ++ [s6_15]) true))] [] g4 (ob (o_b h801) (ob (zJw (x := s1_11) h802) (ob (o_b h803) (ob (o_ap (b := true) (z := 1) (e := eI) (l := s6_20) (w := true) s6_15 (fun _ => rfl) h804) (ob (zWd true 1 eI (s6_20 ++ [s6_15]) true) ob0))))) (by kernel_rfl)
   ·exact zqn ((w64 (s6_15 + 1)), s6_20) [7] [(28, 12, 0, .q (xb true)), (28, 14, 2, .q (xi (zfs s1_11 s6_15))), (28, 14, 4, .q (xb false))] [] g3 (ob (o_b h801) (ob (zJw (x := s1_11) h802) (ob (o_b h803) (ob (zWd true 1 eI s6_20 true) ob0)))) (by kernel_rfl)
 ·exact zqo [(28, 12, 0, .q (xb false))] [] g1 (ob (o_b h801) ob0) (by kernel_rfl)
noncomputable def zfz (p0 : za) (v1 : Int) (s1_9 : (SL Int)) (s1_11 : Int) (v602 : (Int × (List Int))) (r : Bool) : TM := [(0, (.d (.agg (zb p0)))), (zsp 1), (2, (.d (.sl [] .nil))), (3, (xi 0)), (4, (xi v1)), (12, (xb false)), (15, (xb false)), (5, (.d (dl eI s1_9.1 s1_9.2))), (19, (xi (zTk 1 (p0.Letters.1.length : Int)))), (20, (xi s1_11)), (21, (xb true)), (6, (xi s1_11)), (7, (.row 0 7 v602.2.length)), (25, (xi (p0.Letters.1.length : Int))), (26, (xi v602.1)), (27, (xb false)), (59, (xb r))]
noncomputable def z0e (p0 : za) (v1 : Int) (s1_9 : (SL Int)) (s1_11 : Int) (v602 : (Int × (List Int))) (r : Bool) : St := ⟨(zfz p0 v1 s1_9 s1_11 v602 r), ⟨[(zc 1 (zb p0)), (7, (rowO true 1 eI v602.2 false))], []⟩, []⟩
noncomputable def zCw (p0 : za) (v1 : Int) (s1_9 : (SL Int)) (s1_11 : Int) (v602 : (Int × (List Int))) : TM := [(0, (.d (.agg (zb p0)))), (zsp 1), (2, (.d (.sl [] .nil))), (3, (xi 0)), (4, (xi v1)), (12, (xb false)), (15, (xb false)), (5, (.d (dl eI s1_9.1 s1_9.2))), (19, (xi (zTk 1 (p0.Letters.1.length : Int)))), (20, (xi s1_11)), (21, (xb true)), (6, (xi s1_11)), (7, (.row 0 7 v602.2.length)), (25, (xi (p0.Letters.1.length : Int))), (26, (xi v602.1)), (27, (xb false))]
theorem z2o (k : Nat) (p0 : za) (v1 : Int) (s1_9 : (SL Int)) (s1_11 : Int) (v602 : (Int × (List Int))) (r : Bool) (h : zjj k p0 v1 s1_9 s1_11 v602 = some r) : ev TE 28 (rgn TE 28 17) ⟨(zCw p0 v1 s1_9 s1_11 v602), ⟨[(zc 1 (zb p0)), (7, (rowO true 1 eI v602.2 true))], []⟩, []⟩ = some (.nor, z0e p0 v1 s1_9 s1_11 v602 r) := by
 unfold zjj at h
 refine zm h (fun h901 g1 => ?_) (fun h901 g1 => ?_)
 ·refine zi g1 (fun v902 h903 g2 => ?_)
  refine zi g2 (fun v904 h905 g3 => ?_)
  exact zq (g := fun r => (Ex.nor, z0e p0 v1 s1_9 s1_11 v602 r)) g3 (zqe [(28, 17, 2, .q (xb true)), (28, 17, 18, .cr [((dl eI v602.2 (rcap true v602.2)), (rowO true 1 eI v602.2 false))] (.agg (zb v902))), (28, 17, 19, .c (db v904))] [] (ob (o_b h901) (ob (o_cr true 1 eI v602.2 true 0 7) (ob (zyk k p0 (v602.2, (rcap true v602.2)) _ h903) (ob (zii k v902 _ h905) ob0)))) (by kernel_rfl))
 ·refine zi g1 (fun v902 h903 g2 => ?_)
  refine zi g2 (fun v904 h905 g3 => ?_)
  refine zi g3 (fun v906 h907 g4 => ?_)
  refine zm g4 (fun h908 g5 => ?_) (fun h908 g5 => ?_)
  ·refine zi g5 (fun v909 h910 g6 => ?_)
   refine zi g6 (fun v911 h912 g7 => ?_)
   exact zq (g := fun r => (Ex.nor, z0e p0 v1 s1_9 s1_11 v602 r)) g7 (zqe [(28, 17, 2, .q (xb false)), (28, 17, 4, .q (xi (v602.2.length : Int))), (28, 17, 6, .q (xi (s1_9.1.length : Int))), (28, 17, 7, .c (di v902)), (28, 17, 10, .cr [((dl eI v602.2 (rcap true v602.2)), (rowO true 1 eI v602.2 false))] (di v904)), (28, 17, 12, .c (di v906)), (28, 17, 15, .q (xb true)), (28, 17, 18, .cr [((dl eI v602.2 (rcap true v602.2)), (rowO true 1 eI v602.2 false))] (.agg (zb v909))), (28, 17, 19, .c (db v911))] [] (ob (o_b h901) (ob (z2e true 1 eI v602.2 true) (ob (zp eI s1_9.1) (ob (zFg k (v602.2.length : Int) (s1_9.1.length : Int) _ h903) (ob (o_cr true 1 eI v602.2 true 0 7) (ob (zdi k (v602.2, (rcap true v602.2)) s1_9 _ h905) (ob (zUo k ([v902, v904], .ex) _ h907) (ob (o_b h908) (ob (o_cr true 1 eI v602.2 false 0 7) (ob (zyk k p0 (v602.2, (rcap true v602.2)) _ h910) (ob (zii k v909 _ h912) ob0))))))))))) (by kernel_rfl))
  ·exact zq (g := fun r => (Ex.nor, z0e p0 v1 s1_9 s1_11 v602 r)) g5 (zqe [(28, 17, 2, .q (xb false)), (28, 17, 4, .q (xi (v602.2.length : Int))), (28, 17, 6, .q (xi (s1_9.1.length : Int))), (28, 17, 7, .c (di v902)), (28, 17, 10, .cr [((dl eI v602.2 (rcap true v602.2)), (rowO true 1 eI v602.2 false))] (di v904)), (28, 17, 12, .c (di v906)), (28, 17, 15, .q (xb false))] [] (ob (o_b h901) (ob (z2e true 1 eI v602.2 true) (ob (zp eI s1_9.1) (ob (zFg k (v602.2.length : Int) (s1_9.1.length : Int) _ h903) (ob (o_cr true 1 eI v602.2 true 0 7) (ob (zdi k (v602.2, (rcap true v602.2)) s1_9 _ h905) (ob (zUo k ([v902, v904], .ex) _ h907) (ob (o_b h908) ob0)))))))) (by kernel_rfl))
noncomputable def zLy (p0 : za) (v1 : Int) (r : zt4) (s1_11 : Int) (v602 : (Int × (List Int))) : TM := [(0, (.d (.agg (zb p0)))), (zsp 1), (2, (.d (.sl [] .nil))), (3, (xi 0)), (4, (xi v1)), (12, (xb false)), (15, (xb false)), (5, (.d (dl eI r.1.1 r.1.2))), (19, (xi (zTk 1 (p0.Letters.1.length : Int)))), (20, (xi s1_11)), (21, (xb true)), (6, (xi s1_11)), (7, (.row 0 7 v602.2.length)), (25, (xi (p0.Letters.1.length : Int))), (26, (xi v602.1)), (27, (xb false)), (59, (xb r.2))]
noncomputable def zJg (p0 : za) (v1 : Int) (s1_9 : (SL Int)) (s1_11 : Int) (v602 : (Int × (List Int))) (v604 : Bool) (r : zt4) : St := ⟨(zLy p0 v1 r s1_11 v602), ⟨[(zc 1 (zb p0)), (7, (rowO true 1 eI v602.2 false))], []⟩, []⟩
theorem z4o (k : Nat) (p0 : za) (v1 : Int) (s1_9 : (SL Int)) (s1_11 : Int) (v602 : (Int × (List Int))) (v604 : Bool) (r : zt4) (h : zqj k p0 v1 s1_9 s1_11 v602 v604 = some r) : ev TE 28 (cnd TE 28 59) ⟨(zCw p0 v1 s1_9 s1_11 v602 ++ [(59, (xb v604))]), ⟨[(zc 1 (zb p0)), (7, (rowO true 1 eI v602.2 false))], []⟩, []⟩ = some (.nor, zJg p0 v1 s1_9 s1_11 v602 v604 r) := by
 unfold zqj at h
 refine zm h (fun h1001 g1 => ?_) (fun h1001 g1 => ?_)
 ·subst h1001
  exact zq (g := fun r => (Ex.nor, zJg p0 v1 s1_9 s1_11 v602 true r)) g1 (zqe [(28, 18, 1, .fz (dl eI v602.2 (rcap true v602.2)) (rowO true 1 eI v602.2 false))] [] (ob (o_cr true 1 eI v602.2 false 0 7) ob0) (by kernel_rfl))
 ·subst h1001
  exact zq (g := fun r => (Ex.nor, zJg p0 v1 s1_9 s1_11 v602 false r)) g1 (zqe [] [] ob0 (by kernel_rfl))
noncomputable def z9y (p0 : za) (v1 : Int) (s1_9 : (SL Int)) (s1_11 : Int) : TM := [(0, (.d (.agg (zb p0)))), (zsp 1), (2, (.d (.sl [] .nil))), (3, (xi 0)), (4, (xi v1)), (12, (xb false)), (15, (xb false)), (5, (.d (dl eI s1_9.1 s1_9.2))), (19, (xi (zTk 1 (p0.Letters.1.length : Int)))), (20, (xi s1_11))]
noncomputable def zzp (p0 : za) (v1 : Int) (s1_9 : (SL Int)) (s1_11 : Int) : St := ⟨(z9y p0 v1 s1_9 s1_11), ⟨[(zc 1 (zb p0))], []⟩, []⟩
noncomputable def zEy (p0 : za) (v1 : Int) (r : ((SL Int) × Int)) : TM := [(0, (.d (.agg (zb p0)))), (zsp 1), (2, (.d (.sl [] .nil))), (3, (xi 0)), (4, (xi v1)), (12, (xb false)), (15, (xb false)), (5, (.d (dl eI r.1.1 r.1.2))), (19, (xi (zTk 1 (p0.Letters.1.length : Int)))), (20, (xi r.2)), (21, (xb false))]
noncomputable def z4h (p0 : za) (v1 : Int) (r : ((SL Int) × Int)) : St := ⟨(zEy p0 v1 r), ⟨[(zc 1 (zb p0))], []⟩, []⟩
noncomputable def zkp (p0 : za) (v1 : Int) : ((SL Int) × Int) → Ex × St := fun r => ((.exit 0), z4h p0 v1 r)
theorem zWo (k : Nat) (p0 : za) (v1 : Int) (s1_9 : (SL Int)) (s1_11 : Int) (x : ((SL Int) × Int) ⊕ ((SL Int) × Int)) (h : zmj k p0 v1 s1_9 s1_11 = some x) : zF TE 28 (blk TE 28 0) (fun s : ((SL Int) × Int) => zzp p0 v1 s.1 s.2) (zkp p0 v1) (s1_9, s1_11) x := by
 unfold zmj at h
 refine zm h (fun h601 g1 => ?_) (fun h601 g1 => ?_)
 ·refine zi g1 (fun v602 h603 g2 => ?_)
  refine zi g2 (fun v604 h605 g3 => ?_)
  refine zi g3 (fun v606 h607 g4 => ?_)
  exact zqn (v606.1, (w64 (s1_11 + 1))) [] [(28, 8, 0, .q (xb true)), (28, 11, 2, .q (xi (p0.Letters.1.length : Int)))] [(28, 2, (.nor, z5h p0 v1 s1_9 s1_11 v602)), (28, 1000017, (.nor, z0e p0 v1 s1_9 s1_11 v602 v604)), (28, 2000059, (.nor, zJg p0 v1 s1_9 s1_11 v602 v604 v606))] g4 (ob (o_b h601) (ob (zp zd p0.Letters.1) (ob (zu (id := 2) (r' := (.nor, z5h p0 v1 s1_9 s1_11 v602)) (zQb (zYo k p0 v1 s1_9 s1_11) k _ _ h603) rfl) (ob (z2o k p0 v1 s1_9 s1_11 v602 _ h605) (ob (z4o k p0 v1 s1_9 s1_11 v602 v604 _ h607) ob0))))) (by kernel_rfl)
 ·exact zqo [(28, 8, 0, .q (xb false))] [] g1 (ob (o_b h601) ob0) (by kernel_rfl)
theorem zxb (k : Nat) (p0 : za) (r : ((SL Int) × Int)) (h : zrl k p0 = some r) : zx TE (ev TE) 28 [(.agg (zb p0))] = some (zhi r) := by
 unfold zrl at h
 refine zi h (fun v1 h2 g1 => ?_)
 refine zm g1 (fun h3 g2 => ?_) (fun h3 g2 => ?_)
 ·exact zt (g := zhi) g2 (zqc [(28, 1, 1, .c (di v1)), (28, 2, 1, .q (xb true))] [] (ob (zA k p0 _ h2) (ob (o_b h3) ob0)) (by kernel_rfl))
 ·refine zi g2 (fun v4 h5 g3 => ?_)
  refine zm g3 (fun h6 g4 => ?_) (fun h6 g4 => ?_)
  ·subst h6
   exact zt (g := zhi) g4 (zqc [(28, 1, 1, .c (di v1)), (28, 2, 1, .q (xb false)), (28, 4, 1, .c (db true))] [] (ob (zA k p0 _ h2) (ob (o_b h3) (ob (zii k p0 _ h5) ob0))) (by kernel_rfl))
  ·subst h6
   refine zm g4 (fun h7 g5 => ?_) (fun h7 g5 => ?_)
   ·cases g5
   ·refine zi g5 (fun v8 h9 g6 => ?_)
    exact zt (g := zhi) g6 (zqc [(28, 1, 1, .c (di v1)), (28, 2, 1, .q (xb false)), (28, 4, 1, .c (db false)), (28, 7, 2, .q (xi (p0.Letters.1.length : Int))), (28, 7, 3, .q (xi (zTk 1 (p0.Letters.1.length : Int)))), (28, 20, 2, .q (xi (v8.1.1.length : Int))), (28, 20, 4, .q (xi (v8.1.1.length : Int))), (28, 20, 5, .q (.d (dl eI v8.1.1 (ccap v8.1.2))))] [(28, 0, (.nor, z4h p0 v1 v8))] (ob (zA k p0 _ h2) (ob (o_b h3) (ob (zii k p0 _ h5) (ob (zp zd p0.Letters.1) (ob (zIy (x := 1) h7) (ob (zu (id := 0) (r' := (.nor, z4h p0 v1 v8)) (zQb (zWo k p0 v1) k _ _ h9) rfl) (ob (zp eI v8.1.1) (ob (zp eI v8.1.1) (ob (zmo (e := eI) (z := 1) v8.1.1 v8.1.2) ob0))))))))) (by kernel_rfl))
noncomputable def zQy (p0 p1 : (SL (SL Int))) (s1_3 : Bool) (s1_4 : Int) (r : Bool) : TM := [(0, (.d (dl (eL eI) p0.1 p0.2))), (1, (.d (dl (eL eI) p1.1 p1.2))), (4, (xb false)), (5, (xb s1_3)), (6, (xi s1_4)), (18, (xb r))]
noncomputable def z4b (p0 p1 : (SL (SL Int))) (s1_3 : Bool) (s1_4 : Int) (r : Bool) : St := ⟨(zQy p0 p1 s1_3 s1_4 r), ⟨[], []⟩, []⟩
noncomputable def ztw (p0 p1 : (SL (SL Int))) (s1_3 : Bool) (s1_4 : Int) : TM := [(0, (.d (dl (eL eI) p0.1 p0.2))), (1, (.d (dl (eL eI) p1.1 p1.2))), (4, (xb false)), (5, (xb s1_3)), (6, (xi s1_4))]
theorem z0g (k : Nat) (p0 p1 : (SL (SL Int))) (s1_3 : Bool) (s1_4 : Int) (r : Bool) (h : zjf k p0 p1 s1_3 s1_4 = some r) : ev TE 34 (rgn TE 34 3) ⟨(ztw p0 p1 s1_3 s1_4), ⟨[], []⟩, []⟩ = some (.nor, z4b p0 p1 s1_3 s1_4 r) := by
 unfold zjf at h
 refine zm h (fun h401 g1 => ?_) (fun h401 g1 => ?_)
 ·exact zq (g := fun r => (Ex.nor, z4b p0 p1 s1_3 s1_4 r)) g1 (zqe [(34, 3, 1, .q (xb true)), (34, 3, 4, .q (xi (p0.1.length : Int)))] [] (ob (o_b h401) (ob (zp (eL eI) p0.1) ob0)) (by kernel_rfl))
 ·exact zq (g := fun r => (Ex.nor, z4b p0 p1 s1_3 s1_4 r)) g1 (zqe [(34, 3, 1, .q (xb false))] [] (ob (o_b h401) ob0) (by kernel_rfl))
noncomputable def zKk (p0 p1 : (SL (SL Int))) (s1_3 : Bool) (s1_4 : Int) : St := ⟨(ztw p0 p1 s1_3 s1_4), ⟨[], []⟩, []⟩
noncomputable def zIx (p0 p1 : (SL (SL Int))) (r : zt1) : TM := [(0, (.d (dl (eL eI) p0.1 p0.2))), (1, (.d (dl (eL eI) p1.1 p1.2))), (4, (xb false)), (5, (xb r.1)), (6, (xi r.2)), (18, (xb false))]
noncomputable def zke (p0 p1 : (SL (SL Int))) (r : zt1) : St := ⟨(zIx p0 p1 r), ⟨[], []⟩, []⟩
noncomputable def zNk (p0 p1 : (SL (SL Int))) : (Bool × Int) → Ex × St := fun r => ((.exit 0), zke p0 p1 r)
theorem zsk (k : Nat) (p0 p1 : (SL (SL Int))) (s1_3 : Bool) (s1_4 : Int) (x : (Bool × Int) ⊕ (Bool × Int)) (h : zmf k p0 p1 s1_3 s1_4 = some x) : zF TE 34 (blk TE 34 0) (fun s : (Bool × Int) => zKk p0 p1 s.1 s.2) (zNk p0 p1) (s1_3, s1_4) x := by
 unfold zmf at h
 refine zi h (fun v301 h302 g1 => ?_)
 refine zm g1 (fun h303 g2 => ?_) (fun h303 g2 => ?_)
 ·subst h303
  refine zi g2 (fun v304 h305 g3 => ?_)
  refine zi g3 (fun v306 h307 g4 => ?_)
  refine zi g4 (fun v308 h309 g5 => ?_)
  exact zqn (v308, (w64 (s1_4 + 1))) [] [(34, 5, 2, .q (.d (.pin [(dl eI v304.1 v304.2)]))), (34, 5, 6, .q (.d (.pin [(dl eI v306.1 v306.2)]))), (34, 5, 8, .c (db v308))] [(34, 1000003, (.nor, z4b p0 p1 s1_3 s1_4 true))] g5 (ob (z0g k p0 p1 s1_3 s1_4 _ h302) (ob (o_ia (e := (eL eI)) 1 h305 rfl) (ob (o_ia (e := (eL eI)) 1 h307 rfl) (ob (zNg k v304 v306 _ h309) ob0)))) (by kernel_rfl)
 ·subst h303
  exact zqo [] [(34, 1000003, (.nor, z4b p0 p1 s1_3 s1_4 false))] g2 (ob (z0g k p0 p1 s1_3 s1_4 _ h302) ob0) (by kernel_rfl)
theorem zAd (k : Nat) (p0 p1 : (SL (SL Int))) (r : Bool) (h : zlg k p0 p1 = some r) : zx TE (ev TE) 34 [(dl (eL eI) p0.1 p0.2), (dl (eL eI) p1.1 p1.2)] = some (zli r) := by
 unfold zlg at h
 refine zi h (fun v1 h2 g1 => ?_)
 exact zt (g := zli) g1 (zqc [(34, 1, 1, .q (xi (p0.1.length : Int))), (34, 1, 3, .q (xi (p1.1.length : Int)))] [(34, 0, (.nor, zke p0 p1 v1))] (ob (zp (eL eI) p0.1) (ob (zp (eL eI) p1.1) (ob (zu (id := 0) (r' := (.nor, zke p0 p1 v1)) (zQb (zsk k p0 p1) k _ _ h2) rfl) ob0))) (by kernel_rfl))
noncomputable def z4x (v3 v7 : zt1) (v11 : zt0) (v15 : ((SL Int) × Int)) (r : Bool) : TM := [(0, (xb false)), (1, (xb v3.1)), (2, (xi v3.2)), (3, (xb v7.1)), (4, (xi v7.2)), (5, (xi v11.1)), (6, (xi v11.2)), (7, (.d (dl eI v15.1.1 v15.1.2))), (8, (xi v15.2)), (69, (xb r))]
noncomputable def zy (v3 v7 : zt1) (v11 : zt0) (v15 : ((SL Int) × Int)) (r : Bool) : St := ⟨(z4x v3 v7 v11 v15 r), ⟨[], []⟩, []⟩
noncomputable def zVx (v3 v7 : zt1) (v11 : zt0) (v15 : ((SL Int) × Int)) : TM := [(0, (xb false)), (1, (xb v3.1)), (2, (xi v3.2)), (3, (xb v7.1)), (4, (xi v7.2)), (5, (xi v11.1)), (6, (xi v11.2)), (7, (.d (dl eI v15.1.1 v15.1.2))), (8, (xi v15.2))]
end Go.AM

