/- The statement SlipEnds holds for every input that its row lets in. Conditions: none. -/
import Derived.KernelRfl
import Derived.Test.YtobbgcagbnhecaaDoorD
set_option linter.all false
set_option linter.unusedVariables false
set_option maxRecDepth 100000
namespace Go.AM
open Go Go.Proofs
noncomputable def z6d (p0 : zb) (p1 : Int) (r0 : (SL Int)) (r1 r2 : Int) (cb : Bool) (rc : zt0) (f1 f2 f3 f4 f5 f6 f7 : Fr) (r : zt1) : St := ⟨(zUk r0 r1 r2 r), ⟨[], [[(zc 2 (za p0)), (3, (.cells [(xi p1)])), (zc 6 (za p0)), (8, (.cells [(xi (w64 ((zq 1 (p0.Slips.1.length : Int)) - 1)))])), (9, (.cells [(.fn 77 [] [(.ptr 0 6 0), (.ptr 0 8 0), (.ptr 0 3 0), (.ptr 0 9 0)])]))], f1, f2, f3, f4, f5, f6, f7]⟩, []⟩
theorem zwj (k : Nat) (p0 : zb) (p1 : Int) (r0 : (SL Int)) (r1 r2 : Int) (cb : Bool) (rc : zt0) (f1 f2 f3 f4 f5 f6 f7 : Fr) (hrc : ∀ (f : Fr) (r0 : (SL Int)) (r1 : Int) (r2 : Int) (r : ((SL Int) × Bool)), rc r0 r1 r2 = some r → zR TE (ev TE) 77 [(.d (dl eI r0.1 r0.2)), (xi r1), (xi r2), (.ptr 0 6 0), (.ptr 0 8 0), (.ptr 0 3 0), (.ptr 0 9 0)] ⟨f, [[(2, (.cells ((za p0).map .d))), (3, (.cells [(xi p1)])), (6, (.cells ((za p0).map .d))), (8, (.cells [(xi (w64 ((zq 1 (p0.Slips.1.length : Int)) - 1)))])), (9, (.cells [(.fn 77 [] [(.ptr 0 6 0), (.ptr 0 8 0), (.ptr 0 3 0), (.ptr 0 9 0)])]))], f1, f2, f3, f4, f5, f6, f7]⟩ [] = some (zu r, ⟨f, [[(2, (.cells ((za p0).map .d))), (3, (.cells [(xi p1)])), (6, (.cells ((za p0).map .d))), (8, (.cells [(xi (w64 ((zq 1 (p0.Slips.1.length : Int)) - 1)))])), (9, (.cells [(.fn 77 [] [(.ptr 0 6 0), (.ptr 0 8 0), (.ptr 0 3 0), (.ptr 0 9 0)])]))], f1, f2, f3, f4, f5, f6, f7]⟩, [])) (r : zt1) (h : zQi k p0 p1 r0 r1 r2 cb rc = some r) : ev TE 77 (cnd TE 77 36) ⟨(z8k r0 r1 r2 cb), ⟨[], [[(zc 2 (za p0)), (3, (.cells [(xi p1)])), (zc 6 (za p0)), (8, (.cells [(xi (w64 ((zq 1 (p0.Slips.1.length : Int)) - 1)))])), (9, (.cells [(.fn 77 [] [(.ptr 0 6 0), (.ptr 0 8 0), (.ptr 0 3 0), (.ptr 0 9 0)])]))], f1, f2, f3, f4, f5, f6, f7]⟩, []⟩ = some (.nor, z6d p0 p1 r0 r1 r2 cb rc f1 f2 f3 f4 f5 f6 f7 r) := by
 unfold zQi at h
 refine zo h (fun h1801 g1 => ?_) (fun h1801 g1 => ?_)
 ·subst h1801
  refine zi g1 (fun v1802 h1803 g2 => ?_)
  exact zB (g := fun r => (Ex.nor, z6d p0 p1 r0 r1 r2 true rc f1 f2 f3 f4 f5 f6 f7 r)) g2 (zqe [(77, 6, 2, .q (xi (r0.1.length : Int))), (77, 6, 4, .q (.d (.pin [(di v1802)])))] [] (ob (zr eI r0.1) (ob (o_ia (e := eI) 1 h1803 rfl) ob0)) (by kernel_rfl))
 ·subst h1801
  exact zB (g := fun r => (Ex.nor, z6d p0 p1 r0 r1 r2 false rc f1 f2 f3 f4 f5 f6 f7 r)) g1 (zqe [] [] ob0 (by kernel_rfl))
noncomputable def zdw (r0 : (SL Int)) (r1 r2 : Int) (v1702 : zt1) (s18_8 : Int) : TM := [(0, (.d (dl eI r0.1 r0.2))), (1, (xi r1)), (2, (xi r2)), (3, (.ptr 0 6 0)), (4, (.ptr 0 8 0)), (5, (.ptr 0 3 0)), (6, (.ptr 0 9 0)), (10, (.d (.sl [] .nil))), (11, (xb false)), (21, (xb false)), (14, (xi v1702.1)), (36, (xb v1702.2)), (15, (xi s18_8))]
noncomputable def zro (p0 : zb) (p1 : Int) (r0 : (SL Int)) (r1 r2 : Int) (v1702 : zt1) (rc : zt0) (f1 f2 f3 f4 f5 f6 f7 : Fr) (s18_8 : Int) : St := ⟨(zdw r0 r1 r2 v1702 s18_8), ⟨[], [[(zc 2 (za p0)), (3, (.cells [(xi p1)])), (zc 6 (za p0)), (8, (.cells [(xi (w64 ((zq 1 (p0.Slips.1.length : Int)) - 1)))])), (9, (.cells [(.fn 77 [] [(.ptr 0 6 0), (.ptr 0 8 0), (.ptr 0 3 0), (.ptr 0 9 0)])]))], f1, f2, f3, f4, f5, f6, f7]⟩, []⟩
noncomputable def zFv (r0 : (SL Int)) (r1 r2 : Int) (r : zt18) (v1702 : zt1) : TM := [(0, (.d (dl eI r0.1 r0.2))), (1, (xi r1)), (2, (xi r2)), (3, (.ptr 0 6 0)), (4, (.ptr 0 8 0)), (5, (.ptr 0 3 0)), (6, (.ptr 0 9 0)), (10, (.d (dl eI r.1.1 r.1.2))), (11, (xb true)), (21, (xb false)), (14, (xi v1702.1)), (36, (xb v1702.2)), (15, (xi r.2.1)), (50, (xb true)), (16, (.d (dl eI r.1.1 r.1.2))), (17, (xb r.2.2)), (72, (xb true))]
noncomputable def zsg (p0 : zb) (p1 : Int) (r0 : (SL Int)) (r1 r2 : Int) (v1702 : zt1) (rc : zt0) (f1 f2 f3 f4 f5 f6 f7 : Fr) (r : zt18) : St := ⟨(zFv r0 r1 r2 r v1702), ⟨[], [[(zc 2 (za p0)), (3, (.cells [(xi p1)])), (zc 6 (za p0)), (8, (.cells [(xi (w64 ((zq 1 (p0.Slips.1.length : Int)) - 1)))])), (9, (.cells [(.fn 77 [] [(.ptr 0 6 0), (.ptr 0 8 0), (.ptr 0 3 0), (.ptr 0 9 0)])]))], f1, f2, f3, f4, f5, f6, f7]⟩, []⟩
noncomputable def zyw (r0 : (SL Int)) (r1 r2 : Int) (v1702 : zt1) (r : Int) : TM := [(0, (.d (dl eI r0.1 r0.2))), (1, (xi r1)), (2, (xi r2)), (3, (.ptr 0 6 0)), (4, (.ptr 0 8 0)), (5, (.ptr 0 3 0)), (6, (.ptr 0 9 0)), (10, (.d (.sl [] .nil))), (11, (xb false)), (21, (xb false)), (14, (xi v1702.1)), (36, (xb v1702.2)), (15, (xi r)), (50, (xb false))]
noncomputable def zNg (p0 : zb) (p1 : Int) (r0 : (SL Int)) (r1 r2 : Int) (v1702 : zt1) (rc : zt0) (f1 f2 f3 f4 f5 f6 f7 : Fr) (r : Int) : St := ⟨(zyw r0 r1 r2 v1702 r), ⟨[], [[(zc 2 (za p0)), (3, (.cells [(xi p1)])), (zc 6 (za p0)), (8, (.cells [(xi (w64 ((zq 1 (p0.Slips.1.length : Int)) - 1)))])), (9, (.cells [(.fn 77 [] [(.ptr 0 6 0), (.ptr 0 8 0), (.ptr 0 3 0), (.ptr 0 9 0)])]))], f1, f2, f3, f4, f5, f6, f7]⟩, []⟩
noncomputable def zLo (p0 : zb) (p1 : Int) (r0 : (SL Int)) (r1 r2 : Int) (v1702 : zt1) (rc : zt0) (f1 f2 f3 f4 f5 f6 f7 : Fr) : (((SL Int) × Int × Bool) ⊕ Int) → Ex × St := Sum.elim (fun r => (.ret, zsg p0 p1 r0 r1 r2 v1702 rc f1 f2 f3 f4 f5 f6 f7 r)) (fun r => ((.exit 0), zNg p0 p1 r0 r1 r2 v1702 rc f1 f2 f3 f4 f5 f6 f7 r))
theorem ztj (k : Nat) (p0 : zb) (p1 : Int) (r0 : (SL Int)) (r1 r2 : Int) (v1702 : zt1) (rc : zt0) (f1 f2 f3 f4 f5 f6 f7 : Fr) (hrc : ∀ (f : Fr) (r0 : (SL Int)) (r1 : Int) (r2 : Int) (r : ((SL Int) × Bool)), rc r0 r1 r2 = some r → zR TE (ev TE) 77 [(.d (dl eI r0.1 r0.2)), (xi r1), (xi r2), (.ptr 0 6 0), (.ptr 0 8 0), (.ptr 0 3 0), (.ptr 0 9 0)] ⟨f, [[(2, (.cells ((za p0).map .d))), (3, (.cells [(xi p1)])), (6, (.cells ((za p0).map .d))), (8, (.cells [(xi (w64 ((zq 1 (p0.Slips.1.length : Int)) - 1)))])), (9, (.cells [(.fn 77 [] [(.ptr 0 6 0), (.ptr 0 8 0), (.ptr 0 3 0), (.ptr 0 9 0)])]))], f1, f2, f3, f4, f5, f6, f7]⟩ [] = some (zu r, ⟨f, [[(2, (.cells ((za p0).map .d))), (3, (.cells [(xi p1)])), (6, (.cells ((za p0).map .d))), (8, (.cells [(xi (w64 ((zq 1 (p0.Slips.1.length : Int)) - 1)))])), (9, (.cells [(.fn 77 [] [(.ptr 0 6 0), (.ptr 0 8 0), (.ptr 0 3 0), (.ptr 0 9 0)])]))], f1, f2, f3, f4, f5, f6, f7]⟩, [])) (s18_8 : Int) (x : Int ⊕ (((SL Int) × Int × Bool) ⊕ Int)) (h : zSi k p0 p1 r0 r1 r2 v1702 rc s18_8 = some x) : zM TE 77 (blk TE 77 0) (fun s : Int => zro p0 p1 r0 r1 r2 v1702 rc f1 f2 f3 f4 f5 f6 f7 s) (zLo p0 p1 r0 r1 r2 v1702 rc f1 f2 f3 f4 f5 f6 f7) s18_8 x := by
 unfold zSi at h
 refine zo h (fun h1901 g1 => ?_) (fun h1901 g1 => ?_)
 ·refine zo g1 (fun h1902 g2 => ?_) (fun h1902 g2 => ?_)
  ·cases g2
  ·refine z6 g2 (fun h1903 g3 => ?_)
   refine zo g3 (fun h1904 g4 => ?_) (fun h1904 g4 => ?_)
   ·cases g4
   ·refine zi g4 (fun v1905 h1906 g5 => ?_)
    refine zo g5 (fun h1907 g6 => ?_) (fun h1907 g6 => ?_)
    ·exact zqo [(77, 8, 4, .q (xi (p0.Slips.1.length : Int))), (77, 8, 5, .q (xb true)), (77, 10, 3, .q (xi (r0.1.length : Int))), (77, 10, 5, .q (xi (r0.1.length : Int))), (77, 10, 6, .q (.d (dl eI r0.1 (ccap r0.2)))), (77, 10, 9, .q (.d (dl eI (r0.1 ++ [s18_8]) .ro))), (77, 10, 12, .q (xi (zq 1 s18_8))), (77, 10, 15, .i (.tup [(dl eI v1905.1.1 v1905.1.2), (db v1905.2)]) ⟨[], [[(2, (.cells ((za p0).map .d))), (3, (.cells [(xi p1)])), (6, (.cells ((za p0).map .d))), (8, (.cells [(xi (w64 ((zq 1 (p0.Slips.1.length : Int)) - 1)))])), (9, (.cells [(.fn 77 [] [(.ptr 0 6 0), (.ptr 0 8 0), (.ptr 0 3 0), (.ptr 0 9 0)])]))], f1, f2, f3, f4, f5, f6, f7]⟩ []), (77, 11, 0, .q (xb true))] [] g6 (ob (zr zj p0.Slips.1) (ob (o_b h1901) (ob (zr eI r0.1) (ob (zr eI r0.1) (ob (zIc (e := eI) (z := 1) r0.1 r0.2) (ob (o_ad (P := TE.P) (φ := fun _ _ => none) (T := 22) (q := (1, [(di 0)])) (c := (ccap r0.2)) (e := eI) r0.1 s18_8 (by kernel_rfl) (fun _ => rfl) h1902 h1903) (ob (zRb (x := 1) h1904) (ob (hrc ([] : Fr) ((r0.1 ++ [s18_8]), .ro) (or64 r1 (zq 1 s18_8)) r2 _ h1906) (ob (o_b h1907) ob0))))))))) (by kernel_rfl)
    ·exact zqn (w64 (s18_8 + 1)) [] [(77, 8, 4, .q (xi (p0.Slips.1.length : Int))), (77, 8, 5, .q (xb true)), (77, 10, 3, .q (xi (r0.1.length : Int))), (77, 10, 5, .q (xi (r0.1.length : Int))), (77, 10, 6, .q (.d (dl eI r0.1 (ccap r0.2)))), (77, 10, 9, .q (.d (dl eI (r0.1 ++ [s18_8]) .ro))), (77, 10, 12, .q (xi (zq 1 s18_8))), (77, 10, 15, .i (.tup [(dl eI v1905.1.1 v1905.1.2), (db v1905.2)]) ⟨[], [[(2, (.cells ((za p0).map .d))), (3, (.cells [(xi p1)])), (6, (.cells ((za p0).map .d))), (8, (.cells [(xi (w64 ((zq 1 (p0.Slips.1.length : Int)) - 1)))])), (9, (.cells [(.fn 77 [] [(.ptr 0 6 0), (.ptr 0 8 0), (.ptr 0 3 0), (.ptr 0 9 0)])]))], f1, f2, f3, f4, f5, f6, f7]⟩ []), (77, 11, 0, .q (xb false))] [] g6 (ob (zr zj p0.Slips.1) (ob (o_b h1901) (ob (zr eI r0.1) (ob (zr eI r0.1) (ob (zIc (e := eI) (z := 1) r0.1 r0.2) (ob (o_ad (P := TE.P) (φ := fun _ _ => none) (T := 22) (q := (1, [(di 0)])) (c := (ccap r0.2)) (e := eI) r0.1 s18_8 (by kernel_rfl) (fun _ => rfl) h1902 h1903) (ob (zRb (x := 1) h1904) (ob (hrc ([] : Fr) ((r0.1 ++ [s18_8]), .ro) (or64 r1 (zq 1 s18_8)) r2 _ h1906) (ob (o_b h1907) ob0))))))))) (by kernel_rfl)
 ·exact zqo [(77, 8, 4, .q (xi (p0.Slips.1.length : Int))), (77, 8, 5, .q (xb false))] [] g1 (ob (zr zj p0.Slips.1) (ob (o_b h1901) ob0)) (by kernel_rfl)
theorem zUn (k : Nat) (p0 : zb) (p1 : Int) (rc : zt0) (f1 f2 f3 f4 f5 f6 f7 : Fr) (hrc : ∀ (f : Fr) (r0 : (SL Int)) (r1 : Int) (r2 : Int) (r : ((SL Int) × Bool)), rc r0 r1 r2 = some r → zR TE (ev TE) 77 [(.d (dl eI r0.1 r0.2)), (xi r1), (xi r2), (.ptr 0 6 0), (.ptr 0 8 0), (.ptr 0 3 0), (.ptr 0 9 0)] ⟨f, [[(2, (.cells ((za p0).map .d))), (3, (.cells [(xi p1)])), (6, (.cells ((za p0).map .d))), (8, (.cells [(xi (w64 ((zq 1 (p0.Slips.1.length : Int)) - 1)))])), (9, (.cells [(.fn 77 [] [(.ptr 0 6 0), (.ptr 0 8 0), (.ptr 0 3 0), (.ptr 0 9 0)])]))], f1, f2, f3, f4, f5, f6, f7]⟩ [] = some (zu r, ⟨f, [[(2, (.cells ((za p0).map .d))), (3, (.cells [(xi p1)])), (6, (.cells ((za p0).map .d))), (8, (.cells [(xi (w64 ((zq 1 (p0.Slips.1.length : Int)) - 1)))])), (9, (.cells [(.fn 77 [] [(.ptr 0 6 0), (.ptr 0 8 0), (.ptr 0 3 0), (.ptr 0 9 0)])]))], f1, f2, f3, f4, f5, f6, f7]⟩, [])) (r0 : (SL Int)) (r1 r2 : Int) (r : zt14) (h : z9g k p0 p1 rc r0 r1 r2 = some r) : zR TE (ev TE) 77 [(.d (dl eI r0.1 r0.2)), (xi r1), (xi r2), (.ptr 0 6 0), (.ptr 0 8 0), (.ptr 0 3 0), (.ptr 0 9 0)] ⟨f7, [[(zc 2 (za p0)), (3, (.cells [(xi p1)])), (zc 6 (za p0)), (8, (.cells [(xi (w64 ((zq 1 (p0.Slips.1.length : Int)) - 1)))])), (9, (.cells [(.fn 77 [] [(.ptr 0 6 0), (.ptr 0 8 0), (.ptr 0 3 0), (.ptr 0 9 0)])]))], f1, f2, f3, f4, f5, f6]⟩ [] = some (zu r, ⟨f7, [[(zc 2 (za p0)), (3, (.cells [(xi p1)])), (zc 6 (za p0)), (8, (.cells [(xi (w64 ((zq 1 (p0.Slips.1.length : Int)) - 1)))])), (9, (.cells [(.fn 77 [] [(.ptr 0 6 0), (.ptr 0 8 0), (.ptr 0 3 0), (.ptr 0 9 0)])]))], f1, f2, f3, f4, f5, f6]⟩, []) := by
 unfold z9g at h
 refine zo h (fun h1701 g1 => ?_) (fun h1701 g1 => ?_)
 ·refine zi g1 (fun v1702 h1703 g2 => ?_)
  exact zU (g := (fun r => (zu r, ⟨f7, [[(2, (.cells ((za p0).map .d))), (3, (.cells [(xi p1)])), (6, (.cells ((za p0).map .d))), (8, (.cells [(xi (w64 ((zq 1 (p0.Slips.1.length : Int)) - 1)))])), (9, (.cells [(.fn 77 [] [(.ptr 0 6 0), (.ptr 0 8 0), (.ptr 0 3 0), (.ptr 0 9 0)])]))], f1, f2, f3, f4, f5, f6]⟩, []))) g2 (zN (n := 80) (V := [(77, 1, 1, .q (xi (r0.1.length : Int))), (77, 1, 3, .q (xb true)), (77, 2, 6, .c (.tup [(dl (eL eI) v1702.1.1 v1702.1.2), (db v1702.2)]))]) (C := []) (ob (zr eI r0.1) (ob (o_b h1701) (ob (zV k (⟨p0⟩ : zd) (⟨(zqb (w64 ((zq 1 (p0.Slips.1.length : Int)) - 1)) r1), p1⟩ : zt) _ h1703) ob0))) (by kernel_rfl))
 ·refine zi g1 (fun v1702 h1703 g2 => ?_)
  refine zi g2 (fun v1704 h1705 g3 => ?_)
  refine znc g3 (fun v1707 hh g4_0 => ?_) (fun v1707 hh g4_0 => ?_)
  ·subst hh
   exact zU (g := (fun r => (zu r, ⟨f7, [[(2, (.cells ((za p0).map .d))), (3, (.cells [(xi p1)])), (6, (.cells ((za p0).map .d))), (8, (.cells [(xi (w64 ((zq 1 (p0.Slips.1.length : Int)) - 1)))])), (9, (.cells [(.fn 77 [] [(.ptr 0 6 0), (.ptr 0 8 0), (.ptr 0 3 0), (.ptr 0 9 0)])]))], f1, f2, f3, f4, f5, f6]⟩, []))) g4_0 (zN (n := 80) (V := [(77, 1, 1, .q (xi (r0.1.length : Int))), (77, 1, 3, .q (xb false)), (77, 5, 1, .q (xi (r0.1.length : Int)))]) (C := [(77, 2000036, (.nor, z6d p0 p1 r0 r1 r2 (decide ((r0.1.length : Int) > 0)) rc f1 f2 f3 f4 f5 f6 f7 v1702)), (77, 0, (.ret, zsg p0 p1 r0 r1 r2 v1702 rc f1 f2 f3 f4 f5 f6 f7 v1707))]) (ob (zr eI r0.1) (ob (o_b h1701) (ob (zr eI r0.1) (ob (zwj k p0 p1 r0 r1 r2 (decide ((r0.1.length : Int) > 0)) rc f1 f2 f3 f4 f5 f6 f7 hrc _ h1703) (ob (zy (id := 0) (r' := (.ret, zsg p0 p1 r0 r1 r2 v1702 rc f1 f2 f3 f4 f5 f6 f7 v1707)) (zed (ztj k p0 p1 r0 r1 r2 v1702 rc f1 f2 f3 f4 f5 f6 f7 hrc) k _ _ h1705) rfl) ob0))))) (by kernel_rfl))
  ·subst hh
   exact zU (g := (fun r => (zu r, ⟨f7, [[(2, (.cells ((za p0).map .d))), (3, (.cells [(xi p1)])), (6, (.cells ((za p0).map .d))), (8, (.cells [(xi (w64 ((zq 1 (p0.Slips.1.length : Int)) - 1)))])), (9, (.cells [(.fn 77 [] [(.ptr 0 6 0), (.ptr 0 8 0), (.ptr 0 3 0), (.ptr 0 9 0)])]))], f1, f2, f3, f4, f5, f6]⟩, []))) g4_0 (zN (n := 80) (V := [(77, 1, 1, .q (xi (r0.1.length : Int))), (77, 1, 3, .q (xb false)), (77, 5, 1, .q (xi (r0.1.length : Int)))]) (C := [(77, 2000036, (.nor, z6d p0 p1 r0 r1 r2 (decide ((r0.1.length : Int) > 0)) rc f1 f2 f3 f4 f5 f6 f7 v1702)), (77, 0, (.nor, zNg p0 p1 r0 r1 r2 v1702 rc f1 f2 f3 f4 f5 f6 f7 v1707))]) (ob (zr eI r0.1) (ob (o_b h1701) (ob (zr eI r0.1) (ob (zwj k p0 p1 r0 r1 r2 (decide ((r0.1.length : Int) > 0)) rc f1 f2 f3 f4 f5 f6 f7 hrc _ h1703) (ob (zy (id := 0) (r' := (.nor, zNg p0 p1 r0 r1 r2 v1702 rc f1 f2 f3 f4 f5 f6 f7 v1707)) (zed (ztj k p0 p1 r0 r1 r2 v1702 rc f1 f2 f3 f4 f5 f6 f7 hrc) k _ _ h1705) rfl) ob0))))) (by kernel_rfl))
noncomputable def z3d (p0 : zb) (p1 : Int) (r0 : (SL Int)) (r1 r2 : Int) (cb : Bool) (rc : zt0) (f1 f2 f3 f4 f5 f6 f7 f8 : Fr) (r : zt1) : St := ⟨(zUk r0 r1 r2 r), ⟨[], [[(zc 2 (za p0)), (3, (.cells [(xi p1)])), (zc 6 (za p0)), (8, (.cells [(xi (w64 ((zq 1 (p0.Slips.1.length : Int)) - 1)))])), (9, (.cells [(.fn 77 [] [(.ptr 0 6 0), (.ptr 0 8 0), (.ptr 0 3 0), (.ptr 0 9 0)])]))], f1, f2, f3, f4, f5, f6, f7, f8]⟩, []⟩
theorem zPj (k : Nat) (p0 : zb) (p1 : Int) (r0 : (SL Int)) (r1 r2 : Int) (cb : Bool) (rc : zt0) (f1 f2 f3 f4 f5 f6 f7 f8 : Fr) (hrc : ∀ (f : Fr) (r0 : (SL Int)) (r1 : Int) (r2 : Int) (r : ((SL Int) × Bool)), rc r0 r1 r2 = some r → zR TE (ev TE) 77 [(.d (dl eI r0.1 r0.2)), (xi r1), (xi r2), (.ptr 0 6 0), (.ptr 0 8 0), (.ptr 0 3 0), (.ptr 0 9 0)] ⟨f, [[(2, (.cells ((za p0).map .d))), (3, (.cells [(xi p1)])), (6, (.cells ((za p0).map .d))), (8, (.cells [(xi (w64 ((zq 1 (p0.Slips.1.length : Int)) - 1)))])), (9, (.cells [(.fn 77 [] [(.ptr 0 6 0), (.ptr 0 8 0), (.ptr 0 3 0), (.ptr 0 9 0)])]))], f1, f2, f3, f4, f5, f6, f7, f8]⟩ [] = some (zu r, ⟨f, [[(2, (.cells ((za p0).map .d))), (3, (.cells [(xi p1)])), (6, (.cells ((za p0).map .d))), (8, (.cells [(xi (w64 ((zq 1 (p0.Slips.1.length : Int)) - 1)))])), (9, (.cells [(.fn 77 [] [(.ptr 0 6 0), (.ptr 0 8 0), (.ptr 0 3 0), (.ptr 0 9 0)])]))], f1, f2, f3, f4, f5, f6, f7, f8]⟩, [])) (r : zt1) (h : zRi k p0 p1 r0 r1 r2 cb rc = some r) : ev TE 77 (cnd TE 77 36) ⟨(z8k r0 r1 r2 cb), ⟨[], [[(zc 2 (za p0)), (3, (.cells [(xi p1)])), (zc 6 (za p0)), (8, (.cells [(xi (w64 ((zq 1 (p0.Slips.1.length : Int)) - 1)))])), (9, (.cells [(.fn 77 [] [(.ptr 0 6 0), (.ptr 0 8 0), (.ptr 0 3 0), (.ptr 0 9 0)])]))], f1, f2, f3, f4, f5, f6, f7, f8]⟩, []⟩ = some (.nor, z3d p0 p1 r0 r1 r2 cb rc f1 f2 f3 f4 f5 f6 f7 f8 r) := by
 unfold zRi at h
 refine zo h (fun h2001 g1 => ?_) (fun h2001 g1 => ?_)
 ·subst h2001
  refine zi g1 (fun v2002 h2003 g2 => ?_)
  exact zB (g := fun r => (Ex.nor, z3d p0 p1 r0 r1 r2 true rc f1 f2 f3 f4 f5 f6 f7 f8 r)) g2 (zqe [(77, 6, 2, .q (xi (r0.1.length : Int))), (77, 6, 4, .q (.d (.pin [(di v2002)])))] [] (ob (zr eI r0.1) (ob (o_ia (e := eI) 1 h2003 rfl) ob0)) (by kernel_rfl))
 ·subst h2001
  exact zB (g := fun r => (Ex.nor, z3d p0 p1 r0 r1 r2 false rc f1 f2 f3 f4 f5 f6 f7 f8 r)) g1 (zqe [] [] ob0 (by kernel_rfl))
noncomputable def zHv (r0 : (SL Int)) (r1 r2 : Int) (v1902 : zt1) (s20_8 : Int) : TM := [(0, (.d (dl eI r0.1 r0.2))), (1, (xi r1)), (2, (xi r2)), (3, (.ptr 0 6 0)), (4, (.ptr 0 8 0)), (5, (.ptr 0 3 0)), (6, (.ptr 0 9 0)), (10, (.d (.sl [] .nil))), (11, (xb false)), (21, (xb false)), (14, (xi v1902.1)), (36, (xb v1902.2)), (15, (xi s20_8))]
noncomputable def zWo (p0 : zb) (p1 : Int) (r0 : (SL Int)) (r1 r2 : Int) (v1902 : zt1) (rc : zt0) (f1 f2 f3 f4 f5 f6 f7 f8 : Fr) (s20_8 : Int) : St := ⟨(zHv r0 r1 r2 v1902 s20_8), ⟨[], [[(zc 2 (za p0)), (3, (.cells [(xi p1)])), (zc 6 (za p0)), (8, (.cells [(xi (w64 ((zq 1 (p0.Slips.1.length : Int)) - 1)))])), (9, (.cells [(.fn 77 [] [(.ptr 0 6 0), (.ptr 0 8 0), (.ptr 0 3 0), (.ptr 0 9 0)])]))], f1, f2, f3, f4, f5, f6, f7, f8]⟩, []⟩
noncomputable def zRv (r0 : (SL Int)) (r1 r2 : Int) (r : zt18) (v1902 : zt1) : TM := [(0, (.d (dl eI r0.1 r0.2))), (1, (xi r1)), (2, (xi r2)), (3, (.ptr 0 6 0)), (4, (.ptr 0 8 0)), (5, (.ptr 0 3 0)), (6, (.ptr 0 9 0)), (10, (.d (dl eI r.1.1 r.1.2))), (11, (xb true)), (21, (xb false)), (14, (xi v1902.1)), (36, (xb v1902.2)), (15, (xi r.2.1)), (50, (xb true)), (16, (.d (dl eI r.1.1 r.1.2))), (17, (xb r.2.2)), (72, (xb true))]
noncomputable def zPg (p0 : zb) (p1 : Int) (r0 : (SL Int)) (r1 r2 : Int) (v1902 : zt1) (rc : zt0) (f1 f2 f3 f4 f5 f6 f7 f8 : Fr) (r : zt18) : St := ⟨(zRv r0 r1 r2 r v1902), ⟨[], [[(zc 2 (za p0)), (3, (.cells [(xi p1)])), (zc 6 (za p0)), (8, (.cells [(xi (w64 ((zq 1 (p0.Slips.1.length : Int)) - 1)))])), (9, (.cells [(.fn 77 [] [(.ptr 0 6 0), (.ptr 0 8 0), (.ptr 0 3 0), (.ptr 0 9 0)])]))], f1, f2, f3, f4, f5, f6, f7, f8]⟩, []⟩
noncomputable def zgw (r0 : (SL Int)) (r1 r2 : Int) (v1902 : zt1) (r : Int) : TM := [(0, (.d (dl eI r0.1 r0.2))), (1, (xi r1)), (2, (xi r2)), (3, (.ptr 0 6 0)), (4, (.ptr 0 8 0)), (5, (.ptr 0 3 0)), (6, (.ptr 0 9 0)), (10, (.d (.sl [] .nil))), (11, (xb false)), (21, (xb false)), (14, (xi v1902.1)), (36, (xb v1902.2)), (15, (xi r)), (50, (xb false))]
noncomputable def zzg (p0 : zb) (p1 : Int) (r0 : (SL Int)) (r1 r2 : Int) (v1902 : zt1) (rc : zt0) (f1 f2 f3 f4 f5 f6 f7 f8 : Fr) (r : Int) : St := ⟨(zgw r0 r1 r2 v1902 r), ⟨[], [[(zc 2 (za p0)), (3, (.cells [(xi p1)])), (zc 6 (za p0)), (8, (.cells [(xi (w64 ((zq 1 (p0.Slips.1.length : Int)) - 1)))])), (9, (.cells [(.fn 77 [] [(.ptr 0 6 0), (.ptr 0 8 0), (.ptr 0 3 0), (.ptr 0 9 0)])]))], f1, f2, f3, f4, f5, f6, f7, f8]⟩, []⟩
noncomputable def zeo (p0 : zb) (p1 : Int) (r0 : (SL Int)) (r1 r2 : Int) (v1902 : zt1) (rc : zt0) (f1 f2 f3 f4 f5 f6 f7 f8 : Fr) : (((SL Int) × Int × Bool) ⊕ Int) → Ex × St := Sum.elim (fun r => (.ret, zPg p0 p1 r0 r1 r2 v1902 rc f1 f2 f3 f4 f5 f6 f7 f8 r)) (fun r => ((.exit 0), zzg p0 p1 r0 r1 r2 v1902 rc f1 f2 f3 f4 f5 f6 f7 f8 r))
theorem zak (k : Nat) (p0 : zb) (p1 : Int) (r0 : (SL Int)) (r1 r2 : Int) (v1902 : zt1) (rc : zt0) (f1 f2 f3 f4 f5 f6 f7 f8 : Fr) (hrc : ∀ (f : Fr) (r0 : (SL Int)) (r1 : Int) (r2 : Int) (r : ((SL Int) × Bool)), rc r0 r1 r2 = some r → zR TE (ev TE) 77 [(.d (dl eI r0.1 r0.2)), (xi r1), (xi r2), (.ptr 0 6 0), (.ptr 0 8 0), (.ptr 0 3 0), (.ptr 0 9 0)] ⟨f, [[(2, (.cells ((za p0).map .d))), (3, (.cells [(xi p1)])), (6, (.cells ((za p0).map .d))), (8, (.cells [(xi (w64 ((zq 1 (p0.Slips.1.length : Int)) - 1)))])), (9, (.cells [(.fn 77 [] [(.ptr 0 6 0), (.ptr 0 8 0), (.ptr 0 3 0), (.ptr 0 9 0)])]))], f1, f2, f3, f4, f5, f6, f7, f8]⟩ [] = some (zu r, ⟨f, [[(2, (.cells ((za p0).map .d))), (3, (.cells [(xi p1)])), (6, (.cells ((za p0).map .d))), (8, (.cells [(xi (w64 ((zq 1 (p0.Slips.1.length : Int)) - 1)))])), (9, (.cells [(.fn 77 [] [(.ptr 0 6 0), (.ptr 0 8 0), (.ptr 0 3 0), (.ptr 0 9 0)])]))], f1, f2, f3, f4, f5, f6, f7, f8]⟩, [])) (s20_8 : Int) (x : Int ⊕ (((SL Int) × Int × Bool) ⊕ Int)) (h : zFi k p0 p1 r0 r1 r2 v1902 rc s20_8 = some x) : zM TE 77 (blk TE 77 0) (fun s : Int => zWo p0 p1 r0 r1 r2 v1902 rc f1 f2 f3 f4 f5 f6 f7 f8 s) (zeo p0 p1 r0 r1 r2 v1902 rc f1 f2 f3 f4 f5 f6 f7 f8) s20_8 x := by
 unfold zFi at h
 refine zo h (fun h2101 g1 => ?_) (fun h2101 g1 => ?_)
 ·refine zo g1 (fun h2102 g2 => ?_) (fun h2102 g2 => ?_)
  ·cases g2
  ·refine z6 g2 (fun h2103 g3 => ?_)
   refine zo g3 (fun h2104 g4 => ?_) (fun h2104 g4 => ?_)
   ·cases g4
   ·refine zi g4 (fun v2105 h2106 g5 => ?_)
    refine zo g5 (fun h2107 g6 => ?_) (fun h2107 g6 => ?_)
    ·exact zqo [(77, 8, 4, .q (xi (p0.Slips.1.length : Int))), (77, 8, 5, .q (xb true)), (77, 10, 3, .q (xi (r0.1.length : Int))), (77, 10, 5, .q (xi (r0.1.length : Int))), (77, 10, 6, .q (.d (dl eI r0.1 (ccap r0.2)))), (77, 10, 9, .q (.d (dl eI (r0.1 ++ [s20_8]) .ro))), (77, 10, 12, .q (xi (zq 1 s20_8))), (77, 10, 15, .i (.tup [(dl eI v2105.1.1 v2105.1.2), (db v2105.2)]) ⟨[], [[(2, (.cells ((za p0).map .d))), (3, (.cells [(xi p1)])), (6, (.cells ((za p0).map .d))), (8, (.cells [(xi (w64 ((zq 1 (p0.Slips.1.length : Int)) - 1)))])), (9, (.cells [(.fn 77 [] [(.ptr 0 6 0), (.ptr 0 8 0), (.ptr 0 3 0), (.ptr 0 9 0)])]))], f1, f2, f3, f4, f5, f6, f7, f8]⟩ []), (77, 11, 0, .q (xb true))] [] g6 (ob (zr zj p0.Slips.1) (ob (o_b h2101) (ob (zr eI r0.1) (ob (zr eI r0.1) (ob (zIc (e := eI) (z := 1) r0.1 r0.2) (ob (o_ad (P := TE.P) (φ := fun _ _ => none) (T := 22) (q := (1, [(di 0)])) (c := (ccap r0.2)) (e := eI) r0.1 s20_8 (by kernel_rfl) (fun _ => rfl) h2102 h2103) (ob (zRb (x := 1) h2104) (ob (hrc ([] : Fr) ((r0.1 ++ [s20_8]), .ro) (or64 r1 (zq 1 s20_8)) r2 _ h2106) (ob (o_b h2107) ob0))))))))) (by kernel_rfl)
    ·exact zqn (w64 (s20_8 + 1)) [] [(77, 8, 4, .q (xi (p0.Slips.1.length : Int))), (77, 8, 5, .q (xb true)), (77, 10, 3, .q (xi (r0.1.length : Int))), (77, 10, 5, .q (xi (r0.1.length : Int))), (77, 10, 6, .q (.d (dl eI r0.1 (ccap r0.2)))), (77, 10, 9, .q (.d (dl eI (r0.1 ++ [s20_8]) .ro))), (77, 10, 12, .q (xi (zq 1 s20_8))), (77, 10, 15, .i (.tup [(dl eI v2105.1.1 v2105.1.2), (db v2105.2)]) ⟨[], [[(2, (.cells ((za p0).map .d))), (3, (.cells [(xi p1)])), (6, (.cells ((za p0).map .d))), (8, (.cells [(xi (w64 ((zq 1 (p0.Slips.1.length : Int)) - 1)))])), (9, (.cells [(.fn 77 [] [(.ptr 0 6 0), (.ptr 0 8 0), (.ptr 0 3 0), (.ptr 0 9 0)])]))], f1, f2, f3, f4, f5, f6, f7, f8]⟩ []), (77, 11, 0, .q (xb false))] [] g6 (ob (zr zj p0.Slips.1) (ob (o_b h2101) (ob (zr eI r0.1) (ob (zr eI r0.1) (ob (zIc (e := eI) (z := 1) r0.1 r0.2) (ob (o_ad (P := TE.P) (φ := fun _ _ => none) (T := 22) (q := (1, [(di 0)])) (c := (ccap r0.2)) (e := eI) r0.1 s20_8 (by kernel_rfl) (fun _ => rfl) h2102 h2103) (ob (zRb (x := 1) h2104) (ob (hrc ([] : Fr) ((r0.1 ++ [s20_8]), .ro) (or64 r1 (zq 1 s20_8)) r2 _ h2106) (ob (o_b h2107) ob0))))))))) (by kernel_rfl)
 ·exact zqo [(77, 8, 4, .q (xi (p0.Slips.1.length : Int))), (77, 8, 5, .q (xb false))] [] g1 (ob (zr zj p0.Slips.1) (ob (o_b h2101) ob0)) (by kernel_rfl)
theorem zMn (k : Nat) (p0 : zb) (p1 : Int) (rc : zt0) (f1 f2 f3 f4 f5 f6 f7 f8 : Fr) (hrc : ∀ (f : Fr) (r0 : (SL Int)) (r1 : Int) (r2 : Int) (r : ((SL Int) × Bool)), rc r0 r1 r2 = some r → zR TE (ev TE) 77 [(.d (dl eI r0.1 r0.2)), (xi r1), (xi r2), (.ptr 0 6 0), (.ptr 0 8 0), (.ptr 0 3 0), (.ptr 0 9 0)] ⟨f, [[(2, (.cells ((za p0).map .d))), (3, (.cells [(xi p1)])), (6, (.cells ((za p0).map .d))), (8, (.cells [(xi (w64 ((zq 1 (p0.Slips.1.length : Int)) - 1)))])), (9, (.cells [(.fn 77 [] [(.ptr 0 6 0), (.ptr 0 8 0), (.ptr 0 3 0), (.ptr 0 9 0)])]))], f1, f2, f3, f4, f5, f6, f7, f8]⟩ [] = some (zu r, ⟨f, [[(2, (.cells ((za p0).map .d))), (3, (.cells [(xi p1)])), (6, (.cells ((za p0).map .d))), (8, (.cells [(xi (w64 ((zq 1 (p0.Slips.1.length : Int)) - 1)))])), (9, (.cells [(.fn 77 [] [(.ptr 0 6 0), (.ptr 0 8 0), (.ptr 0 3 0), (.ptr 0 9 0)])]))], f1, f2, f3, f4, f5, f6, f7, f8]⟩, [])) (r0 : (SL Int)) (r1 r2 : Int) (r : zt14) (h : zdh k p0 p1 rc r0 r1 r2 = some r) : zR TE (ev TE) 77 [(.d (dl eI r0.1 r0.2)), (xi r1), (xi r2), (.ptr 0 6 0), (.ptr 0 8 0), (.ptr 0 3 0), (.ptr 0 9 0)] ⟨f8, [[(zc 2 (za p0)), (3, (.cells [(xi p1)])), (zc 6 (za p0)), (8, (.cells [(xi (w64 ((zq 1 (p0.Slips.1.length : Int)) - 1)))])), (9, (.cells [(.fn 77 [] [(.ptr 0 6 0), (.ptr 0 8 0), (.ptr 0 3 0), (.ptr 0 9 0)])]))], f1, f2, f3, f4, f5, f6, f7]⟩ [] = some (zu r, ⟨f8, [[(zc 2 (za p0)), (3, (.cells [(xi p1)])), (zc 6 (za p0)), (8, (.cells [(xi (w64 ((zq 1 (p0.Slips.1.length : Int)) - 1)))])), (9, (.cells [(.fn 77 [] [(.ptr 0 6 0), (.ptr 0 8 0), (.ptr 0 3 0), (.ptr 0 9 0)])]))], f1, f2, f3, f4, f5, f6, f7]⟩, []) := by
 unfold zdh at h
 refine zo h (fun h1901 g1 => ?_) (fun h1901 g1 => ?_)
 ·refine zi g1 (fun v1902 h1903 g2 => ?_)
  exact zU (g := (fun r => (zu r, ⟨f8, [[(2, (.cells ((za p0).map .d))), (3, (.cells [(xi p1)])), (6, (.cells ((za p0).map .d))), (8, (.cells [(xi (w64 ((zq 1 (p0.Slips.1.length : Int)) - 1)))])), (9, (.cells [(.fn 77 [] [(.ptr 0 6 0), (.ptr 0 8 0), (.ptr 0 3 0), (.ptr 0 9 0)])]))], f1, f2, f3, f4, f5, f6, f7]⟩, []))) g2 (zN (n := 80) (V := [(77, 1, 1, .q (xi (r0.1.length : Int))), (77, 1, 3, .q (xb true)), (77, 2, 6, .c (.tup [(dl (eL eI) v1902.1.1 v1902.1.2), (db v1902.2)]))]) (C := []) (ob (zr eI r0.1) (ob (o_b h1901) (ob (zV k (⟨p0⟩ : zd) (⟨(zqb (w64 ((zq 1 (p0.Slips.1.length : Int)) - 1)) r1), p1⟩ : zt) _ h1903) ob0))) (by kernel_rfl))
 ·refine zi g1 (fun v1902 h1903 g2 => ?_)
  refine zi g2 (fun v1904 h1905 g3 => ?_)
  refine znc g3 (fun v1907 hh g4_0 => ?_) (fun v1907 hh g4_0 => ?_)
  ·subst hh
   exact zU (g := (fun r => (zu r, ⟨f8, [[(2, (.cells ((za p0).map .d))), (3, (.cells [(xi p1)])), (6, (.cells ((za p0).map .d))), (8, (.cells [(xi (w64 ((zq 1 (p0.Slips.1.length : Int)) - 1)))])), (9, (.cells [(.fn 77 [] [(.ptr 0 6 0), (.ptr 0 8 0), (.ptr 0 3 0), (.ptr 0 9 0)])]))], f1, f2, f3, f4, f5, f6, f7]⟩, []))) g4_0 (zN (n := 80) (V := [(77, 1, 1, .q (xi (r0.1.length : Int))), (77, 1, 3, .q (xb false)), (77, 5, 1, .q (xi (r0.1.length : Int)))]) (C := [(77, 2000036, (.nor, z3d p0 p1 r0 r1 r2 (decide ((r0.1.length : Int) > 0)) rc f1 f2 f3 f4 f5 f6 f7 f8 v1902)), (77, 0, (.ret, zPg p0 p1 r0 r1 r2 v1902 rc f1 f2 f3 f4 f5 f6 f7 f8 v1907))]) (ob (zr eI r0.1) (ob (o_b h1901) (ob (zr eI r0.1) (ob (zPj k p0 p1 r0 r1 r2 (decide ((r0.1.length : Int) > 0)) rc f1 f2 f3 f4 f5 f6 f7 f8 hrc _ h1903) (ob (zy (id := 0) (r' := (.ret, zPg p0 p1 r0 r1 r2 v1902 rc f1 f2 f3 f4 f5 f6 f7 f8 v1907)) (zed (zak k p0 p1 r0 r1 r2 v1902 rc f1 f2 f3 f4 f5 f6 f7 f8 hrc) k _ _ h1905) rfl) ob0))))) (by kernel_rfl))
  ·subst hh
   exact zU (g := (fun r => (zu r, ⟨f8, [[(2, (.cells ((za p0).map .d))), (3, (.cells [(xi p1)])), (6, (.cells ((za p0).map .d))), (8, (.cells [(xi (w64 ((zq 1 (p0.Slips.1.length : Int)) - 1)))])), (9, (.cells [(.fn 77 [] [(.ptr 0 6 0), (.ptr 0 8 0), (.ptr 0 3 0), (.ptr 0 9 0)])]))], f1, f2, f3, f4, f5, f6, f7]⟩, []))) g4_0 (zN (n := 80) (V := [(77, 1, 1, .q (xi (r0.1.length : Int))), (77, 1, 3, .q (xb false)), (77, 5, 1, .q (xi (r0.1.length : Int)))]) (C := [(77, 2000036, (.nor, z3d p0 p1 r0 r1 r2 (decide ((r0.1.length : Int) > 0)) rc f1 f2 f3 f4 f5 f6 f7 f8 v1902)), (77, 0, (.nor, zzg p0 p1 r0 r1 r2 v1902 rc f1 f2 f3 f4 f5 f6 f7 f8 v1907))]) (ob (zr eI r0.1) (ob (o_b h1901) (ob (zr eI r0.1) (ob (zPj k p0 p1 r0 r1 r2 (decide ((r0.1.length : Int) > 0)) rc f1 f2 f3 f4 f5 f6 f7 f8 hrc _ h1903) (ob (zy (id := 0) (r' := (.nor, zzg p0 p1 r0 r1 r2 v1902 rc f1 f2 f3 f4 f5 f6 f7 f8 v1907)) (zed (zak k p0 p1 r0 r1 r2 v1902 rc f1 f2 f3 f4 f5 f6 f7 f8 hrc) k _ _ h1905) rfl) ob0))))) (by kernel_rfl))
noncomputable def z9d (p0 : zb) (p1 : Int) (r0 : (SL Int)) (r1 r2 : Int) (cb : Bool) (rc : zt0) (f1 f2 f3 f4 f5 f6 f7 f8 f9 : Fr) (r : zt1) : St := ⟨(zUk r0 r1 r2 r), ⟨[], [[(zc 2 (za p0)), (3, (.cells [(xi p1)])), (zc 6 (za p0)), (8, (.cells [(xi (w64 ((zq 1 (p0.Slips.1.length : Int)) - 1)))])), (9, (.cells [(.fn 77 [] [(.ptr 0 6 0), (.ptr 0 8 0), (.ptr 0 3 0), (.ptr 0 9 0)])]))], f1, f2, f3, f4, f5, f6, f7, f8, f9]⟩, []⟩
theorem zOj (k : Nat) (p0 : zb) (p1 : Int) (r0 : (SL Int)) (r1 r2 : Int) (cb : Bool) (rc : zt0) (f1 f2 f3 f4 f5 f6 f7 f8 f9 : Fr) (hrc : ∀ (f : Fr) (r0 : (SL Int)) (r1 : Int) (r2 : Int) (r : ((SL Int) × Bool)), rc r0 r1 r2 = some r → zR TE (ev TE) 77 [(.d (dl eI r0.1 r0.2)), (xi r1), (xi r2), (.ptr 0 6 0), (.ptr 0 8 0), (.ptr 0 3 0), (.ptr 0 9 0)] ⟨f, [[(2, (.cells ((za p0).map .d))), (3, (.cells [(xi p1)])), (6, (.cells ((za p0).map .d))), (8, (.cells [(xi (w64 ((zq 1 (p0.Slips.1.length : Int)) - 1)))])), (9, (.cells [(.fn 77 [] [(.ptr 0 6 0), (.ptr 0 8 0), (.ptr 0 3 0), (.ptr 0 9 0)])]))], f1, f2, f3, f4, f5, f6, f7, f8, f9]⟩ [] = some (zu r, ⟨f, [[(2, (.cells ((za p0).map .d))), (3, (.cells [(xi p1)])), (6, (.cells ((za p0).map .d))), (8, (.cells [(xi (w64 ((zq 1 (p0.Slips.1.length : Int)) - 1)))])), (9, (.cells [(.fn 77 [] [(.ptr 0 6 0), (.ptr 0 8 0), (.ptr 0 3 0), (.ptr 0 9 0)])]))], f1, f2, f3, f4, f5, f6, f7, f8, f9]⟩, [])) (r : zt1) (h : zBi k p0 p1 r0 r1 r2 cb rc = some r) : ev TE 77 (cnd TE 77 36) ⟨(z8k r0 r1 r2 cb), ⟨[], [[(zc 2 (za p0)), (3, (.cells [(xi p1)])), (zc 6 (za p0)), (8, (.cells [(xi (w64 ((zq 1 (p0.Slips.1.length : Int)) - 1)))])), (9, (.cells [(.fn 77 [] [(.ptr 0 6 0), (.ptr 0 8 0), (.ptr 0 3 0), (.ptr 0 9 0)])]))], f1, f2, f3, f4, f5, f6, f7, f8, f9]⟩, []⟩ = some (.nor, z9d p0 p1 r0 r1 r2 cb rc f1 f2 f3 f4 f5 f6 f7 f8 f9 r) := by
 unfold zBi at h
 refine zo h (fun h2201 g1 => ?_) (fun h2201 g1 => ?_)
 ·subst h2201
  refine zi g1 (fun v2202 h2203 g2 => ?_)
  exact zB (g := fun r => (Ex.nor, z9d p0 p1 r0 r1 r2 true rc f1 f2 f3 f4 f5 f6 f7 f8 f9 r)) g2 (zqe [(77, 6, 2, .q (xi (r0.1.length : Int))), (77, 6, 4, .q (.d (.pin [(di v2202)])))] [] (ob (zr eI r0.1) (ob (o_ia (e := eI) 1 h2203 rfl) ob0)) (by kernel_rfl))
 ·subst h2201
  exact zB (g := fun r => (Ex.nor, z9d p0 p1 r0 r1 r2 false rc f1 f2 f3 f4 f5 f6 f7 f8 f9 r)) g1 (zqe [] [] ob0 (by kernel_rfl))
noncomputable def zDw (r0 : (SL Int)) (r1 r2 : Int) (v2102 : zt1) (s22_8 : Int) : TM := [(0, (.d (dl eI r0.1 r0.2))), (1, (xi r1)), (2, (xi r2)), (3, (.ptr 0 6 0)), (4, (.ptr 0 8 0)), (5, (.ptr 0 3 0)), (6, (.ptr 0 9 0)), (10, (.d (.sl [] .nil))), (11, (xb false)), (21, (xb false)), (14, (xi v2102.1)), (36, (xb v2102.2)), (15, (xi s22_8))]
noncomputable def zDo (p0 : zb) (p1 : Int) (r0 : (SL Int)) (r1 r2 : Int) (v2102 : zt1) (rc : zt0) (f1 f2 f3 f4 f5 f6 f7 f8 f9 : Fr) (s22_8 : Int) : St := ⟨(zDw r0 r1 r2 v2102 s22_8), ⟨[], [[(zc 2 (za p0)), (3, (.cells [(xi p1)])), (zc 6 (za p0)), (8, (.cells [(xi (w64 ((zq 1 (p0.Slips.1.length : Int)) - 1)))])), (9, (.cells [(.fn 77 [] [(.ptr 0 6 0), (.ptr 0 8 0), (.ptr 0 3 0), (.ptr 0 9 0)])]))], f1, f2, f3, f4, f5, f6, f7, f8, f9]⟩, []⟩
noncomputable def z9v (r0 : (SL Int)) (r1 r2 : Int) (r : zt18) (v2102 : zt1) : TM := [(0, (.d (dl eI r0.1 r0.2))), (1, (xi r1)), (2, (xi r2)), (3, (.ptr 0 6 0)), (4, (.ptr 0 8 0)), (5, (.ptr 0 3 0)), (6, (.ptr 0 9 0)), (10, (.d (dl eI r.1.1 r.1.2))), (11, (xb true)), (21, (xb false)), (14, (xi v2102.1)), (36, (xb v2102.2)), (15, (xi r.2.1)), (50, (xb true)), (16, (.d (dl eI r.1.1 r.1.2))), (17, (xb r.2.2)), (72, (xb true))]
noncomputable def zyg (p0 : zb) (p1 : Int) (r0 : (SL Int)) (r1 r2 : Int) (v2102 : zt1) (rc : zt0) (f1 f2 f3 f4 f5 f6 f7 f8 f9 : Fr) (r : zt18) : St := ⟨(z9v r0 r1 r2 r v2102), ⟨[], [[(zc 2 (za p0)), (3, (.cells [(xi p1)])), (zc 6 (za p0)), (8, (.cells [(xi (w64 ((zq 1 (p0.Slips.1.length : Int)) - 1)))])), (9, (.cells [(.fn 77 [] [(.ptr 0 6 0), (.ptr 0 8 0), (.ptr 0 3 0), (.ptr 0 9 0)])]))], f1, f2, f3, f4, f5, f6, f7, f8, f9]⟩, []⟩
noncomputable def zhw (r0 : (SL Int)) (r1 r2 : Int) (v2102 : zt1) (r : Int) : TM := [(0, (.d (dl eI r0.1 r0.2))), (1, (xi r1)), (2, (xi r2)), (3, (.ptr 0 6 0)), (4, (.ptr 0 8 0)), (5, (.ptr 0 3 0)), (6, (.ptr 0 9 0)), (10, (.d (.sl [] .nil))), (11, (xb false)), (21, (xb false)), (14, (xi v2102.1)), (36, (xb v2102.2)), (15, (xi r)), (50, (xb false))]
noncomputable def zAg (p0 : zb) (p1 : Int) (r0 : (SL Int)) (r1 r2 : Int) (v2102 : zt1) (rc : zt0) (f1 f2 f3 f4 f5 f6 f7 f8 f9 : Fr) (r : Int) : St := ⟨(zhw r0 r1 r2 v2102 r), ⟨[], [[(zc 2 (za p0)), (3, (.cells [(xi p1)])), (zc 6 (za p0)), (8, (.cells [(xi (w64 ((zq 1 (p0.Slips.1.length : Int)) - 1)))])), (9, (.cells [(.fn 77 [] [(.ptr 0 6 0), (.ptr 0 8 0), (.ptr 0 3 0), (.ptr 0 9 0)])]))], f1, f2, f3, f4, f5, f6, f7, f8, f9]⟩, []⟩
noncomputable def z9n (p0 : zb) (p1 : Int) (r0 : (SL Int)) (r1 r2 : Int) (v2102 : zt1) (rc : zt0) (f1 f2 f3 f4 f5 f6 f7 f8 f9 : Fr) : (((SL Int) × Int × Bool) ⊕ Int) → Ex × St := Sum.elim (fun r => (.ret, zyg p0 p1 r0 r1 r2 v2102 rc f1 f2 f3 f4 f5 f6 f7 f8 f9 r)) (fun r => ((.exit 0), zAg p0 p1 r0 r1 r2 v2102 rc f1 f2 f3 f4 f5 f6 f7 f8 f9 r))
theorem zzj (k : Nat) (p0 : zb) (p1 : Int) (r0 : (SL Int)) (r1 r2 : Int) (v2102 : zt1) (rc : zt0) (f1 f2 f3 f4 f5 f6 f7 f8 f9 : Fr) (hrc : ∀ (f : Fr) (r0 : (SL Int)) (r1 : Int) (r2 : Int) (r : ((SL Int) × Bool)), rc r0 r1 r2 = some r → zR TE (ev TE) 77 [(.d (dl eI r0.1 r0.2)), (xi r1), (xi r2), (.ptr 0 6 0), (.ptr 0 8 0), (.ptr 0 3 0), (.ptr 0 9 0)] ⟨f, [[(2, (.cells ((za p0).map .d))), (3, (.cells [(xi p1)])), (6, (.cells ((za p0).map .d))), (8, (.cells [(xi (w64 ((zq 1 (p0.Slips.1.length : Int)) - 1)))])), (9, (.cells [(.fn 77 [] [(.ptr 0 6 0), (.ptr 0 8 0), (.ptr 0 3 0), (.ptr 0 9 0)])]))], f1, f2, f3, f4, f5, f6, f7, f8, f9]⟩ [] = some (zu r, ⟨f, [[(2, (.cells ((za p0).map .d))), (3, (.cells [(xi p1)])), (6, (.cells ((za p0).map .d))), (8, (.cells [(xi (w64 ((zq 1 (p0.Slips.1.length : Int)) - 1)))])), (9, (.cells [(.fn 77 [] [(.ptr 0 6 0), (.ptr 0 8 0), (.ptr 0 3 0), (.ptr 0 9 0)])]))], f1, f2, f3, f4, f5, f6, f7, f8, f9]⟩, [])) (s22_8 : Int) (x : Int ⊕ (((SL Int) × Int × Bool) ⊕ Int)) (h : zOi k p0 p1 r0 r1 r2 v2102 rc s22_8 = some x) : zM TE 77 (blk TE 77 0) (fun s : Int => zDo p0 p1 r0 r1 r2 v2102 rc f1 f2 f3 f4 f5 f6 f7 f8 f9 s) (z9n p0 p1 r0 r1 r2 v2102 rc f1 f2 f3 f4 f5 f6 f7 f8 f9) s22_8 x := by
 unfold zOi at h
 refine zo h (fun h2301 g1 => ?_) (fun h2301 g1 => ?_)
 ·refine zo g1 (fun h2302 g2 => ?_) (fun h2302 g2 => ?_)
  ·cases g2
  ·refine z6 g2 (fun h2303 g3 => ?_)
   refine zo g3 (fun h2304 g4 => ?_) (fun h2304 g4 => ?_)
   ·cases g4
   ·refine zi g4 (fun v2305 h2306 g5 => ?_)
    refine zo g5 (fun h2307 g6 => ?_) (fun h2307 g6 => ?_)
    ·exact zqo [(77, 8, 4, .q (xi (p0.Slips.1.length : Int))), (77, 8, 5, .q (xb true)), (77, 10, 3, .q (xi (r0.1.length : Int))), (77, 10, 5, .q (xi (r0.1.length : Int))), (77, 10, 6, .q (.d (dl eI r0.1 (ccap r0.2)))), (77, 10, 9, .q (.d (dl eI (r0.1 ++ [s22_8]) .ro))), (77, 10, 12, .q (xi (zq 1 s22_8))), (77, 10, 15, .i (.tup [(dl eI v2305.1.1 v2305.1.2), (db v2305.2)]) ⟨[], [[(2, (.cells ((za p0).map .d))), (3, (.cells [(xi p1)])), (6, (.cells ((za p0).map .d))), (8, (.cells [(xi (w64 ((zq 1 (p0.Slips.1.length : Int)) - 1)))])), (9, (.cells [(.fn 77 [] [(.ptr 0 6 0), (.ptr 0 8 0), (.ptr 0 3 0), (.ptr 0 9 0)])]))], f1, f2, f3, f4, f5, f6, f7, f8, f9]⟩ []), (77, 11, 0, .q (xb true))] [] g6 (ob (zr zj p0.Slips.1) (ob (o_b h2301) (ob (zr eI r0.1) (ob (zr eI r0.1) (ob (zIc (e := eI) (z := 1) r0.1 r0.2) (ob (o_ad (P := TE.P) (φ := fun _ _ => none) (T := 22) (q := (1, [(di 0)])) (c := (ccap r0.2)) (e := eI) r0.1 s22_8 (by kernel_rfl) (fun _ => rfl) h2302 h2303) (ob (zRb (x := 1) h2304) (ob (hrc ([] : Fr) ((r0.1 ++ [s22_8]), .ro) (or64 r1 (zq 1 s22_8)) r2 _ h2306) (ob (o_b h2307) ob0))))))))) (by kernel_rfl)
    ·exact zqn (w64 (s22_8 + 1)) [] [(77, 8, 4, .q (xi (p0.Slips.1.length : Int))), (77, 8, 5, .q (xb true)), (77, 10, 3, .q (xi (r0.1.length : Int))), (77, 10, 5, .q (xi (r0.1.length : Int))), (77, 10, 6, .q (.d (dl eI r0.1 (ccap r0.2)))), (77, 10, 9, .q (.d (dl eI (r0.1 ++ [s22_8]) .ro))), (77, 10, 12, .q (xi (zq 1 s22_8))), (77, 10, 15, .i (.tup [(dl eI v2305.1.1 v2305.1.2), (db v2305.2)]) ⟨[], [[(2, (.cells ((za p0).map .d))), (3, (.cells [(xi p1)])), (6, (.cells ((za p0).map .d))), (8, (.cells [(xi (w64 ((zq 1 (p0.Slips.1.length : Int)) - 1)))])), (9, (.cells [(.fn 77 [] [(.ptr 0 6 0), (.ptr 0 8 0), (.ptr 0 3 0), (.ptr 0 9 0)])]))], f1, f2, f3, f4, f5, f6, f7, f8, f9]⟩ []), (77, 11, 0, .q (xb false))] [] g6 (ob (zr zj p0.Slips.1) (ob (o_b h2301) (ob (zr eI r0.1) (ob (zr eI r0.1) (ob (zIc (e := eI) (z := 1) r0.1 r0.2) (ob (o_ad (P := TE.P) (φ := fun _ _ => none) (T := 22) (q := (1, [(di 0)])) (c := (ccap r0.2)) (e := eI) r0.1 s22_8 (by kernel_rfl) (fun _ => rfl) h2302 h2303) (ob (zRb (x := 1) h2304) (ob (hrc ([] : Fr) ((r0.1 ++ [s22_8]), .ro) (or64 r1 (zq 1 s22_8)) r2 _ h2306) (ob (o_b h2307) ob0))))))))) (by kernel_rfl)
 ·exact zqo [(77, 8, 4, .q (xi (p0.Slips.1.length : Int))), (77, 8, 5, .q (xb false))] [] g1 (ob (zr zj p0.Slips.1) (ob (o_b h2301) ob0)) (by kernel_rfl)
theorem z6m (k : Nat) (p0 : zb) (p1 : Int) (rc : zt0) (f1 f2 f3 f4 f5 f6 f7 f8 f9 : Fr) (hrc : ∀ (f : Fr) (r0 : (SL Int)) (r1 : Int) (r2 : Int) (r : ((SL Int) × Bool)), rc r0 r1 r2 = some r → zR TE (ev TE) 77 [(.d (dl eI r0.1 r0.2)), (xi r1), (xi r2), (.ptr 0 6 0), (.ptr 0 8 0), (.ptr 0 3 0), (.ptr 0 9 0)] ⟨f, [[(2, (.cells ((za p0).map .d))), (3, (.cells [(xi p1)])), (6, (.cells ((za p0).map .d))), (8, (.cells [(xi (w64 ((zq 1 (p0.Slips.1.length : Int)) - 1)))])), (9, (.cells [(.fn 77 [] [(.ptr 0 6 0), (.ptr 0 8 0), (.ptr 0 3 0), (.ptr 0 9 0)])]))], f1, f2, f3, f4, f5, f6, f7, f8, f9]⟩ [] = some (zu r, ⟨f, [[(2, (.cells ((za p0).map .d))), (3, (.cells [(xi p1)])), (6, (.cells ((za p0).map .d))), (8, (.cells [(xi (w64 ((zq 1 (p0.Slips.1.length : Int)) - 1)))])), (9, (.cells [(.fn 77 [] [(.ptr 0 6 0), (.ptr 0 8 0), (.ptr 0 3 0), (.ptr 0 9 0)])]))], f1, f2, f3, f4, f5, f6, f7, f8, f9]⟩, [])) (r0 : (SL Int)) (r1 r2 : Int) (r : zt14) (h : zQg k p0 p1 rc r0 r1 r2 = some r) : zR TE (ev TE) 77 [(.d (dl eI r0.1 r0.2)), (xi r1), (xi r2), (.ptr 0 6 0), (.ptr 0 8 0), (.ptr 0 3 0), (.ptr 0 9 0)] ⟨f9, [[(zc 2 (za p0)), (3, (.cells [(xi p1)])), (zc 6 (za p0)), (8, (.cells [(xi (w64 ((zq 1 (p0.Slips.1.length : Int)) - 1)))])), (9, (.cells [(.fn 77 [] [(.ptr 0 6 0), (.ptr 0 8 0), (.ptr 0 3 0), (.ptr 0 9 0)])]))], f1, f2, f3, f4, f5, f6, f7, f8]⟩ [] = some (zu r, ⟨f9, [[(zc 2 (za p0)), (3, (.cells [(xi p1)])), (zc 6 (za p0)), (8, (.cells [(xi (w64 ((zq 1 (p0.Slips.1.length : Int)) - 1)))])), (9, (.cells [(.fn 77 [] [(.ptr 0 6 0), (.ptr 0 8 0), (.ptr 0 3 0), (.ptr 0 9 0)])]))], f1, f2, f3, f4, f5, f6, f7, f8]⟩, []) := by
 unfold zQg at h
 refine zo h (fun h2101 g1 => ?_) (fun h2101 g1 => ?_)
 ·refine zi g1 (fun v2102 h2103 g2 => ?_)
  exact zU (g := (fun r => (zu r, ⟨f9, [[(2, (.cells ((za p0).map .d))), (3, (.cells [(xi p1)])), (6, (.cells ((za p0).map .d))), (8, (.cells [(xi (w64 ((zq 1 (p0.Slips.1.length : Int)) - 1)))])), (9, (.cells [(.fn 77 [] [(.ptr 0 6 0), (.ptr 0 8 0), (.ptr 0 3 0), (.ptr 0 9 0)])]))], f1, f2, f3, f4, f5, f6, f7, f8]⟩, []))) g2 (zN (n := 80) (V := [(77, 1, 1, .q (xi (r0.1.length : Int))), (77, 1, 3, .q (xb true)), (77, 2, 6, .c (.tup [(dl (eL eI) v2102.1.1 v2102.1.2), (db v2102.2)]))]) (C := []) (ob (zr eI r0.1) (ob (o_b h2101) (ob (zV k (⟨p0⟩ : zd) (⟨(zqb (w64 ((zq 1 (p0.Slips.1.length : Int)) - 1)) r1), p1⟩ : zt) _ h2103) ob0))) (by kernel_rfl))
 ·refine zi g1 (fun v2102 h2103 g2 => ?_)
  refine zi g2 (fun v2104 h2105 g3 => ?_)
  refine znc g3 (fun v2107 hh g4_0 => ?_) (fun v2107 hh g4_0 => ?_)
  ·subst hh
   exact zU (g := (fun r => (zu r, ⟨f9, [[(2, (.cells ((za p0).map .d))), (3, (.cells [(xi p1)])), (6, (.cells ((za p0).map .d))), (8, (.cells [(xi (w64 ((zq 1 (p0.Slips.1.length : Int)) - 1)))])), (9, (.cells [(.fn 77 [] [(.ptr 0 6 0), (.ptr 0 8 0), (.ptr 0 3 0), (.ptr 0 9 0)])]))], f1, f2, f3, f4, f5, f6, f7, f8]⟩, []))) g4_0 (zN (n := 80) (V := [(77, 1, 1, .q (xi (r0.1.length : Int))), (77, 1, 3, .q (xb false)), (77, 5, 1, .q (xi (r0.1.length : Int)))]) (C := [(77, 2000036, (.nor, z9d p0 p1 r0 r1 r2 (decide ((r0.1.length : Int) > 0)) rc f1 f2 f3 f4 f5 f6 f7 f8 f9 v2102)), (77, 0, (.ret, zyg p0 p1 r0 r1 r2 v2102 rc f1 f2 f3 f4 f5 f6 f7 f8 f9 v2107))]) (ob (zr eI r0.1) (ob (o_b h2101) (ob (zr eI r0.1) (ob (zOj k p0 p1 r0 r1 r2 (decide ((r0.1.length : Int) > 0)) rc f1 f2 f3 f4 f5 f6 f7 f8 f9 hrc _ h2103) (ob (zy (id := 0) (r' := (.ret, zyg p0 p1 r0 r1 r2 v2102 rc f1 f2 f3 f4 f5 f6 f7 f8 f9 v2107)) (zed (zzj k p0 p1 r0 r1 r2 v2102 rc f1 f2 f3 f4 f5 f6 f7 f8 f9 hrc) k _ _ h2105) rfl) ob0))))) (by kernel_rfl))
  ·subst hh
   exact zU (g := (fun r => (zu r, ⟨f9, [[(2, (.cells ((za p0).map .d))), (3, (.cells [(xi p1)])), (6, (.cells ((za p0).map .d))), (8, (.cells [(xi (w64 ((zq 1 (p0.Slips.1.length : Int)) - 1)))])), (9, (.cells [(.fn 77 [] [(.ptr 0 6 0), (.ptr 0 8 0), (.ptr 0 3 0), (.ptr 0 9 0)])]))], f1, f2, f3, f4, f5, f6, f7, f8]⟩, []))) g4_0 (zN (n := 80) (V := [(77, 1, 1, .q (xi (r0.1.length : Int))), (77, 1, 3, .q (xb false)), (77, 5, 1, .q (xi (r0.1.length : Int)))]) (C := [(77, 2000036, (.nor, z9d p0 p1 r0 r1 r2 (decide ((r0.1.length : Int) > 0)) rc f1 f2 f3 f4 f5 f6 f7 f8 f9 v2102)), (77, 0, (.nor, zAg p0 p1 r0 r1 r2 v2102 rc f1 f2 f3 f4 f5 f6 f7 f8 f9 v2107))]) (ob (zr eI r0.1) (ob (o_b h2101) (ob (zr eI r0.1) (ob (zOj k p0 p1 r0 r1 r2 (decide ((r0.1.length : Int) > 0)) rc f1 f2 f3 f4 f5 f6 f7 f8 f9 hrc _ h2103) (ob (zy (id := 0) (r' := (.nor, zAg p0 p1 r0 r1 r2 v2102 rc f1 f2 f3 f4 f5 f6 f7 f8 f9 v2107)) (zed (zzj k p0 p1 r0 r1 r2 v2102 rc f1 f2 f3 f4 f5 f6 f7 f8 f9 hrc) k _ _ h2105) rfl) ob0))))) (by kernel_rfl))
theorem zBk (k : Nat) (p0 : zb) (p1 : Int) (r0 : (SL Int)) (r1 r2 : Int) (r : zt14) (h : zZj k p0 p1 10 r0 r1 r2 = some r) : zR TE (ev TE) 77 [(.d (dl eI r0.1 r0.2)), (xi r1), (xi r2), (.ptr 0 6 0), (.ptr 0 8 0), (.ptr 0 3 0), (.ptr 0 9 0)] ⟨[(zc 2 (za p0)), (3, (.cells [(xi p1)])), (zc 6 (za p0)), (8, (.cells [(xi (w64 ((zq 1 (p0.Slips.1.length : Int)) - 1)))])), (9, (.cells [(.fn 77 [] [(.ptr 0 6 0), (.ptr 0 8 0), (.ptr 0 3 0), (.ptr 0 9 0)])]))], []⟩ [] = some (zu r, ⟨[(zc 2 (za p0)), (3, (.cells [(xi p1)])), (zc 6 (za p0)), (8, (.cells [(xi (w64 ((zq 1 (p0.Slips.1.length : Int)) - 1)))])), (9, (.cells [(.fn 77 [] [(.ptr 0 6 0), (.ptr 0 8 0), (.ptr 0 3 0), (.ptr 0 9 0)])]))], []⟩, []) := by
 unfold zZj at h
 exact zsn k p0 p1 _ (fun f1 r0 r1 r2 r h => zmn k p0 p1 _ f1 (fun f2 r0 r1 r2 r h => zOn k p0 p1 _ f1 f2 (fun f3 r0 r1 r2 r h => zln k p0 p1 _ f1 f2 f3 (fun f4 r0 r1 r2 r h => zpn k p0 p1 _ f1 f2 f3 f4 (fun f5 r0 r1 r2 r h => zSn k p0 p1 _ f1 f2 f3 f4 f5 (fun f6 r0 r1 r2 r h => zHn k p0 p1 _ f1 f2 f3 f4 f5 f6 (fun f7 r0 r1 r2 r h => zUn k p0 p1 _ f1 f2 f3 f4 f5 f6 f7 (fun f8 r0 r1 r2 r h => zMn k p0 p1 _ f1 f2 f3 f4 f5 f6 f7 f8 (fun f9 r0 r1 r2 r h => z6m k p0 p1 _ f1 f2 f3 f4 f5 f6 f7 f8 f9 (fun f r0 r1 r2 r h => by cases h) r0 r1 r2 r h) r0 r1 r2 r h) r0 r1 r2 r h) r0 r1 r2 r h) r0 r1 r2 r h) r0 r1 r2 r h) r0 r1 r2 r h) r0 r1 r2 r h) r0 r1 r2 r h) r0 r1 r2 r h
noncomputable def z0v (p0 : zb) (p1 s1_12 : Int) : TM := [(0, (.d (.agg (za p0)))), (1, (xi p1)), (zsp 2), (zsp 3), (4, (.d (.sl [] .nil))), (5, (xi 0)), (zsp 6), (7, (xi 0)), (20, (xb false)), (zsp 8), (zsp 9), (33, (xi (w64 ((p0.Slips.1.length : Int) + 1)))), (34, (xi s1_12))]
noncomputable def zcp (p0 : zb) (p1 s1_12 : Int) : St := ⟨(z0v p0 p1 s1_12), ⟨[(zc 2 (za p0)), (3, (.cells [(xi p1)])), (zc 6 (za p0)), (8, (.cells [(xi (w64 ((zq 1 (p0.Slips.1.length : Int)) - 1)))])), (9, (.cells [(.fn 77 [] [(.ptr 0 6 0), (.ptr 0 8 0), (.ptr 0 3 0), (.ptr 0 9 0)])]))], []⟩, []⟩
noncomputable def zZv (p0 : zb) (p1 : Int) (r : ((SL Int) × Int × (SL Int) × Bool)) : TM := [(0, (.d (.agg (za p0)))), (1, (xi p1)), (zsp 2), (zsp 3), (4, (.d (dl eI r.1.1 r.1.2))), (5, (xi 0)), (zsp 6), (7, (xi 0)), (20, (xb false)), (zsp 8), (zsp 9), (33, (xi (w64 ((p0.Slips.1.length : Int) + 1)))), (34, (xi r.2.1)), (35, (xb true)), (10, (xi r.2.1)), (11, (.d (dl eI r.2.2.1.1 r.2.2.1.2))), (12, (xb r.2.2.2)), (43, (xb true))]
noncomputable def zhh (p0 : zb) (p1 : Int) (r : ((SL Int) × Int × (SL Int) × Bool)) : St := ⟨(zZv p0 p1 r), ⟨[(zc 2 (za p0)), (3, (.cells [(xi p1)])), (zc 6 (za p0)), (8, (.cells [(xi (w64 ((zq 1 (p0.Slips.1.length : Int)) - 1)))])), (9, (.cells [(.fn 77 [] [(.ptr 0 6 0), (.ptr 0 8 0), (.ptr 0 3 0), (.ptr 0 9 0)])]))], []⟩, []⟩
noncomputable def zEv (p0 : zb) (p1 r : Int) : TM := [(0, (.d (.agg (za p0)))), (1, (xi p1)), (zsp 2), (zsp 3), (4, (.d (.sl [] .nil))), (5, (xi 0)), (zsp 6), (7, (xi 0)), (20, (xb false)), (zsp 8), (zsp 9), (33, (xi (w64 ((p0.Slips.1.length : Int) + 1)))), (34, (xi r)), (35, (xb false))]
noncomputable def zwh (p0 : zb) (p1 r : Int) : St := ⟨(zEv p0 p1 r), ⟨[(zc 2 (za p0)), (3, (.cells [(xi p1)])), (zc 6 (za p0)), (8, (.cells [(xi (w64 ((zq 1 (p0.Slips.1.length : Int)) - 1)))])), (9, (.cells [(.fn 77 [] [(.ptr 0 6 0), (.ptr 0 8 0), (.ptr 0 3 0), (.ptr 0 9 0)])]))], []⟩, []⟩
noncomputable def zhp (p0 : zb) (p1 : Int) : (((SL Int) × Int × (SL Int) × Bool) ⊕ Int) → Ex × St := Sum.elim (fun r => (.ret, zhh p0 p1 r)) (fun r => ((.exit 0), zwh p0 p1 r))
theorem zDk (k : Nat) (p0 : zb) (p1 s1_12 : Int) (x : Int ⊕ (((SL Int) × Int × (SL Int) × Bool) ⊕ Int)) (h : zQj k p0 p1 s1_12 = some x) : zM TE 30 (blk TE 30 0) (fun s : Int => zcp p0 p1 s) (zhp p0 p1) s1_12 x := by
 unfold zQj at h
 refine zo h (fun h2301 g1 => ?_) (fun h2301 g1 => ?_)
 ·refine zi g1 (fun v2302 h2303 g2 => ?_)
  refine zo g2 (fun h2304 g3 => ?_) (fun h2304 g3 => ?_)
  ·exact zqo [(30, 8, 0, .q (xb true)), (30, 10, 2, .i (.tup [(dl eI v2302.1.1 v2302.1.2), (db v2302.2)]) ⟨[(2, (.cells ((za p0).map .d))), (3, (.cells [(xi p1)])), (6, (.cells ((za p0).map .d))), (8, (.cells [(xi (w64 ((zq 1 (p0.Slips.1.length : Int)) - 1)))])), (9, (.cells [(.fn 77 [] [(.ptr 0 6 0), (.ptr 0 8 0), (.ptr 0 3 0), (.ptr 0 9 0)])]))], []⟩ []), (30, 11, 0, .q (xb true)), (30, 12, 2, .q (xi (v2302.1.1.length : Int))), (30, 12, 4, .q (xi (v2302.1.1.length : Int))), (30, 12, 5, .q (.d (dl eI v2302.1.1 (ccap v2302.1.2))))] [] g3 (ob (o_b h2301) (ob (zBk k p0 p1 ([], Cap.nil) 0 s1_12 _ h2303) (ob (o_b h2304) (ob (zr eI v2302.1.1) (ob (zr eI v2302.1.1) (ob (zIc (e := eI) (z := 1) v2302.1.1 v2302.1.2) ob0)))))) (by kernel_rfl)
  ·exact zqn (w64 (s1_12 + 1)) [] [(30, 8, 0, .q (xb true)), (30, 10, 2, .i (.tup [(dl eI v2302.1.1 v2302.1.2), (db v2302.2)]) ⟨[(2, (.cells ((za p0).map .d))), (3, (.cells [(xi p1)])), (6, (.cells ((za p0).map .d))), (8, (.cells [(xi (w64 ((zq 1 (p0.Slips.1.length : Int)) - 1)))])), (9, (.cells [(.fn 77 [] [(.ptr 0 6 0), (.ptr 0 8 0), (.ptr 0 3 0), (.ptr 0 9 0)])]))], []⟩ []), (30, 11, 0, .q (xb false))] [] g3 (ob (o_b h2301) (ob (zBk k p0 p1 ([], Cap.nil) 0 s1_12 _ h2303) (ob (o_b h2304) ob0))) (by kernel_rfl)
 ·exact zqo [(30, 8, 0, .q (xb false))] [] g1 (ob (o_b h2301) ob0) (by kernel_rfl)
theorem z2c (k : Nat) (p0 : zb) (p1 : Int) (r : ((SL Int) × Int)) (h : zvm k p0 p1 = some r) : zD TE (ev TE) 30 [(.agg (za p0)), (di p1)] = some (zbg r) := by
 unfold zvm at h
 refine zi h (fun v1 h2 g1 => ?_)
 refine zo g1 (fun h3 g2 => ?_) (fun h3 g2 => ?_)
 ·exact zC (g := zbg) g2 (zqc [(52, 1, 1, .c (di v1)), (52, 2, 1, .q (xb true)), (30, 2, 1, .q (xb true))] [] (ob (zJ k p0 _ h2) (ob (o_b h3) (ob (o_b h3) ob0))) (by kernel_rfl))
 ·refine zi g2 (fun v4 h5 g3 => ?_)
  refine zo g3 (fun h6 g4 => ?_) (fun h6 g4 => ?_)
  ·exact zC (g := zbg) g4 (zqc [(52, 1, 1, .c (di v1)), (52, 2, 1, .q (xb false)), (76, 1, 1, .c (db v4)), (52, 4, 4, .q (xb true))] [] (ob (zJ k p0 _ h2) (ob (o_b h3) (ob (zO k p1 1 5 _ h5) (ob (o_b h6) ob0)))) (by kernel_rfl))
  ·refine zo g4 (fun h7 g5 => ?_) (fun h7 g5 => ?_)
   ·cases g5
   ·refine zi g5 (fun v8 h9 g6 => ?_)
    refine znc g6 (fun v11 hh g7_0 => ?_) (fun v11 hh g7_0 => ?_)
    ·subst hh
     exact zC (g := zbg) g7_0 (zqc [(52, 1, 1, .c (di v1)), (52, 2, 1, .q (xb false)), (76, 1, 1, .c (db v4)), (52, 4, 4, .q (xb false)), (30, 4, 3, .q (xi (p0.Slips.1.length : Int))), (30, 4, 4, .q (xi (zq 1 (p0.Slips.1.length : Int)))), (30, 7, 3, .q (xi (p0.Slips.1.length : Int)))] [(30, 0, (.ret, zhh p0 p1 v11))] (ob (zJ k p0 _ h2) (ob (o_b h3) (ob (zO k p1 1 5 _ h5) (ob (o_b h6) (ob (zr zj p0.Slips.1) (ob (zRb (x := 1) h7) (ob (zr zj p0.Slips.1) (ob (zy (id := 0) (r' := (.ret, zhh p0 p1 v11)) (zed (zDk k p0 p1) k _ _ h9) rfl) ob0)))))))) (by kernel_rfl))
    ·subst hh
     exact zC (g := zbg) g7_0 (zqc [(52, 1, 1, .c (di v1)), (52, 2, 1, .q (xb false)), (76, 1, 1, .c (db v4)), (52, 4, 4, .q (xb false)), (30, 4, 3, .q (xi (p0.Slips.1.length : Int))), (30, 4, 4, .q (xi (zq 1 (p0.Slips.1.length : Int)))), (30, 7, 3, .q (xi (p0.Slips.1.length : Int)))] [(30, 0, (.nor, zwh p0 p1 v11))] (ob (zJ k p0 _ h2) (ob (o_b h3) (ob (zO k p1 1 5 _ h5) (ob (o_b h6) (ob (zr zj p0.Slips.1) (ob (zRb (x := 1) h7) (ob (zr zj p0.Slips.1) (ob (zy (id := 0) (r' := (.nor, zwh p0 p1 v11)) (zed (zDk k p0 p1) k _ _ h9) rfl) ob0)))))))) (by kernel_rfl))
noncomputable def zxw (s1_0 : Int) (p1 : (SL Int)) (s1_5 : Int) : TM := [(0, (xi s1_0)), (1, (.d (dl eI p1.1 p1.2))), (4, (xi 0)), (7, (.d (dl eI p1.1 p1.2))), (8, (xi (p1.1.length : Int))), (9, (xi s1_5))]
noncomputable def zVk (p1 : (SL Int)) (s1_0 s1_5 : Int) : St := ⟨(zxw s1_0 p1 s1_5), ⟨[], []⟩, []⟩
noncomputable def zlw (r : zt8) (p1 : (SL Int)) : TM := [(0, (xi r.1)), (1, (.d (dl eI p1.1 p1.2))), (4, (xi 0)), (7, (.d (dl eI p1.1 p1.2))), (8, (xi (p1.1.length : Int))), (9, (xi r.2)), (10, (xb false))]
noncomputable def zLd (p1 : (SL Int)) (r : zt8) : St := ⟨(zlw r p1), ⟨[], []⟩, []⟩
noncomputable def zRk (p1 : (SL Int)) : (Int × Int) → Ex × St := fun r => ((.exit 0), zLd p1 r)
theorem zok (k : Nat) (p1 : (SL Int)) (s1_0 s1_5 : Int) (x : (Int × Int) ⊕ (Int × Int)) (h : zNe k p1 s1_0 s1_5 = some x) : zM TE 81 (blk TE 81 0) (fun s : (Int × Int) => zVk p1 s.1 s.2) (zRk p1) (s1_0, s1_5) x := by
 unfold zNe at h
 refine zo h (fun h201 g1 => ?_) (fun h201 g1 => ?_)
 ·refine zi g1 (fun v202 h203 g2 => ?_)
  exact zqn ((if v202 > s1_0 then v202 else s1_0), (w64 (s1_5 + 1))) [] [(81, 2, 0, .q (xb true)), (81, 3, 0, .q (.d (.pin [(di v202)])))] [] g2 (ob (o_b h201) (ob (o_ia (e := eI) 1 h203 rfl) ob0)) (by kernel_rfl)
 ·exact zqo [(81, 2, 0, .q (xb false))] [] g1 (ob (o_b h201) ob0) (by kernel_rfl)
theorem zah (k : Nat) (p0 : Int) (p1 : (SL Int)) (r : Int) (h : zre k p0 p1 = some r) : zD TE (ev TE) 81 [(di p0), (dl eI p1.1 p1.2)] = some (zMh r) := by
 unfold zre at h
 refine zi h (fun v1 h2 g1 => ?_)
 exact zC (g := zMh) g1 (zqc [(81, 1, 1, .q (xi (p1.1.length : Int)))] [(81, 0, (.nor, zLd p1 v1))] (ob (zr eI p1.1) (ob (zy (id := 0) (r' := (.nor, zLd p1 v1)) (zrb (zok k p1) k _ _ h2) rfl) ob0)) (by kernel_rfl))
noncomputable def zzu (p0 : zb) (p1 : Int) (v7 : zt11) (v11 : Int) (v13 : zm) : TM := [(0, (.d (.agg (za p0)))), (1, (xi p1)), (zsp 2), (zsp 3), (4, (xi 0)), (5, (xi 0)), (zsp 6), (7, (xi 0)), (24, (xb false)), (9, (xi v7.2.1)), (10, (xb v7.2.2)), (33, (xb false)), (zsp 11), (12, (xi v11)), (13, (xi v13.Until))]
noncomputable def zLk (p0 : zb) (p1 : Int) (v7 : zt11) (v11 : Int) (v13 : zm) : St := ⟨(zzu p0 p1 v7 v11 v13), ⟨[(zc 2 (za p0)), (3, (.cells [(xi p1)])), (6, (.cells [(.d (dl eI p0.Far.1 p0.Far.2)), (xi p0.Step.Low), (xi p0.Step.High), (.d (dl zk p0.Pick.1 p0.Pick.2)), (xi p0.Carry), (.row 0 57 0)])), (11, (.cells [(xi (w64 ((zq 1 (p0.Slips.1.length : Int)) - 1))), (xi v7.2.1)])), (57, .nrow)], []⟩, []⟩
noncomputable def zCg (p0 : zb) (p1 : Int) (v7 : zt11) (v11 : Int) (v13 : zm) (r : Unit) : St := ⟨(zzu p0 p1 v7 v11 v13 ++ [(62, (xb false))]), ⟨[(zc 2 (za p0)), (3, (.cells [(xi p1)])), (6, (.cells [(.d (dl eI p0.Far.1 p0.Far.2)), (xi p0.Step.Low), (xi p0.Step.High), (.d (dl zk p0.Pick.1 p0.Pick.2)), (xi p0.Carry), (.row 0 57 0)])), (11, (.cells [(xi (w64 ((zq 1 (p0.Slips.1.length : Int)) - 1))), (xi v7.2.1)])), (57, .nrow)], []⟩, []⟩
noncomputable def zFk (p0 : zb) (p1 : Int) (v7 : zt11) (v11 : Int) (v13 : zm) : Unit → Ex × St := fun r => ((.exit 0), zCg p0 p1 v7 v11 v13 r)
theorem zVn (k : Nat) (p0 : zb) (p1 : Int) (v7 : zt11) (v11 : Int) (v13 : zm) (x : Unit ⊕ Unit) (h : zrg k p0 p1 v7 v11 v13 = some x) : zM TE 33 (blk TE 33 0) (fun s : Unit => zLk p0 p1 v7 v11 v13) (zFk p0 p1 v7 v11 v13) () x := by
 unfold zrg at h
 refine zo h (fun h201 g1 => ?_) (fun h201 g1 => ?_)
 ·cases g1
 ·exact zqo [(33, 10, 2, .q (xb false))] [] g1 (ob (o_b h201) ob0) (by kernel_rfl)
theorem zrn (k : Nat) (p0 : zb) (p1 : Int) (v7 : zt11) (v11 : Int) (v13 : zm) : ∀ (s : Unit) (x : Unit ⊕ Unit), (fun s => zrg k p0 p1 v7 v11 v13) s = some x → zM TE 33 (blk TE 33 0) (fun s : Unit => zLk p0 p1 v7 v11 v13) (zFk p0 p1 v7 v11 v13) s x := fun s x h => zVn k p0 p1 v7 v11 v13 x h
noncomputable def zIv (p0 : zb) (p1 : Int) (v7 : zt11) (r : (Int × Int × Bool)) (s2_14 s2_15 : Int) (v404 : ((SL (SL Int)) × Bool)) : TM := [(0, (.d (.agg (za p0)))), (1, (xi p1)), (zsp 2), (zsp 3), (4, (xi 0)), (5, (xi 0)), (zsp 6), (7, (xi 0)), (24, (xb false)), (9, (xi v7.2.1)), (10, (xb v7.2.2)), (33, (xb false)), (zsp 11), (12, (xi r.1)), (13, (xi r.2.1)), (62, (xb true)), (14, (xi (w64 ((w64 (s2_14 + s2_15)).tdiv 2)))), (16, (xb v404.2)), (80, (xb r.2.2))]
noncomputable def zzf (p0 : zb) (p1 : Int) (v7 : zt11) (s2_14 s2_15 : Int) (s2_30 : (List zm)) (v402 : zm) (v404 : ((SL (SL Int)) × Bool)) (cb : Bool) (r : (Int × Int × Bool)) : St := ⟨(zIv p0 p1 v7 r s2_14 s2_15 v404), ⟨[(zc 2 (za p0)), (3, (.cells [(xi p1)])), (6, (.cells [(.d (dl eI p0.Far.1 p0.Far.2)), (xi p0.Step.Low), (xi p0.Step.High), (.d (dl zk p0.Pick.1 p0.Pick.2)), (xi p0.Carry), (.row 0 57 (s2_30.set p1.toNat (⟨v402.Lines, (w64 ((w64 (s2_14 + s2_15)).tdiv 2))⟩ : zm)).length)])), (11, (.cells [(xi (w64 ((zq 1 (p0.Slips.1.length : Int)) - 1))), (xi v7.2.1)])), (57, (rowO false 2 zj (s2_30.set p1.toNat (⟨v402.Lines, (w64 ((w64 (s2_14 + s2_15)).tdiv 2))⟩ : zm)) true))], []⟩, []⟩
noncomputable def z6v (p0 : zb) (p1 : Int) (v7 : zt11) (s2_14 s2_15 : Int) (v404 : ((SL (SL Int)) × Bool)) (cb : Bool) : TM := [(0, (.d (.agg (za p0)))), (1, (xi p1)), (zsp 2), (zsp 3), (4, (xi 0)), (5, (xi 0)), (zsp 6), (7, (xi 0)), (24, (xb false)), (9, (xi v7.2.1)), (10, (xb v7.2.2)), (33, (xb false)), (zsp 11), (12, (xi s2_14)), (13, (xi s2_15)), (62, (xb true)), (14, (xi (w64 ((w64 (s2_14 + s2_15)).tdiv 2)))), (16, (xb v404.2)), (80, (xb cb))]
theorem zDn (k : Nat) (p0 : zb) (p1 : Int) (v7 : zt11) (s2_14 s2_15 : Int) (s2_30 : (List zm)) (v402 : zm) (v404 : ((SL (SL Int)) × Bool)) (cb : Bool) (r : (Int × Int × Bool)) (h : zui k p0 p1 v7 s2_14 s2_15 s2_30 v402 v404 cb = some r) : ev TE 33 (cnd TE 33 80) ⟨(z6v p0 p1 v7 s2_14 s2_15 v404 cb), ⟨[(zc 2 (za p0)), (3, (.cells [(xi p1)])), (6, (.cells [(.d (dl eI p0.Far.1 p0.Far.2)), (xi p0.Step.Low), (xi p0.Step.High), (.d (dl zk p0.Pick.1 p0.Pick.2)), (xi p0.Carry), (.row 0 57 (s2_30.set p1.toNat (⟨v402.Lines, (w64 ((w64 (s2_14 + s2_15)).tdiv 2))⟩ : zm)).length)])), (11, (.cells [(xi (w64 ((zq 1 (p0.Slips.1.length : Int)) - 1))), (xi v7.2.1)])), (57, (rowO false 2 zj (s2_30.set p1.toNat (⟨v402.Lines, (w64 ((w64 (s2_14 + s2_15)).tdiv 2))⟩ : zm)) true))], []⟩, []⟩ = some (.nor, zzf p0 p1 v7 s2_14 s2_15 s2_30 v402 v404 cb r) := by
 unfold zui at h
 refine zo h (fun h501 g1 => ?_) (fun h501 g1 => ?_)
 ·subst h501
  exact zB (g := fun r => (Ex.nor, zzf p0 p1 v7 s2_14 s2_15 s2_30 v402 v404 true r)) g1 (zqe [] [] ob0 (by kernel_rfl))
 ·subst h501
  exact zB (g := fun r => (Ex.nor, zzf p0 p1 v7 s2_14 s2_15 s2_30 v402 v404 false r)) g1 (zqe [] [] ob0 (by kernel_rfl))
noncomputable def z5v (p0 : zb) (p1 : Int) (v7 : zt11) (s2_14 s2_15 : Int) : TM := [(0, (.d (.agg (za p0)))), (1, (xi p1)), (zsp 2), (zsp 3), (4, (xi 0)), (5, (xi 0)), (zsp 6), (7, (xi 0)), (24, (xb false)), (9, (xi v7.2.1)), (10, (xb v7.2.2)), (33, (xb false)), (zsp 11), (12, (xi s2_14)), (13, (xi s2_15))]
noncomputable def zEo (p0 : zb) (p1 : Int) (v7 : zt11) (s2_14 s2_15 : Int) (s2_30 : (List zm)) : St := ⟨(z5v p0 p1 v7 s2_14 s2_15), ⟨[(zc 2 (za p0)), (3, (.cells [(xi p1)])), (6, (.cells [(.d (dl eI p0.Far.1 p0.Far.2)), (xi p0.Step.Low), (xi p0.Step.High), (.d (dl zk p0.Pick.1 p0.Pick.2)), (xi p0.Carry), (.row 0 57 s2_30.length)])), (11, (.cells [(xi (w64 ((zq 1 (p0.Slips.1.length : Int)) - 1))), (xi v7.2.1)])), (57, (rowO false 2 zj s2_30 true))], []⟩, []⟩
noncomputable def z7v (p0 : zb) (p1 : Int) (v7 : zt11) (r : (Int × Int × (List zm))) : TM := [(0, (.d (.agg (za p0)))), (1, (xi p1)), (zsp 2), (zsp 3), (4, (xi 0)), (5, (xi 0)), (zsp 6), (7, (xi 0)), (24, (xb false)), (9, (xi v7.2.1)), (10, (xb v7.2.2)), (33, (xb false)), (zsp 11), (12, (xi r.1)), (13, (xi r.2.1)), (62, (xb false))]
noncomputable def zGg (p0 : zb) (p1 : Int) (v7 : zt11) (r : (Int × Int × (List zm))) : St := ⟨(z7v p0 p1 v7 r), ⟨[(zc 2 (za p0)), (3, (.cells [(xi p1)])), (6, (.cells [(.d (dl eI p0.Far.1 p0.Far.2)), (xi p0.Step.Low), (xi p0.Step.High), (.d (dl zk p0.Pick.1 p0.Pick.2)), (xi p0.Carry), (.row 0 57 r.2.2.length)])), (11, (.cells [(xi (w64 ((zq 1 (p0.Slips.1.length : Int)) - 1))), (xi v7.2.1)])), (57, (rowO false 2 zj r.2.2 true))], []⟩, []⟩
noncomputable def zno (p0 : zb) (p1 : Int) (v7 : zt11) : (Int × Int × (List zm)) → Ex × St := fun r => ((.exit 0), zGg p0 p1 v7 r)
theorem zxn (k : Nat) (p0 : zb) (p1 : Int) (v7 : zt11) (s2_14 s2_15 : Int) (s2_30 : (List zm)) (x : (Int × Int × (List zm)) ⊕ (Int × Int × (List zm))) (h : zCi k p0 p1 v7 s2_14 s2_15 s2_30 = some x) : zM TE 33 (blk TE 33 0) (fun s : (Int × Int × (List zm)) => zEo p0 p1 v7 s.1 s.2.1 s.2.2) (zno p0 p1 v7) (s2_14, s2_15, s2_30) x := by
 unfold zCi at h
 refine zo h (fun h401 g1 => ?_) (fun h401 g1 => ?_)
 ·refine zi g1 (fun v402 h403 g2 => ?_)
  refine zi g2 (fun v404 h405 g3 => ?_)
  refine zi g3 (fun v406 h407 g4 => ?_)
  exact zqn (v406.1, v406.2.1, (s2_30.set p1.toNat (⟨v402.Lines, (w64 ((w64 (s2_14 + s2_15)).tdiv 2))⟩ : zm))) [57] [(33, 10, 2, .q (xb true)), (33, 12, 5, .q (.rp 0 57 s2_30.length p1.toNat 0)), (33, 12, 6, .q (.rp 0 57 s2_30.length p1.toNat 1)), (33, 12, 7, .rs (rowO false 2 zj (s2_30.set p1.toNat (⟨v402.Lines, (w64 ((w64 (s2_14 + s2_15)).tdiv 2))⟩ : zm)) true)), (33, 12, 999, .nm [] [(6, 5, (s2_30.set p1.toNat (⟨v402.Lines, (w64 ((w64 (s2_14 + s2_15)).tdiv 2))⟩ : zm)).length)]), (33, 13, 2, .cr [((dl zj (s2_30.set p1.toNat (⟨v402.Lines, (w64 ((w64 (s2_14 + s2_15)).tdiv 2))⟩ : zm)) (rcap false (s2_30.set p1.toNat (⟨v402.Lines, (w64 ((w64 (s2_14 + s2_15)).tdiv 2))⟩ : zm)))), (rowO false 2 zj (s2_30.set p1.toNat (⟨v402.Lines, (w64 ((w64 (s2_14 + s2_15)).tdiv 2))⟩ : zm)) false))] (.tup [(dl (eL eI) v404.1.1 v404.1.2), (db v404.2)]))] [(33, 2000080, (.nor, zzf p0 p1 v7 s2_14 s2_15 s2_30 v402 v404 v404.2 v406))] g4 (ob (o_b h401) (ob (zqa 26 32 0 57 p1 false 2 zj s2_30 true (by kernel_rfl) (by kernel_rfl) h403) (ob (zqf 52 (1, 1, false) 0 57 0 1 p1 false 2 zj s2_30 true (by kernel_rfl) (by decide) h403) (ob (o_rs (b := false) (z := 2) (e := zj) (l := s2_30) (o := 1) (n := 1) (ds := [(di (w64 ((w64 (s2_14 + s2_15)).tdiv 2)))]) (i := p1) (y' := (⟨v402.Lines, (w64 ((w64 (s2_14 + s2_15)).tdiv 2))⟩ : zm)) h403 (Nat.le_of_ble_eq_true rfl) rfl) (ob (show s2_30.length = (s2_30.set p1.toNat (⟨v402.Lines, (w64 ((w64 (s2_14 + s2_15)).tdiv 2))⟩ : zm)).length by simp) (ob (o_cr false 2 zj (s2_30.set p1.toNat (⟨v402.Lines, (w64 ((w64 (s2_14 + s2_15)).tdiv 2))⟩ : zm)) true 0 57) (ob (zV k (⟨(⟨p0.Far, p0.Step, p0.Pick, p0.Carry, ((s2_30.set p1.toNat (⟨v402.Lines, (w64 ((w64 (s2_14 + s2_15)).tdiv 2))⟩ : zm)), (rcap false (s2_30.set p1.toNat (⟨v402.Lines, (w64 ((w64 (s2_14 + s2_15)).tdiv 2))⟩ : zm))))⟩ : zb)⟩ : zd) (⟨(w64 ((zq 1 (p0.Slips.1.length : Int)) - 1)), v7.2.1⟩ : zt) _ h405) (ob (zDn k p0 p1 v7 s2_14 s2_15 s2_30 v402 v404 v404.2 _ h407) (ob (zVf false 2 zj (s2_30.set p1.toNat (⟨v402.Lines, (w64 ((w64 (s2_14 + s2_15)).tdiv 2))⟩ : zm)) true) ob0))))))))) (by kernel_rfl)
 ·exact zqo [(33, 10, 2, .q (xb false))] [] g1 (ob (o_b h401) ob0) (by kernel_rfl)
theorem zFc (k : Nat) (p0 : zb) (p1 : Int) (r : zt8) (h : zUl k p0 p1 = some r) : zD TE (ev TE) 33 [(.agg (za p0)), (di p1)] = some (zte r) := by
 unfold zUl at h
 refine zi h (fun v1 h2 g1 => ?_)
 refine zo g1 (fun h3 g2 => ?_) (fun h3 g2 => ?_)
 ·exact zC (g := zte) g2 (zqc [(52, 1, 1, .c (di v1)), (52, 2, 1, .q (xb true)), (33, 2, 1, .q (xb true))] [] (ob (zJ k p0 _ h2) (ob (o_b h3) (ob (o_b h3) ob0))) (by kernel_rfl))
 ·refine zi g2 (fun v4 h5 g3 => ?_)
  refine zo g3 (fun h6 g4 => ?_) (fun h6 g4 => ?_)
  ·exact zC (g := zte) g4 (zqc [(52, 1, 1, .c (di v1)), (52, 2, 1, .q (xb false)), (79, 1, 2, .c (db v4)), (52, 4, 4, .q (xb true))] [] (ob (zJ k p0 _ h2) (ob (o_b h3) (ob (zQ k (⟨p0⟩ : zd) p1 _ h5) (ob (o_b h6) ob0)))) (by kernel_rfl))
  ·refine zi g4 (fun v7 h8 g5 => ?_)
   refine zo g5 (fun h9 g6 => ?_) (fun h9 g6 => ?_)
   ·exact zC (g := zte) g6 (zqc [(52, 1, 1, .c (di v1)), (52, 2, 1, .q (xb false)), (79, 1, 2, .c (db v4)), (52, 4, 4, .q (xb false)), (33, 4, 1, .c (.tup [(dl (eL eI) v7.1.1 v7.1.2), (di v7.2.1), (db v7.2.2)])), (33, 5, 1, .q (xb true))] [] (ob (zJ k p0 _ h2) (ob (o_b h3) (ob (zQ k (⟨p0⟩ : zd) p1 _ h5) (ob (o_b h6) (ob (zyc k (⟨p0⟩ : zd) _ h8) (ob (o_b h9) ob0)))))) (by kernel_rfl))
   ·refine zo g6 (fun h10 g7 => ?_) (fun h10 g7 => ?_)
    ·cases g7
    ·refine zi g7 (fun v11 h12 g8 => ?_)
     refine zi g8 (fun v13 h14 g9 => ?_)
     refine zo g9 (fun h15 g10 => ?_) (fun h15 g10 => ?_)
     ·refine zi g10 (fun v16 h17 g11 => ?_)
      refine zi g11 (fun v18 h19 g12 => ?_)
      exact zC (g := zte) g12 (zqc [(52, 1, 1, .c (di v1)), (52, 2, 1, .q (xb false)), (79, 1, 2, .c (db v4)), (52, 4, 4, .q (xb false)), (33, 4, 1, .c (.tup [(dl (eL eI) v7.1.1 v7.1.2), (di v7.2.1), (db v7.2.2)])), (33, 5, 1, .q (xb false)), (33, 7, 3, .q (xi (p0.Slips.1.length : Int))), (33, 7, 4, .q (xi (zq 1 (p0.Slips.1.length : Int)))), (33, 8, 4, .c (di v11)), (33, 8, 9, .q (.d (.pin [(dl zh v13.Lines.1 v13.Lines.2), (di v13.Until)]))), (80, 1, 1, .q (xb true)), (33, 17, 2, .c (di v18))] [(33, 0, (.nor, zCg p0 p1 v7 v11 v13 v16))] (ob (zJ k p0 _ h2) (ob (o_b h3) (ob (zQ k (⟨p0⟩ : zd) p1 _ h5) (ob (o_b h6) (ob (zyc k (⟨p0⟩ : zd) _ h8) (ob (o_b h9) (ob (zr zj p0.Slips.1) (ob (zRb (x := 1) h10) (ob (zUc k (⟨p0⟩ : zd) p1 _ h12) (ob (o_ia (e := zj) 2 h14 rfl) (ob (o_b h15) (ob (zy (id := 0) (r' := (.nor, zCg p0 p1 v7 v11 v13 v16)) (zef (zrn k p0 p1 v7 v11 v13) k _ _ h17) rfl) (ob (zah k v11 ([0], .ex) _ h19) ob0))))))))))))) (by kernel_rfl))
     ·refine z6 g10 (fun h16 g11 => ?_)
      refine zi g11 (fun v17 h18 g12 => ?_)
      refine zi g12 (fun v19 h20 g13 => ?_)
      exact zC (g := zte) g13 (zqc [(52, 1, 1, .c (di v1)), (52, 2, 1, .q (xb false)), (79, 1, 2, .c (db v4)), (52, 4, 4, .q (xb false)), (33, 4, 1, .c (.tup [(dl (eL eI) v7.1.1 v7.1.2), (di v7.2.1), (db v7.2.2)])), (33, 5, 1, .q (xb false)), (33, 7, 3, .q (xi (p0.Slips.1.length : Int))), (33, 7, 4, .q (xi (zq 1 (p0.Slips.1.length : Int)))), (33, 8, 4, .c (di v11)), (33, 8, 9, .q (.d (.pin [(dl zh v13.Lines.1 v13.Lines.2), (di v13.Until)]))), (80, 1, 1, .q (xb false)), (80, 3, 2, .ns (p0.Slips.1.map zj) p0.Slips.1.length), (33, 17, 2, .c (di v19))] [(33, 0, (.nor, zGg p0 p1 v7 v17))] (ob (zJ k p0 _ h2) (ob (o_b h3) (ob (zQ k (⟨p0⟩ : zd) p1 _ h5) (ob (o_b h6) (ob (zyc k (⟨p0⟩ : zd) _ h8) (ob (o_b h9) (ob (zr zj p0.Slips.1) (ob (zRb (x := 1) h10) (ob (zUc k (⟨p0⟩ : zd) p1 _ h12) (ob (o_ia (e := zj) 2 h14 rfl) (ob (o_b h15) (ob (zsw p0.Slips.1 zj) (ob (o_ns (P := TE.P) (φ := fun _ _ => none) (T := 26) (q := (2, [(.sl [] .nil), (di 0)])) (c := p0.Slips.2) (e := zj) p0.Slips.1 (by kernel_rfl) (fun _ => rfl) h16) (ob (rfl : (([] : List (List D)).isEmpty || !(p0.Slips.1.map zj).isEmpty) = true) (ob (o_rh false 2 zj p0.Slips.1) (ob (zy (id := 0) (r' := (.nor, zGg p0 p1 v7 v17)) (zxh (zxn k p0 p1 v7) k _ _ h18) rfl) (ob (zah k v17.1 ([0], .ex) _ h20) ob0))))))))))))))))) (by kernel_rfl))
noncomputable def zLv (p0 p1 : (SL zp)) (s1_3 : Bool) (s1_4 : Int) (r : Bool) : TM := [(0, (.d (dl zk p0.1 p0.2))), (1, (.d (dl zk p1.1 p1.2))), (4, (xb false)), (5, (xb s1_3)), (6, (xi s1_4)), (18, (xb r))]
noncomputable def zDb (p0 p1 : (SL zp)) (s1_3 : Bool) (s1_4 : Int) (r : Bool) : St := ⟨(zLv p0 p1 s1_3 s1_4 r), ⟨[], []⟩, []⟩
noncomputable def ztu (p0 p1 : (SL zp)) (s1_3 : Bool) (s1_4 : Int) : TM := [(0, (.d (dl zk p0.1 p0.2))), (1, (.d (dl zk p1.1 p1.2))), (4, (xb false)), (5, (xb s1_3)), (6, (xi s1_4))]
theorem z8d (k : Nat) (p0 p1 : (SL zp)) (s1_3 : Bool) (s1_4 : Int) (r : Bool) (h : z0c k p0 p1 s1_3 s1_4 = some r) : ev TE 27 (rgn TE 27 3) ⟨(ztu p0 p1 s1_3 s1_4), ⟨[], []⟩, []⟩ = some (.nor, zDb p0 p1 s1_3 s1_4 r) := by
 unfold z0c at h
 refine zo h (fun h401 g1 => ?_) (fun h401 g1 => ?_)
 ·exact zB (g := fun r => (Ex.nor, zDb p0 p1 s1_3 s1_4 r)) g1 (zqe [(27, 3, 1, .q (xb true)), (27, 3, 4, .q (xi (p0.1.length : Int)))] [] (ob (o_b h401) (ob (zr zk p0.1) ob0)) (by kernel_rfl))
 ·exact zB (g := fun r => (Ex.nor, zDb p0 p1 s1_3 s1_4 r)) g1 (zqe [(27, 3, 1, .q (xb false))] [] (ob (o_b h401) ob0) (by kernel_rfl))
noncomputable def zJh (p0 p1 : (SL zp)) (s1_3 : Bool) (s1_4 : Int) : St := ⟨(ztu p0 p1 s1_3 s1_4), ⟨[], []⟩, []⟩
noncomputable def zGw (p0 p1 : (SL zp)) (r : zt3) : TM := [(0, (.d (dl zk p0.1 p0.2))), (1, (.d (dl zk p1.1 p1.2))), (4, (xb false)), (5, (xb r.1)), (6, (xi r.2)), (18, (xb false))]
noncomputable def zxc (p0 p1 : (SL zp)) (r : zt3) : St := ⟨(zGw p0 p1 r), ⟨[], []⟩, []⟩
noncomputable def zKh (p0 p1 : (SL zp)) : (Bool × Int) → Ex × St := fun r => ((.exit 0), zxc p0 p1 r)
theorem z6g (k : Nat) (p0 p1 : (SL zp)) (s1_3 : Bool) (s1_4 : Int) (x : (Bool × Int) ⊕ (Bool × Int)) (h : zZc k p0 p1 s1_3 s1_4 = some x) : zM TE 27 (blk TE 27 0) (fun s : (Bool × Int) => zJh p0 p1 s.1 s.2) (zKh p0 p1) (s1_3, s1_4) x := by
 unfold zZc at h
 refine zi h (fun v301 h302 g1 => ?_)
 refine zo g1 (fun h303 g2 => ?_) (fun h303 g2 => ?_)
 ·subst h303
  refine zi g2 (fun v304 h305 g3 => ?_)
  refine zi g3 (fun v306 h307 g4 => ?_)
  exact zqn (((v304.Low == v306.Low) && ((v304.High == v306.High) && true)), (w64 (s1_4 + 1))) [] [(27, 5, 2, .q (.d (.pin [(di v304.Low), (di v304.High)]))), (27, 5, 6, .q (.d (.pin [(di v306.Low), (di v306.High)])))] [(27, 1000003, (.nor, zDb p0 p1 s1_3 s1_4 true))] g4 (ob (z8d k p0 p1 s1_3 s1_4 _ h302) (ob (o_ia (e := zk) 2 h305 rfl) (ob (o_ia (e := zk) 2 h307 rfl) ob0))) (by kernel_rfl)
 ·subst h303
  exact zqo [] [(27, 1000003, (.nor, zDb p0 p1 s1_3 s1_4 false))] g2 (ob (z8d k p0 p1 s1_3 s1_4 _ h302) ob0) (by kernel_rfl)
theorem z5b (k : Nat) (p0 p1 : (SL zp)) (r : Bool) (h : zAd k p0 p1 = some r) : zD TE (ev TE) 27 [(dl zk p0.1 p0.2), (dl zk p1.1 p1.2)] = some (zbf r) := by
 unfold zAd at h
 refine zi h (fun v1 h2 g1 => ?_)
 exact zC (g := zbf) g1 (zqc [(27, 1, 1, .q (xi (p0.1.length : Int))), (27, 1, 3, .q (xi (p1.1.length : Int)))] [(27, 0, (.nor, zxc p0 p1 v1))] (ob (zr zk p0.1) (ob (zr zk p1.1) (ob (zy (id := 0) (r' := (.nor, zxc p0 p1 v1)) (zrb (z6g k p0 p1) k _ _ h2) rfl) ob0))) (by kernel_rfl))
noncomputable def zow (p0 p1 : (SL Int)) (s1_3 : Bool) (s1_4 : Int) (r : Bool) : TM := [(0, (.d (dl eI p0.1 p0.2))), (1, (.d (dl eI p1.1 p1.2))), (4, (xb false)), (5, (xb s1_3)), (6, (xi s1_4)), (18, (xb r))]
noncomputable def zTb (p0 p1 : (SL Int)) (s1_3 : Bool) (s1_4 : Int) (r : Bool) : St := ⟨(zow p0 p1 s1_3 s1_4 r), ⟨[], []⟩, []⟩
noncomputable def zAu (p0 p1 : (SL Int)) (s1_3 : Bool) (s1_4 : Int) : TM := [(0, (.d (dl eI p0.1 p0.2))), (1, (.d (dl eI p1.1 p1.2))), (4, (xb false)), (5, (xb s1_3)), (6, (xi s1_4))]
theorem zpf (k : Nat) (p0 p1 : (SL Int)) (s1_3 : Bool) (s1_4 : Int) (r : Bool) (h : zie k p0 p1 s1_3 s1_4 = some r) : ev TE 32 (rgn TE 32 3) ⟨(zAu p0 p1 s1_3 s1_4), ⟨[], []⟩, []⟩ = some (.nor, zTb p0 p1 s1_3 s1_4 r) := by
 unfold zie at h
 refine zo h (fun h401 g1 => ?_) (fun h401 g1 => ?_)
 ·exact zB (g := fun r => (Ex.nor, zTb p0 p1 s1_3 s1_4 r)) g1 (zqe [(32, 3, 1, .q (xb true)), (32, 3, 4, .q (xi (p0.1.length : Int)))] [] (ob (o_b h401) (ob (zr eI p0.1) ob0)) (by kernel_rfl))
 ·exact zB (g := fun r => (Ex.nor, zTb p0 p1 s1_3 s1_4 r)) g1 (zqe [(32, 3, 1, .q (xb false))] [] (ob (o_b h401) ob0) (by kernel_rfl))
noncomputable def zVj (p0 p1 : (SL Int)) (s1_3 : Bool) (s1_4 : Int) : St := ⟨(zAu p0 p1 s1_3 s1_4), ⟨[], []⟩, []⟩
noncomputable def z1v (p0 p1 : (SL Int)) (r : zt3) : TM := [(0, (.d (dl eI p0.1 p0.2))), (1, (.d (dl eI p1.1 p1.2))), (4, (xb false)), (5, (xb r.1)), (6, (xi r.2)), (18, (xb false))]
noncomputable def zcd (p0 p1 : (SL Int)) (r : zt3) : St := ⟨(z1v p0 p1 r), ⟨[], []⟩, []⟩
noncomputable def zXj (p0 p1 : (SL Int)) : (Bool × Int) → Ex × St := fun r => ((.exit 0), zcd p0 p1 r)
theorem zaj (k : Nat) (p0 p1 : (SL Int)) (s1_3 : Bool) (s1_4 : Int) (x : (Bool × Int) ⊕ (Bool × Int)) (h : zke k p0 p1 s1_3 s1_4 = some x) : zM TE 32 (blk TE 32 0) (fun s : (Bool × Int) => zVj p0 p1 s.1 s.2) (zXj p0 p1) (s1_3, s1_4) x := by
 unfold zke at h
 refine zi h (fun v301 h302 g1 => ?_)
 refine zo g1 (fun h303 g2 => ?_) (fun h303 g2 => ?_)
 ·subst h303
  refine zi g2 (fun v304 h305 g3 => ?_)
  refine zi g3 (fun v306 h307 g4 => ?_)
  exact zqn ((v304 == v306), (w64 (s1_4 + 1))) [] [(32, 5, 2, .q (.d (.pin [(di v304)]))), (32, 5, 6, .q (.d (.pin [(di v306)])))] [(32, 1000003, (.nor, zTb p0 p1 s1_3 s1_4 true))] g4 (ob (zpf k p0 p1 s1_3 s1_4 _ h302) (ob (o_ia (e := eI) 1 h305 rfl) (ob (o_ia (e := eI) 1 h307 rfl) ob0))) (by kernel_rfl)
 ·subst h303
  exact zqo [] [(32, 1000003, (.nor, zTb p0 p1 s1_3 s1_4 false))] g2 (ob (zpf k p0 p1 s1_3 s1_4 _ h302) ob0) (by kernel_rfl)
theorem zeg (k : Nat) (p0 p1 : (SL Int)) (r : Bool) (h : znf k p0 p1 = some r) : zD TE (ev TE) 32 [(dl eI p0.1 p0.2), (dl eI p1.1 p1.2)] = some (zVg r) := by
 unfold znf at h
 refine zi h (fun v1 h2 g1 => ?_)
 exact zC (g := zVg) g1 (zqc [(32, 1, 1, .q (xi (p0.1.length : Int))), (32, 1, 3, .q (xi (p1.1.length : Int)))] [(32, 0, (.nor, zcd p0 p1 v1))] (ob (zr eI p0.1) (ob (zr eI p1.1) (ob (zy (id := 0) (r' := (.nor, zcd p0 p1 v1)) (zrb (zaj k p0 p1) k _ _ h2) rfl) ob0))) (by kernel_rfl))
noncomputable def zPv (v3 : zt8) (v7 : zt7) (v11 : ((SL (SL zl)) × Int)) (v21 : zt3) (r : Bool) : TM := [(0, (xb false)), (1, (xi v3.1)), (2, (xi v3.2)), (zsp 3), (4, (xi v7.2)), (5, (.d (dl (eL zh) v11.1.1 v11.1.2))), (6, (xi v11.2)), (7, (xb v21.1)), (8, (xi v21.2)), (86, (xb r))]
noncomputable def zG (v3 : zt8) (v7 : zt7) (v11 : ((SL (SL zl)) × Int)) (v21 : zt3) (r : Bool) : St := ⟨(zPv v3 v7 v11 v21 r), ⟨[(3, (.cells [(xi v7.1.Low), (xi v7.1.High)]))], []⟩, []⟩
noncomputable def zmw (v3 : zt8) (v7 : zt7) (v11 : ((SL (SL zl)) × Int)) (v21 : zt3) : TM := [(0, (xb false)), (1, (xi v3.1)), (2, (xi v3.2)), (zsp 3), (4, (xi v7.2)), (5, (.d (dl (eL zh) v11.1.1 v11.1.2))), (6, (xi v11.2)), (7, (xb v21.1)), (8, (xi v21.2))]
theorem zbb (k : Nat) (v3 : zt8) (v7 : zt7) (v11 : ((SL (SL zl)) × Int)) (v21 : zt3) (r : Bool) (h : zle k v3 v7 v11 v21 = some r) : ev TE 23 (rgn TE 23 5) ⟨(zmw v3 v7 v11 v21), ⟨[(3, (.cells [(xi v7.1.Low), (xi v7.1.High)]))], []⟩, []⟩ = some (.nor, zG v3 v7 v11 v21 r) := by
 unfold zle at h
 refine zo h (fun h201 g1 => ?_) (fun h201 g1 => ?_)
 ·exact zB (g := fun r => (Ex.nor, zG v3 v7 v11 v21 r)) g1 (zqe [(23, 5, 2, .q (xb true))] [] (ob (o_b h201) ob0) (by kernel_rfl))
 ·refine zo g1 (fun h202 g2 => ?_) (fun h202 g2 => ?_)
  ·exact zB (g := fun r => (Ex.nor, zG v3 v7 v11 v21 r)) g2 (zqe [(23, 5, 2, .q (xb false)), (23, 5, 6, .q (xb true))] [] (ob (o_b h201) (ob (o_b h202) ob0)) (by kernel_rfl))
  ·refine zo g2 (fun h203 g3 => ?_) (fun h203 g3 => ?_)
   ·exact zB (g := fun r => (Ex.nor, zG v3 v7 v11 v21 r)) g3 (zqe [(23, 5, 2, .q (xb false)), (23, 5, 6, .q (xb false)), (23, 5, 10, .q (xb true))] [] (ob (o_b h201) (ob (o_b h202) (ob (o_b h203) ob0))) (by kernel_rfl))
   ·refine zo g3 (fun h204 g4 => ?_) (fun h204 g4 => ?_)
    ·exact zB (g := fun r => (Ex.nor, zG v3 v7 v11 v21 r)) g4 (zqe [(23, 5, 2, .q (xb false)), (23, 5, 6, .q (xb false)), (23, 5, 10, .q (xb false)), (23, 5, 14, .q (xb true))] [] (ob (o_b h201) (ob (o_b h202) (ob (o_b h203) (ob (o_b h204) ob0)))) (by kernel_rfl))
    ·refine zo g4 (fun h205 g5 => ?_) (fun h205 g5 => ?_)
     ·exact zB (g := fun r => (Ex.nor, zG v3 v7 v11 v21 r)) g5 (zqe [(23, 5, 2, .q (xb false)), (23, 5, 6, .q (xb false)), (23, 5, 10, .q (xb false)), (23, 5, 14, .q (xb false)), (23, 5, 18, .q (xb true))] [] (ob (o_b h201) (ob (o_b h202) (ob (o_b h203) (ob (o_b h204) (ob (o_b h205) ob0))))) (by kernel_rfl))
     ·refine zi g5 (fun v206 h207 g6 => ?_)
      refine zo g6 (fun h208 g7 => ?_) (fun h208 g7 => ?_)
      ·exact zB (g := fun r => (Ex.nor, zG v3 v7 v11 v21 r)) g7 (zqe [(23, 5, 2, .q (xb false)), (23, 5, 6, .q (xb false)), (23, 5, 10, .q (xb false)), (23, 5, 14, .q (xb false)), (23, 5, 18, .q (xb false)), (23, 5, 20, .c (.agg [(di v206.Low), (di v206.High)])), (23, 5, 23, .q (xb true))] [] (ob (o_b h201) (ob (o_b h202) (ob (o_b h203) (ob (o_b h204) (ob (o_b h205) (ob (zw k 140 252 _ h207) (ob (o_b h208) ob0))))))) (by kernel_rfl))
      ·refine zo g7 (fun h209 g8 => ?_) (fun h209 g8 => ?_)
       ·exact zB (g := fun r => (Ex.nor, zG v3 v7 v11 v21 r)) g8 (zqe [(23, 5, 2, .q (xb false)), (23, 5, 6, .q (xb false)), (23, 5, 10, .q (xb false)), (23, 5, 14, .q (xb false)), (23, 5, 18, .q (xb false)), (23, 5, 20, .c (.agg [(di v206.Low), (di v206.High)])), (23, 5, 23, .q (xb false)), (23, 5, 25, .q (xi (v11.1.1.length : Int))), (23, 5, 28, .q (xb true))] [] (ob (o_b h201) (ob (o_b h202) (ob (o_b h203) (ob (o_b h204) (ob (o_b h205) (ob (zw k 140 252 _ h207) (ob (o_b h208) (ob (zr (eL zh) v11.1.1) (ob (o_b h209) ob0))))))))) (by kernel_rfl))
       ·refine zi g8 (fun v210 h211 g9 => ?_)
        refine zo g9 (fun h212 g10 => ?_) (fun h212 g10 => ?_)
        ·exact zB (g := fun r => (Ex.nor, zG v3 v7 v11 v21 r)) g10 (zqe [(23, 5, 2, .q (xb false)), (23, 5, 6, .q (xb false)), (23, 5, 10, .q (xb false)), (23, 5, 14, .q (xb false)), (23, 5, 18, .q (xb false)), (23, 5, 20, .c (.agg [(di v206.Low), (di v206.High)])), (23, 5, 23, .q (xb false)), (23, 5, 25, .q (xi (v11.1.1.length : Int))), (23, 5, 28, .q (xb false)), (23, 5, 30, .q (.d (.pin [(dl zh v210.1 v210.2)]))), (23, 5, 32, .q (xi (v210.1.length : Int))), (23, 5, 35, .q (xb true))] [] (ob (o_b h201) (ob (o_b h202) (ob (o_b h203) (ob (o_b h204) (ob (o_b h205) (ob (zw k 140 252 _ h207) (ob (o_b h208) (ob (zr (eL zh) v11.1.1) (ob (o_b h209) (ob (o_ia (e := (eL zh)) 1 h211 rfl) (ob (zr zh v210.1) (ob (o_b h212) ob0)))))))))))) (by kernel_rfl))
        ·refine zi g10 (fun v213 h214 g11 => ?_)
         refine zi g11 (fun v215 h216 g12 => ?_)
         refine zi g12 (fun v217 h218 g13 => ?_)
         refine zo g13 (fun h219 g14 => ?_) (fun h219 g14 => ?_)
         ·exact zB (g := fun r => (Ex.nor, zG v3 v7 v11 v21 r)) g14 (zqe [(23, 5, 2, .q (xb false)), (23, 5, 6, .q (xb false)), (23, 5, 10, .q (xb false)), (23, 5, 14, .q (xb false)), (23, 5, 18, .q (xb false)), (23, 5, 20, .c (.agg [(di v206.Low), (di v206.High)])), (23, 5, 23, .q (xb false)), (23, 5, 25, .q (xi (v11.1.1.length : Int))), (23, 5, 28, .q (xb false)), (23, 5, 30, .q (.d (.pin [(dl zh v210.1 v210.2)]))), (23, 5, 32, .q (xi (v210.1.length : Int))), (23, 5, 35, .q (xb false)), (23, 5, 37, .q (.d (.pin [(dl zh v213.1 v213.2)]))), (23, 5, 39, .q (.d (.pin [(di v215.Shelf), (di v215.Many)]))), (23, 5, 41, .c (.agg [(di v217.Shelf), (di v217.Many)])), (23, 5, 44, .q (xb true))] [] (ob (o_b h201) (ob (o_b h202) (ob (o_b h203) (ob (o_b h204) (ob (o_b h205) (ob (zw k 140 252 _ h207) (ob (o_b h208) (ob (zr (eL zh) v11.1.1) (ob (o_b h209) (ob (o_ia (e := (eL zh)) 1 h211 rfl) (ob (zr zh v210.1) (ob (o_b h212) (ob (o_ia (e := (eL zh)) 1 h214 rfl) (ob (o_ia (e := zh) 2 h216 rfl) (ob (zA k 0 1 _ h218) (ob (o_b h219) ob0)))))))))))))))) (by kernel_rfl))
         ·exact zB (g := fun r => (Ex.nor, zG v3 v7 v11 v21 r)) g14 (zqe [(23, 5, 2, .q (xb false)), (23, 5, 6, .q (xb false)), (23, 5, 10, .q (xb false)), (23, 5, 14, .q (xb false)), (23, 5, 18, .q (xb false)), (23, 5, 20, .c (.agg [(di v206.Low), (di v206.High)])), (23, 5, 23, .q (xb false)), (23, 5, 25, .q (xi (v11.1.1.length : Int))), (23, 5, 28, .q (xb false)), (23, 5, 30, .q (.d (.pin [(dl zh v210.1 v210.2)]))), (23, 5, 32, .q (xi (v210.1.length : Int))), (23, 5, 35, .q (xb false)), (23, 5, 37, .q (.d (.pin [(dl zh v213.1 v213.2)]))), (23, 5, 39, .q (.d (.pin [(di v215.Shelf), (di v215.Many)]))), (23, 5, 41, .c (.agg [(di v217.Shelf), (di v217.Many)])), (23, 5, 44, .q (xb false))] [] (ob (o_b h201) (ob (o_b h202) (ob (o_b h203) (ob (o_b h204) (ob (o_b h205) (ob (zw k 140 252 _ h207) (ob (o_b h208) (ob (zr (eL zh) v11.1.1) (ob (o_b h209) (ob (o_ia (e := (eL zh)) 1 h211 rfl) (ob (zr zh v210.1) (ob (o_b h212) (ob (o_ia (e := (eL zh)) 1 h214 rfl) (ob (o_ia (e := zh) 2 h216 rfl) (ob (zA k 0 1 _ h218) (ob (o_b h219) ob0)))))))))))))))) (by kernel_rfl))
theorem zfg (k : Nat) (r : Bool) (h : z8b k = some r) : zD TE (ev TE) 23 [] = some (zfb r) := by
 unfold z8b at h
 refine zi h (fun v1 h2 g1 => ?_)
 refine zi g1 (fun v3 h4 g2 => ?_)
 refine zi g2 (fun v5 h6 g3 => ?_)
 refine zi g3 (fun v7 h8 g4 => ?_)
 refine zi g4 (fun v9 h10 g5 => ?_)
 refine zi g5 (fun v11 h12 g6 => ?_)
 refine zi g6 (fun v13 h14 g7 => ?_)
 refine zi g7 (fun v15 h16 g8 => ?_)
 refine zi g8 (fun v17 h18 g9 => ?_)
 refine zi g9 (fun v19 h20 g10 => ?_)
 refine zi g10 (fun v21 h22 g11 => ?_)
 refine zi g11 (fun v23 h24 g12 => ?_)
 refine zo g12 (fun h25 g13 => ?_) (fun h25 g13 => ?_)
 ·subst h25
  exact zC (g := zfb) g13 (zqc [(23, 1, 0, .c (.agg (za v1))), (23, 1, 1, .c (.tup [(di v3.1), (di v3.2)])), (23, 2, 0, .c (.agg (za v5))), (23, 2, 1, .c (.tup [(.agg [(di v7.1.Low), (di v7.1.High)]), (di v7.2)])), (23, 3, 0, .c (.agg (za v9))), (23, 3, 1, .c (.tup [(dl (eL zh) v11.1.1 v11.1.2), (di v11.2)])), (23, 4, 0, .c (.agg (za v13))), (23, 4, 1, .c (.agg [(di v15.Shelf), (di v15.Many)])), (23, 4, 2, .c (.agg [(di v17.Shelf), (di v17.Many)])), (23, 4, 4, .c (.agg [(di v19.Shelf), (di v19.Many)])), (23, 4, 7, .c (.tup [(db v21.1), (di v21.2)]))] [(23, 1000005, (.nor, zG v3 v7 v11 v21 true))] (ob (zn k _ h2) (ob (zeb k v1 3 _ h4) (ob (zn k _ h6) (ob (zK k v5 0 _ h8) (ob (zn k _ h10) (ob (zkc k v9 2 _ h12) (ob (zn k _ h14) (ob (zA k 0 1 _ h16) (ob (zA k 2 3 _ h18) (ob (zA k 0 1 _ h20) (ob (zMb k v13 0 ([([v15, v17], .ex), ([v19], .ex)], .ex) _ h22) (ob (zbb k v3 v7 v11 v21 _ h24) ob0)))))))))))) (by kernel_rfl))
 ·subst h25
  refine zi g13 (fun v26 h27 g14 => ?_)
  refine zi g14 (fun v28 h29 g15 => ?_)
  refine zi g15 (fun v30 h31 g16 => ?_)
  refine zi g16 (fun v32 h33 g17 => ?_)
  refine zi g17 (fun v34 h35 g18 => ?_)
  refine zi g18 (fun v36 h37 g19 => ?_)
  refine zi g19 (fun v38 h39 g20 => ?_)
  refine zi g20 (fun v40 h41 g21 => ?_)
  refine zo g21 (fun h42 g22 => ?_) (fun h42 g22 => ?_)
  ·refine zo g22 (fun h43 g23 => ?_) (fun h43 g23 => ?_)
   ·refine zo g23 (fun h44 g24 => ?_) (fun h44 g24 => ?_)
    ·refine zo g24 (fun h45 g25 => ?_) (fun h45 g25 => ?_)
     ·refine zi g25 (fun v46 h47 g26 => ?_)
      refine zi g26 (fun v48 h49 g27 => ?_)
      refine zi g27 (fun v50 h51 g28 => ?_)
      refine zi g28 (fun v52 h53 g29 => ?_)
      refine zi g29 (fun v54 h55 g30 => ?_)
      refine zo g30 (fun h56 g31 => ?_) (fun h56 g31 => ?_)
      ·refine zo g31 (fun h57 g32 => ?_) (fun h57 g32 => ?_)
       ·refine zi g32 (fun v58 h59 g33 => ?_)
        refine zo g33 (fun h60 g34 => ?_) (fun h60 g34 => ?_)
        ·exact zC (g := zfb) g34 (zqc [(23, 1, 0, .c (.agg (za v1))), (23, 1, 1, .c (.tup [(di v3.1), (di v3.2)])), (23, 2, 0, .c (.agg (za v5))), (23, 2, 1, .c (.tup [(.agg [(di v7.1.Low), (di v7.1.High)]), (di v7.2)])), (23, 3, 0, .c (.agg (za v9))), (23, 3, 1, .c (.tup [(dl (eL zh) v11.1.1 v11.1.2), (di v11.2)])), (23, 4, 0, .c (.agg (za v13))), (23, 4, 1, .c (.agg [(di v15.Shelf), (di v15.Many)])), (23, 4, 2, .c (.agg [(di v17.Shelf), (di v17.Many)])), (23, 4, 4, .c (.agg [(di v19.Shelf), (di v19.Many)])), (23, 4, 7, .c (.tup [(db v21.1), (di v21.2)])), (23, 7, 0, .c (.agg (za v26))), (23, 7, 4, .c (.tup [(dl zk v28.1.1 v28.1.2), (di v28.2)])), (23, 8, 0, .c (.agg (za v30))), (23, 8, 1, .c (.tup [(dl (eL eI) v32.1.1 v32.1.2), (di v32.2)])), (23, 9, 0, .c (.agg (za v34))), (23, 9, 1, .c (.tup [(dl eI v36.1.1 v36.1.2), (di v36.2)])), (23, 10, 0, .c (.agg (za v38))), (23, 10, 1, .c (.tup [(di v40.1), (di v40.2)])), (23, 11, 2, .q (xb true)), (23, 11, 6, .q (xb true)), (23, 11, 10, .q (xb true)), (23, 11, 14, .q (xb true)), (23, 11, 16, .c (.agg [(di v46.Low), (di v46.High)])), (23, 11, 17, .c (.agg [(di v48.Low), (di v48.High)])), (23, 11, 18, .c (.agg [(di v50.Low), (di v50.High)])), (23, 11, 19, .c (.agg [(di v52.Low), (di v52.High)])), (23, 11, 21, .c (db v54)), (23, 11, 23, .q (xb true)), (23, 11, 25, .q (xi (v32.1.1.length : Int))), (23, 11, 28, .q (xb true)), (23, 11, 31, .c (db v58)), (23, 11, 33, .q (xb true))] [(23, 1000005, (.nor, zG v3 v7 v11 v21 false))] (ob (zn k _ h2) (ob (zeb k v1 3 _ h4) (ob (zn k _ h6) (ob (zK k v5 0 _ h8) (ob (zn k _ h10) (ob (zkc k v9 2 _ h12) (ob (zn k _ h14) (ob (zA k 0 1 _ h16) (ob (zA k 2 3 _ h18) (ob (zA k 0 1 _ h20) (ob (zMb k v13 0 ([([v15, v17], .ex), ([v19], .ex)], .ex) _ h22) (ob (zbb k v3 v7 v11 v21 _ h24) (ob (zn k _ h27) (ob (zWc k v26 ([([2, 1], .ex), ([0, 3], .ex)], .ex) _ h29) (ob (zn k _ h31) (ob (zrc k v30 _ h33) (ob (zn k _ h35) (ob (z2c k v34 1 _ h37) (ob (zn k _ h39) (ob (zFc k v38 3 _ h41) (ob (o_b h42) (ob (o_b h43) (ob (o_b h44) (ob (o_b h45) (ob (zw k 140 252 _ h47) (ob (zw k 95 188 _ h49) (ob (zw k 25 48 _ h51) (ob (zw k 365 654 _ h53) (ob (z5b k v28.1 ([v46, v48, v50, v52], .ex) _ h55) (ob (o_b h56) (ob (zr (eL eI) v32.1.1) (ob (o_b h57) (ob (zeg k v36.1 ([0], .ex) _ h59) (ob (o_b h60) ob0)))))))))))))))))))))))))))))))))) (by kernel_rfl))
        ·exact zC (g := zfb) g34 (zqc [(23, 1, 0, .c (.agg (za v1))), (23, 1, 1, .c (.tup [(di v3.1), (di v3.2)])), (23, 2, 0, .c (.agg (za v5))), (23, 2, 1, .c (.tup [(.agg [(di v7.1.Low), (di v7.1.High)]), (di v7.2)])), (23, 3, 0, .c (.agg (za v9))), (23, 3, 1, .c (.tup [(dl (eL zh) v11.1.1 v11.1.2), (di v11.2)])), (23, 4, 0, .c (.agg (za v13))), (23, 4, 1, .c (.agg [(di v15.Shelf), (di v15.Many)])), (23, 4, 2, .c (.agg [(di v17.Shelf), (di v17.Many)])), (23, 4, 4, .c (.agg [(di v19.Shelf), (di v19.Many)])), (23, 4, 7, .c (.tup [(db v21.1), (di v21.2)])), (23, 7, 0, .c (.agg (za v26))), (23, 7, 4, .c (.tup [(dl zk v28.1.1 v28.1.2), (di v28.2)])), (23, 8, 0, .c (.agg (za v30))), (23, 8, 1, .c (.tup [(dl (eL eI) v32.1.1 v32.1.2), (di v32.2)])), (23, 9, 0, .c (.agg (za v34))), (23, 9, 1, .c (.tup [(dl eI v36.1.1 v36.1.2), (di v36.2)])), (23, 10, 0, .c (.agg (za v38))), (23, 10, 1, .c (.tup [(di v40.1), (di v40.2)])), (23, 11, 2, .q (xb true)), (23, 11, 6, .q (xb true)), (23, 11, 10, .q (xb true)), (23, 11, 14, .q (xb true)), (23, 11, 16, .c (.agg [(di v46.Low), (di v46.High)])), (23, 11, 17, .c (.agg [(di v48.Low), (di v48.High)])), (23, 11, 18, .c (.agg [(di v50.Low), (di v50.High)])), (23, 11, 19, .c (.agg [(di v52.Low), (di v52.High)])), (23, 11, 21, .c (db v54)), (23, 11, 23, .q (xb true)), (23, 11, 25, .q (xi (v32.1.1.length : Int))), (23, 11, 28, .q (xb true)), (23, 11, 31, .c (db v58)), (23, 11, 33, .q (xb false))] [(23, 1000005, (.nor, zG v3 v7 v11 v21 false))] (ob (zn k _ h2) (ob (zeb k v1 3 _ h4) (ob (zn k _ h6) (ob (zK k v5 0 _ h8) (ob (zn k _ h10) (ob (zkc k v9 2 _ h12) (ob (zn k _ h14) (ob (zA k 0 1 _ h16) (ob (zA k 2 3 _ h18) (ob (zA k 0 1 _ h20) (ob (zMb k v13 0 ([([v15, v17], .ex), ([v19], .ex)], .ex) _ h22) (ob (zbb k v3 v7 v11 v21 _ h24) (ob (zn k _ h27) (ob (zWc k v26 ([([2, 1], .ex), ([0, 3], .ex)], .ex) _ h29) (ob (zn k _ h31) (ob (zrc k v30 _ h33) (ob (zn k _ h35) (ob (z2c k v34 1 _ h37) (ob (zn k _ h39) (ob (zFc k v38 3 _ h41) (ob (o_b h42) (ob (o_b h43) (ob (o_b h44) (ob (o_b h45) (ob (zw k 140 252 _ h47) (ob (zw k 95 188 _ h49) (ob (zw k 25 48 _ h51) (ob (zw k 365 654 _ h53) (ob (z5b k v28.1 ([v46, v48, v50, v52], .ex) _ h55) (ob (o_b h56) (ob (zr (eL eI) v32.1.1) (ob (o_b h57) (ob (zeg k v36.1 ([0], .ex) _ h59) (ob (o_b h60) ob0)))))))))))))))))))))))))))))))))) (by kernel_rfl))
       ·exact zC (g := zfb) g32 (zqc [(23, 1, 0, .c (.agg (za v1))), (23, 1, 1, .c (.tup [(di v3.1), (di v3.2)])), (23, 2, 0, .c (.agg (za v5))), (23, 2, 1, .c (.tup [(.agg [(di v7.1.Low), (di v7.1.High)]), (di v7.2)])), (23, 3, 0, .c (.agg (za v9))), (23, 3, 1, .c (.tup [(dl (eL zh) v11.1.1 v11.1.2), (di v11.2)])), (23, 4, 0, .c (.agg (za v13))), (23, 4, 1, .c (.agg [(di v15.Shelf), (di v15.Many)])), (23, 4, 2, .c (.agg [(di v17.Shelf), (di v17.Many)])), (23, 4, 4, .c (.agg [(di v19.Shelf), (di v19.Many)])), (23, 4, 7, .c (.tup [(db v21.1), (di v21.2)])), (23, 7, 0, .c (.agg (za v26))), (23, 7, 4, .c (.tup [(dl zk v28.1.1 v28.1.2), (di v28.2)])), (23, 8, 0, .c (.agg (za v30))), (23, 8, 1, .c (.tup [(dl (eL eI) v32.1.1 v32.1.2), (di v32.2)])), (23, 9, 0, .c (.agg (za v34))), (23, 9, 1, .c (.tup [(dl eI v36.1.1 v36.1.2), (di v36.2)])), (23, 10, 0, .c (.agg (za v38))), (23, 10, 1, .c (.tup [(di v40.1), (di v40.2)])), (23, 11, 2, .q (xb true)), (23, 11, 6, .q (xb true)), (23, 11, 10, .q (xb true)), (23, 11, 14, .q (xb true)), (23, 11, 16, .c (.agg [(di v46.Low), (di v46.High)])), (23, 11, 17, .c (.agg [(di v48.Low), (di v48.High)])), (23, 11, 18, .c (.agg [(di v50.Low), (di v50.High)])), (23, 11, 19, .c (.agg [(di v52.Low), (di v52.High)])), (23, 11, 21, .c (db v54)), (23, 11, 23, .q (xb true)), (23, 11, 25, .q (xi (v32.1.1.length : Int))), (23, 11, 28, .q (xb false))] [(23, 1000005, (.nor, zG v3 v7 v11 v21 false))] (ob (zn k _ h2) (ob (zeb k v1 3 _ h4) (ob (zn k _ h6) (ob (zK k v5 0 _ h8) (ob (zn k _ h10) (ob (zkc k v9 2 _ h12) (ob (zn k _ h14) (ob (zA k 0 1 _ h16) (ob (zA k 2 3 _ h18) (ob (zA k 0 1 _ h20) (ob (zMb k v13 0 ([([v15, v17], .ex), ([v19], .ex)], .ex) _ h22) (ob (zbb k v3 v7 v11 v21 _ h24) (ob (zn k _ h27) (ob (zWc k v26 ([([2, 1], .ex), ([0, 3], .ex)], .ex) _ h29) (ob (zn k _ h31) (ob (zrc k v30 _ h33) (ob (zn k _ h35) (ob (z2c k v34 1 _ h37) (ob (zn k _ h39) (ob (zFc k v38 3 _ h41) (ob (o_b h42) (ob (o_b h43) (ob (o_b h44) (ob (o_b h45) (ob (zw k 140 252 _ h47) (ob (zw k 95 188 _ h49) (ob (zw k 25 48 _ h51) (ob (zw k 365 654 _ h53) (ob (z5b k v28.1 ([v46, v48, v50, v52], .ex) _ h55) (ob (o_b h56) (ob (zr (eL eI) v32.1.1) (ob (o_b h57) ob0)))))))))))))))))))))))))))))))) (by kernel_rfl))
      ·exact zC (g := zfb) g31 (zqc [(23, 1, 0, .c (.agg (za v1))), (23, 1, 1, .c (.tup [(di v3.1), (di v3.2)])), (23, 2, 0, .c (.agg (za v5))), (23, 2, 1, .c (.tup [(.agg [(di v7.1.Low), (di v7.1.High)]), (di v7.2)])), (23, 3, 0, .c (.agg (za v9))), (23, 3, 1, .c (.tup [(dl (eL zh) v11.1.1 v11.1.2), (di v11.2)])), (23, 4, 0, .c (.agg (za v13))), (23, 4, 1, .c (.agg [(di v15.Shelf), (di v15.Many)])), (23, 4, 2, .c (.agg [(di v17.Shelf), (di v17.Many)])), (23, 4, 4, .c (.agg [(di v19.Shelf), (di v19.Many)])), (23, 4, 7, .c (.tup [(db v21.1), (di v21.2)])), (23, 7, 0, .c (.agg (za v26))), (23, 7, 4, .c (.tup [(dl zk v28.1.1 v28.1.2), (di v28.2)])), (23, 8, 0, .c (.agg (za v30))), (23, 8, 1, .c (.tup [(dl (eL eI) v32.1.1 v32.1.2), (di v32.2)])), (23, 9, 0, .c (.agg (za v34))), (23, 9, 1, .c (.tup [(dl eI v36.1.1 v36.1.2), (di v36.2)])), (23, 10, 0, .c (.agg (za v38))), (23, 10, 1, .c (.tup [(di v40.1), (di v40.2)])), (23, 11, 2, .q (xb true)), (23, 11, 6, .q (xb true)), (23, 11, 10, .q (xb true)), (23, 11, 14, .q (xb true)), (23, 11, 16, .c (.agg [(di v46.Low), (di v46.High)])), (23, 11, 17, .c (.agg [(di v48.Low), (di v48.High)])), (23, 11, 18, .c (.agg [(di v50.Low), (di v50.High)])), (23, 11, 19, .c (.agg [(di v52.Low), (di v52.High)])), (23, 11, 21, .c (db v54)), (23, 11, 23, .q (xb false))] [(23, 1000005, (.nor, zG v3 v7 v11 v21 false))] (ob (zn k _ h2) (ob (zeb k v1 3 _ h4) (ob (zn k _ h6) (ob (zK k v5 0 _ h8) (ob (zn k _ h10) (ob (zkc k v9 2 _ h12) (ob (zn k _ h14) (ob (zA k 0 1 _ h16) (ob (zA k 2 3 _ h18) (ob (zA k 0 1 _ h20) (ob (zMb k v13 0 ([([v15, v17], .ex), ([v19], .ex)], .ex) _ h22) (ob (zbb k v3 v7 v11 v21 _ h24) (ob (zn k _ h27) (ob (zWc k v26 ([([2, 1], .ex), ([0, 3], .ex)], .ex) _ h29) (ob (zn k _ h31) (ob (zrc k v30 _ h33) (ob (zn k _ h35) (ob (z2c k v34 1 _ h37) (ob (zn k _ h39) (ob (zFc k v38 3 _ h41) (ob (o_b h42) (ob (o_b h43) (ob (o_b h44) (ob (o_b h45) (ob (zw k 140 252 _ h47) (ob (zw k 95 188 _ h49) (ob (zw k 25 48 _ h51) (ob (zw k 365 654 _ h53) (ob (z5b k v28.1 ([v46, v48, v50, v52], .ex) _ h55) (ob (o_b h56) ob0)))))))))))))))))))))))))))))) (by kernel_rfl))
     ·exact zC (g := zfb) g25 (zqc [(23, 1, 0, .c (.agg (za v1))), (23, 1, 1, .c (.tup [(di v3.1), (di v3.2)])), (23, 2, 0, .c (.agg (za v5))), (23, 2, 1, .c (.tup [(.agg [(di v7.1.Low), (di v7.1.High)]), (di v7.2)])), (23, 3, 0, .c (.agg (za v9))), (23, 3, 1, .c (.tup [(dl (eL zh) v11.1.1 v11.1.2), (di v11.2)])), (23, 4, 0, .c (.agg (za v13))), (23, 4, 1, .c (.agg [(di v15.Shelf), (di v15.Many)])), (23, 4, 2, .c (.agg [(di v17.Shelf), (di v17.Many)])), (23, 4, 4, .c (.agg [(di v19.Shelf), (di v19.Many)])), (23, 4, 7, .c (.tup [(db v21.1), (di v21.2)])), (23, 7, 0, .c (.agg (za v26))), (23, 7, 4, .c (.tup [(dl zk v28.1.1 v28.1.2), (di v28.2)])), (23, 8, 0, .c (.agg (za v30))), (23, 8, 1, .c (.tup [(dl (eL eI) v32.1.1 v32.1.2), (di v32.2)])), (23, 9, 0, .c (.agg (za v34))), (23, 9, 1, .c (.tup [(dl eI v36.1.1 v36.1.2), (di v36.2)])), (23, 10, 0, .c (.agg (za v38))), (23, 10, 1, .c (.tup [(di v40.1), (di v40.2)])), (23, 11, 2, .q (xb true)), (23, 11, 6, .q (xb true)), (23, 11, 10, .q (xb true)), (23, 11, 14, .q (xb false))] [(23, 1000005, (.nor, zG v3 v7 v11 v21 false))] (ob (zn k _ h2) (ob (zeb k v1 3 _ h4) (ob (zn k _ h6) (ob (zK k v5 0 _ h8) (ob (zn k _ h10) (ob (zkc k v9 2 _ h12) (ob (zn k _ h14) (ob (zA k 0 1 _ h16) (ob (zA k 2 3 _ h18) (ob (zA k 0 1 _ h20) (ob (zMb k v13 0 ([([v15, v17], .ex), ([v19], .ex)], .ex) _ h22) (ob (zbb k v3 v7 v11 v21 _ h24) (ob (zn k _ h27) (ob (zWc k v26 ([([2, 1], .ex), ([0, 3], .ex)], .ex) _ h29) (ob (zn k _ h31) (ob (zrc k v30 _ h33) (ob (zn k _ h35) (ob (z2c k v34 1 _ h37) (ob (zn k _ h39) (ob (zFc k v38 3 _ h41) (ob (o_b h42) (ob (o_b h43) (ob (o_b h44) (ob (o_b h45) ob0)))))))))))))))))))))))) (by kernel_rfl))
    ·exact zC (g := zfb) g24 (zqc [(23, 1, 0, .c (.agg (za v1))), (23, 1, 1, .c (.tup [(di v3.1), (di v3.2)])), (23, 2, 0, .c (.agg (za v5))), (23, 2, 1, .c (.tup [(.agg [(di v7.1.Low), (di v7.1.High)]), (di v7.2)])), (23, 3, 0, .c (.agg (za v9))), (23, 3, 1, .c (.tup [(dl (eL zh) v11.1.1 v11.1.2), (di v11.2)])), (23, 4, 0, .c (.agg (za v13))), (23, 4, 1, .c (.agg [(di v15.Shelf), (di v15.Many)])), (23, 4, 2, .c (.agg [(di v17.Shelf), (di v17.Many)])), (23, 4, 4, .c (.agg [(di v19.Shelf), (di v19.Many)])), (23, 4, 7, .c (.tup [(db v21.1), (di v21.2)])), (23, 7, 0, .c (.agg (za v26))), (23, 7, 4, .c (.tup [(dl zk v28.1.1 v28.1.2), (di v28.2)])), (23, 8, 0, .c (.agg (za v30))), (23, 8, 1, .c (.tup [(dl (eL eI) v32.1.1 v32.1.2), (di v32.2)])), (23, 9, 0, .c (.agg (za v34))), (23, 9, 1, .c (.tup [(dl eI v36.1.1 v36.1.2), (di v36.2)])), (23, 10, 0, .c (.agg (za v38))), (23, 10, 1, .c (.tup [(di v40.1), (di v40.2)])), (23, 11, 2, .q (xb true)), (23, 11, 6, .q (xb true)), (23, 11, 10, .q (xb false))] [(23, 1000005, (.nor, zG v3 v7 v11 v21 false))] (ob (zn k _ h2) (ob (zeb k v1 3 _ h4) (ob (zn k _ h6) (ob (zK k v5 0 _ h8) (ob (zn k _ h10) (ob (zkc k v9 2 _ h12) (ob (zn k _ h14) (ob (zA k 0 1 _ h16) (ob (zA k 2 3 _ h18) (ob (zA k 0 1 _ h20) (ob (zMb k v13 0 ([([v15, v17], .ex), ([v19], .ex)], .ex) _ h22) (ob (zbb k v3 v7 v11 v21 _ h24) (ob (zn k _ h27) (ob (zWc k v26 ([([2, 1], .ex), ([0, 3], .ex)], .ex) _ h29) (ob (zn k _ h31) (ob (zrc k v30 _ h33) (ob (zn k _ h35) (ob (z2c k v34 1 _ h37) (ob (zn k _ h39) (ob (zFc k v38 3 _ h41) (ob (o_b h42) (ob (o_b h43) (ob (o_b h44) ob0))))))))))))))))))))))) (by kernel_rfl))
   ·exact zC (g := zfb) g23 (zqc [(23, 1, 0, .c (.agg (za v1))), (23, 1, 1, .c (.tup [(di v3.1), (di v3.2)])), (23, 2, 0, .c (.agg (za v5))), (23, 2, 1, .c (.tup [(.agg [(di v7.1.Low), (di v7.1.High)]), (di v7.2)])), (23, 3, 0, .c (.agg (za v9))), (23, 3, 1, .c (.tup [(dl (eL zh) v11.1.1 v11.1.2), (di v11.2)])), (23, 4, 0, .c (.agg (za v13))), (23, 4, 1, .c (.agg [(di v15.Shelf), (di v15.Many)])), (23, 4, 2, .c (.agg [(di v17.Shelf), (di v17.Many)])), (23, 4, 4, .c (.agg [(di v19.Shelf), (di v19.Many)])), (23, 4, 7, .c (.tup [(db v21.1), (di v21.2)])), (23, 7, 0, .c (.agg (za v26))), (23, 7, 4, .c (.tup [(dl zk v28.1.1 v28.1.2), (di v28.2)])), (23, 8, 0, .c (.agg (za v30))), (23, 8, 1, .c (.tup [(dl (eL eI) v32.1.1 v32.1.2), (di v32.2)])), (23, 9, 0, .c (.agg (za v34))), (23, 9, 1, .c (.tup [(dl eI v36.1.1 v36.1.2), (di v36.2)])), (23, 10, 0, .c (.agg (za v38))), (23, 10, 1, .c (.tup [(di v40.1), (di v40.2)])), (23, 11, 2, .q (xb true)), (23, 11, 6, .q (xb false))] [(23, 1000005, (.nor, zG v3 v7 v11 v21 false))] (ob (zn k _ h2) (ob (zeb k v1 3 _ h4) (ob (zn k _ h6) (ob (zK k v5 0 _ h8) (ob (zn k _ h10) (ob (zkc k v9 2 _ h12) (ob (zn k _ h14) (ob (zA k 0 1 _ h16) (ob (zA k 2 3 _ h18) (ob (zA k 0 1 _ h20) (ob (zMb k v13 0 ([([v15, v17], .ex), ([v19], .ex)], .ex) _ h22) (ob (zbb k v3 v7 v11 v21 _ h24) (ob (zn k _ h27) (ob (zWc k v26 ([([2, 1], .ex), ([0, 3], .ex)], .ex) _ h29) (ob (zn k _ h31) (ob (zrc k v30 _ h33) (ob (zn k _ h35) (ob (z2c k v34 1 _ h37) (ob (zn k _ h39) (ob (zFc k v38 3 _ h41) (ob (o_b h42) (ob (o_b h43) ob0)))))))))))))))))))))) (by kernel_rfl))
  ·exact zC (g := zfb) g22 (zqc [(23, 1, 0, .c (.agg (za v1))), (23, 1, 1, .c (.tup [(di v3.1), (di v3.2)])), (23, 2, 0, .c (.agg (za v5))), (23, 2, 1, .c (.tup [(.agg [(di v7.1.Low), (di v7.1.High)]), (di v7.2)])), (23, 3, 0, .c (.agg (za v9))), (23, 3, 1, .c (.tup [(dl (eL zh) v11.1.1 v11.1.2), (di v11.2)])), (23, 4, 0, .c (.agg (za v13))), (23, 4, 1, .c (.agg [(di v15.Shelf), (di v15.Many)])), (23, 4, 2, .c (.agg [(di v17.Shelf), (di v17.Many)])), (23, 4, 4, .c (.agg [(di v19.Shelf), (di v19.Many)])), (23, 4, 7, .c (.tup [(db v21.1), (di v21.2)])), (23, 7, 0, .c (.agg (za v26))), (23, 7, 4, .c (.tup [(dl zk v28.1.1 v28.1.2), (di v28.2)])), (23, 8, 0, .c (.agg (za v30))), (23, 8, 1, .c (.tup [(dl (eL eI) v32.1.1 v32.1.2), (di v32.2)])), (23, 9, 0, .c (.agg (za v34))), (23, 9, 1, .c (.tup [(dl eI v36.1.1 v36.1.2), (di v36.2)])), (23, 10, 0, .c (.agg (za v38))), (23, 10, 1, .c (.tup [(di v40.1), (di v40.2)])), (23, 11, 2, .q (xb false))] [(23, 1000005, (.nor, zG v3 v7 v11 v21 false))] (ob (zn k _ h2) (ob (zeb k v1 3 _ h4) (ob (zn k _ h6) (ob (zK k v5 0 _ h8) (ob (zn k _ h10) (ob (zkc k v9 2 _ h12) (ob (zn k _ h14) (ob (zA k 0 1 _ h16) (ob (zA k 2 3 _ h18) (ob (zA k 0 1 _ h20) (ob (zMb k v13 0 ([([v15, v17], .ex), ([v19], .ex)], .ex) _ h22) (ob (zbb k v3 v7 v11 v21 _ h24) (ob (zn k _ h27) (ob (zWc k v26 ([([2, 1], .ex), ([0, 3], .ex)], .ex) _ h29) (ob (zn k _ h31) (ob (zrc k v30 _ h33) (ob (zn k _ h35) (ob (z2c k v34 1 _ h37) (ob (zn k _ h39) (ob (zFc k v38 3 _ h41) (ob (o_b h42) ob0))))))))))))))))))))) (by kernel_rfl))
noncomputable def ziw (p0 p1 : Int) (r : zt1) : TM := [(0, (xi p0)), (1, (xi p1)), (4, (xi 0)), (7, (xb false)), (5, (xi r.1)), (12, (xb r.2))]
noncomputable def zLc (p0 p1 : Int) (cb : Bool) (r : zt1) : St := ⟨(ziw p0 p1 r), ⟨[], []⟩, []⟩
noncomputable def zHw (p0 p1 : Int) (cb : Bool) : TM := [(0, (xi p0)), (1, (xi p1)), (4, (xi 0)), (7, (xb false)), (5, (xi (p0.tmod p1))), (12, (xb cb))]
theorem zoj (k : Nat) (p0 p1 : Int) (cb : Bool) (r : zt1) (h : z8c k p0 p1 cb = some r) : ev TE 36 (cnd TE 36 12) ⟨(zHw p0 p1 cb), ⟨[], []⟩, []⟩ = some (.nor, zLc p0 p1 cb r) := by
 unfold z8c at h
 refine zo h (fun h201 g1 => ?_) (fun h201 g1 => ?_)
 ·subst h201
  exact zB (g := fun r => (Ex.nor, zLc p0 p1 true r)) g1 (zqe [] [] ob0 (by kernel_rfl))
 ·subst h201
  exact zB (g := fun r => (Ex.nor, zLc p0 p1 false r)) g1 (zqe [] [] ob0 (by kernel_rfl))
theorem ztb (k : Nat) (p0 p1 r : Int) (h : zpc k p0 p1 = some r) : zD TE (ev TE) 36 [(di p0), (di p1)] = some (zRe r) := by
 unfold zpc at h
 refine zo h (fun h1 g1 => ?_) (fun h1 g1 => ?_)
 ·exact zC (g := zRe) g1 (zqc [(36, 1, 1, .q (xb true))] [] (ob (o_b h1) ob0) (by kernel_rfl))
 ·refine zo g1 (fun h2 g2 => ?_) (fun h2 g2 => ?_)
  ·cases g2
  ·refine zi g2 (fun v3 h4 g3 => ?_)
   exact zC (g := zRe) g3 (zqc [(36, 1, 1, .q (xb false)), (36, 3, 2, .q (xi (p0.tmod p1)))] [(36, 2000012, (.nor, zLc p0 p1 (decide ((p0.tmod p1) < 0)) v3))] (ob (o_b h1) (ob (znw (x := p0) .i64 h2) (ob (zoj k p0 p1 (decide ((p0.tmod p1) < 0)) _ h4) ob0))) (by kernel_rfl))
noncomputable def z2v (p0 : zb) (p1 : Int) (r : Bool) : TM := [(0, (.d (.agg (za p0)))), (1, (xi p1)), (zsp 2), (4, (xb false)), (27, (xb r))]
noncomputable def zP (p0 : zb) (p1 : Int) (r : Bool) : St := ⟨(z2v p0 p1 r), ⟨[(zc 2 (za p0))], []⟩, []⟩
noncomputable def zOo (p0 : zb) (p1 : Int) : TM := [(0, (.d (.agg (za p0)))), (1, (xi p1)), (zsp 2), (4, (xb false))]
theorem zX (k : Nat) (p0 : zb) (p1 : Int) (r : Bool) (h : ztc k p0 p1 = some r) : ev TE 9 (rgn TE 9 1) ⟨(zOo p0 p1), ⟨[(zc 2 (za p0))], []⟩, []⟩ = some (.nor, zP p0 p1 r) := by
 unfold ztc at h
 refine zi h (fun v201 h202 g1 => ?_)
 refine zo g1 (fun h203 g2 => ?_) (fun h203 g2 => ?_)
 ·exact zB (g := fun r => (Ex.nor, zP p0 p1 r)) g2 (zqe [(9, 1, 1, .c (db v201)), (9, 1, 3, .q (xb true))] [] (ob (zig k p0 _ h202) (ob (o_b h203) ob0)) (by kernel_rfl))
 ·exact zB (g := fun r => (Ex.nor, zP p0 p1 r)) g2 (zqe [(9, 1, 1, .c (db v201)), (9, 1, 3, .q (xb false)), (9, 1, 6, .q (xi (p0.Slips.1.length : Int)))] [] (ob (zig k p0 _ h202) (ob (o_b h203) (ob (zr zj p0.Slips.1) ob0))) (by kernel_rfl))
noncomputable def zGv (p0 : zb) (p1 v4 : Int) (v6 : zt7) (v8 : zt8) (s2_13 : Int) : TM := zOo p0 p1 ++ [(27, (xb false)), (5, (xi v4)), (zsp 6), (7, (xi v6.2)), (8, (xi v8.1)), (9, (xi v8.2)), (zsp 10), (zsp 11), (12, (xi s2_13))]
noncomputable def zhi (p0 : zb) (p1 v4 : Int) (v6 : zt7) (v8 : zt8) (v10 v12 : zp) (s2_13 : Int) (s2_32 s2_34 : zt16) : St := ⟨(zGv p0 p1 v4 v6 v8 s2_13), ⟨[(zc 2 (za p0)), (6, (.cells [(xi v6.1.Low), (xi v6.1.High)])), (10, (.cells [(.d (dl eI p0.Far.1 p0.Far.2)), (xi v10.Low), (xi v10.High), (.row 0 1064 s2_32.length), (xi p0.Carry), (.d (dl zj p0.Slips.1 p0.Slips.2))])), (11, (.cells [(.d (dl eI p0.Far.1 p0.Far.2)), (xi v12.Low), (xi v12.High), (.row 0 1065 s2_34.length), (xi p0.Carry), (.d (dl zj p0.Slips.1 p0.Slips.2))])), (1064, (rowO true 2 zk s2_32 true)), (1065, (rowO true 2 zk s2_34 true))], []⟩, []⟩
noncomputable def z8v (p0 : zb) (p1 v4 : Int) (v6 : zt7) (v8 : zt8) (r : zt19) : TM := zOo p0 p1 ++ [(27, (xb false)), (5, (xi v4)), (zsp 6), (7, (xi v6.2)), (8, (xi v8.1)), (9, (xi v8.2)), (zsp 10), (zsp 11), (12, (xi r.1)), (70, (xb false))]
noncomputable def zF (p0 : zb) (p1 v4 : Int) (v6 : zt7) (v8 : zt8) (v10 v12 : zp) (r : zt19) : St := ⟨(z8v p0 p1 v4 v6 v8 r), ⟨[(zc 2 (za p0)), (6, (.cells [(xi v6.1.Low), (xi v6.1.High)])), (10, (.cells [(.d (dl eI p0.Far.1 p0.Far.2)), (xi v10.Low), (xi v10.High), (.row 0 1064 r.2.1.length), (xi p0.Carry), (.d (dl zj p0.Slips.1 p0.Slips.2))])), (11, (.cells [(.d (dl eI p0.Far.1 p0.Far.2)), (xi v12.Low), (xi v12.High), (.row 0 1065 r.2.2.length), (xi p0.Carry), (.d (dl zj p0.Slips.1 p0.Slips.2))])), (1064, (rowO true 2 zk r.2.1 true)), (1065, (rowO true 2 zk r.2.2 true))], []⟩, []⟩
noncomputable def zti (p0 : zb) (p1 v4 : Int) (v6 : zt7) (v8 : zt8) (v10 v12 : zp) : (Int × (List zp) × (List zp)) → Ex × St := fun r => ((.exit 0), zF p0 p1 v4 v6 v8 v10 v12 r)
theorem z9 (k : Nat) (p0 : zb) (p1 v4 : Int) (v6 : zt7) (v8 : zt8) (v10 v12 : zp) (s2_13 : Int) (s2_32 s2_34 : zt16) (x : (Int × (List zp) × (List zp)) ⊕ (Int × (List zp) × (List zp))) (h : zBb k p0 p1 v4 v6 v8 v10 v12 s2_13 s2_32 s2_34 = some x) : zM TE 9 (blk TE 9 0) (fun s : (Int × (List zp) × (List zp)) => zhi p0 p1 v4 v6 v8 v10 v12 s.1 s.2.1 s.2.2) (zti p0 p1 v4 v6 v8 v10 v12) (s2_13, s2_32, s2_34) x := by
 unfold zBb at h
 refine zo h (fun h301 g1 => ?_) (fun h301 g1 => ?_)
 ·refine zi g1 (fun v302 h303 g2 => ?_)
  refine zi g2 (fun v304 h305 g3 => ?_)
  refine zi g3 (fun v306 h307 g4 => ?_)
  refine z6 g4 (fun h308 g5 => ?_)
  refine zi g5 (fun v309 h310 g6 => ?_)
  refine zi g6 (fun v311 h312 g7 => ?_)
  refine zi g7 (fun v313 h314 g8 => ?_)
  refine z6 g8 (fun h315 g9 => ?_)
  exact zqn ((w64 (s2_13 + 1)), (s2_32 ++ [v306]), (s2_34 ++ [v313])) [1064, 1065] [(9, 10, 3, .q (xi (p0.Pick.1.length : Int))), (9, 10, 4, .q (xb true)), (9, 12, 5, .q (.d (.pin [(di v302.Low), (di v302.High)]))), (9, 12, 11, .q (.d (.pin [(di v304.Low), (di v304.High)]))), (9, 12, 14, .c (.agg [(di v306.Low), (di v306.High)])), (9, 12, 16, .ap (s2_32 ++ [v306]).length (rowO true 2 zk (s2_32 ++ [v306]) true)), (9, 12, 22, .q (.d (.pin [(di v309.Low), (di v309.High)]))), (9, 12, 28, .q (.d (.pin [(di v311.Low), (di v311.High)]))), (9, 12, 31, .c (.agg [(di v313.Low), (di v313.High)])), (9, 12, 33, .ap (s2_34 ++ [v313]).length (rowO true 2 zk (s2_34 ++ [v313]) true))] [] g9 (ob (zr zk p0.Pick.1) (ob (o_b h301) (ob (o_ia (e := zk) 2 h303 rfl) (ob (o_ia (e := zk) 2 h305 rfl) (ob (zw k v302.Low v304.Low _ h307) (ob (o_ap (b := true) (z := 2) (e := zk) (l := s2_32) (w := true) v306 (fun _ => rfl) h308) (ob (o_ia (e := zk) 2 h310 rfl) (ob (o_ia (e := zk) 2 h312 rfl) (ob (zw k v309.High v311.High _ h314) (ob (o_ap (b := true) (z := 2) (e := zk) (l := s2_34) (w := true) v313 (fun _ => rfl) h315) (ob (zVf true 2 zk (s2_32 ++ [v306]) true) (ob (zVf true 2 zk (s2_34 ++ [v313]) true) ob0)))))))))))) (by kernel_rfl)
 ·exact zqo [(9, 10, 3, .q (xi (p0.Pick.1.length : Int))), (9, 10, 4, .q (xb false))] [] g1 (ob (zr zk p0.Pick.1) (ob (o_b h301) ob0)) (by kernel_rfl)
noncomputable def zIw (p0 : zb) (p1 v4 : Int) (v6 : zt7) (v8 : zt8) (v14 : zt19) (v16 v18 : zt7) (s3_17 s3_18 : Int) : TM := zOo p0 p1 ++ [(27, (xb false)), (5, (xi v4)), (zsp 6), (7, (xi v6.2)), (8, (xi v8.1)), (9, (xi v8.2)), (zsp 10), (zsp 11), (12, (xi v14.1)), (70, (xb false)), (zsp 13), (14, (xi v16.2)), (zsp 15), (16, (xi v18.2)), (17, (xi s3_17)), (18, (xi s3_18))]
noncomputable def zni (p0 : zb) (p1 v4 : Int) (v6 : zt7) (v8 : zt8) (v10 v12 : zp) (v14 : zt19) (v16 v18 : zt7) (s3_17 s3_18 : Int) : St := ⟨(zIw p0 p1 v4 v6 v8 v14 v16 v18 s3_17 s3_18), ⟨[(zc 2 (za p0)), (6, (.cells [(xi v6.1.Low), (xi v6.1.High)])), (10, (.cells [(.d (dl eI p0.Far.1 p0.Far.2)), (xi v10.Low), (xi v10.High), (.row 0 1064 v14.2.1.length), (xi p0.Carry), (.d (dl zj p0.Slips.1 p0.Slips.2))])), (11, (.cells [(.d (dl eI p0.Far.1 p0.Far.2)), (xi v12.Low), (xi v12.High), (.row 0 1065 v14.2.2.length), (xi p0.Carry), (.d (dl zj p0.Slips.1 p0.Slips.2))])), (1064, (rowO true 2 zk v14.2.1 false)), (1065, (rowO true 2 zk v14.2.2 false)), (13, (.cells [(xi v16.1.Low), (xi v16.1.High)])), (15, (.cells [(xi v18.1.Low), (xi v18.1.High)]))], []⟩, []⟩
noncomputable def zKv (p0 : zb) (p1 v4 : Int) (v6 : zt7) (v8 : zt8) (v14 : zt19) (v16 v18 : zt7) (r : zt8) : TM := zOo p0 p1 ++ [(27, (xb false)), (5, (xi v4)), (zsp 6), (7, (xi v6.2)), (8, (xi v8.1)), (9, (xi v8.2)), (zsp 10), (zsp 11), (12, (xi v14.1)), (70, (xb false)), (zsp 13), (14, (xi v16.2)), (zsp 15), (16, (xi v18.2)), (17, (xi r.1)), (18, (xi r.2)), (129, (xb false))]
noncomputable def zE (p0 : zb) (p1 v4 : Int) (v6 : zt7) (v8 : zt8) (v10 v12 : zp) (v14 : zt19) (v16 v18 : zt7) (r : zt8) : St := ⟨(zKv p0 p1 v4 v6 v8 v14 v16 v18 r), ⟨[(zc 2 (za p0)), (6, (.cells [(xi v6.1.Low), (xi v6.1.High)])), (10, (.cells [(.d (dl eI p0.Far.1 p0.Far.2)), (xi v10.Low), (xi v10.High), (.row 0 1064 v14.2.1.length), (xi p0.Carry), (.d (dl zj p0.Slips.1 p0.Slips.2))])), (11, (.cells [(.d (dl eI p0.Far.1 p0.Far.2)), (xi v12.Low), (xi v12.High), (.row 0 1065 v14.2.2.length), (xi p0.Carry), (.d (dl zj p0.Slips.1 p0.Slips.2))])), (1064, (rowO true 2 zk v14.2.1 false)), (1065, (rowO true 2 zk v14.2.2 false)), (13, (.cells [(xi v16.1.Low), (xi v16.1.High)])), (15, (.cells [(xi v18.1.Low), (xi v18.1.High)]))], []⟩, []⟩
noncomputable def zfi (p0 : zb) (p1 v4 : Int) (v6 : zt7) (v8 : zt8) (v10 v12 : zp) (v14 : zt19) (v16 v18 : zt7) : (Int × Int) → Ex × St := fun r => ((.exit 2), zE p0 p1 v4 v6 v8 v10 v12 v14 v16 v18 r)
theorem zab (k : Nat) (p0 : zb) (p1 v4 : Int) (v6 : zt7) (v8 : zt8) (v10 v12 : zp) (v14 : zt19) (v16 v18 : zt7) (s3_17 s3_18 : Int) (x : (Int × Int) ⊕ (Int × Int)) (h : zCb k p0 p1 v4 v6 v8 v10 v12 v14 v16 v18 s3_17 s3_18 = some x) : zM TE 9 (blk TE 9 2) (fun s : (Int × Int) => zni p0 p1 v4 v6 v8 v10 v12 v14 v16 v18 s.1 s.2) (zfi p0 p1 v4 v6 v8 v10 v12 v14 v16 v18) (s3_17, s3_18) x := by
 unfold zCb at h
 refine zi h (fun v401 h402 g1 => ?_)
 refine zo g1 (fun h403 g2 => ?_) (fun h403 g2 => ?_)
 ·refine zi g2 (fun v404 h405 g3 => ?_)
  refine zi g3 (fun v406 h407 g4 => ?_)
  refine zi g4 (fun v408 h409 g5 => ?_)
  refine zi g5 (fun v410 h411 g6 => ?_)
  refine zi g6 (fun v412 h413 g7 => ?_)
  exact zqn ((w64 (s3_17 + (w64 (v406.Many * v412.Low)))), (w64 (s3_18 + 1))) [1064, 1065] [(9, 17, 4, .q (.d (.pin [(dl zh v401.Lines.1 v401.Lines.2), (di v401.Until)]))), (9, 17, 7, .q (xi (v401.Lines.1.length : Int))), (9, 17, 8, .q (xb true)), (9, 19, 4, .q (.d (.pin [(dl zh v404.Lines.1 v404.Lines.2), (di v404.Until)]))), (9, 19, 8, .q (.d (.pin [(di v406.Shelf), (di v406.Many)]))), (9, 19, 16, .q (.d (.pin [(dl zh v408.Lines.1 v408.Lines.2), (di v408.Until)]))), (9, 19, 20, .q (.d (.pin [(di v410.Shelf), (di v410.Many)]))), (9, 19, 23, .q (.d (.pin [(di v412.Low), (di v412.High)])))] [] g7 (ob (o_ia (e := zj) 2 h402 rfl) (ob (zr zh v401.Lines.1) (ob (o_b h403) (ob (o_ia (e := zj) 2 h405 rfl) (ob (o_ia (e := zh) 2 h407 rfl) (ob (o_ia (e := zj) 2 h409 rfl) (ob (o_ia (e := zh) 2 h411 rfl) (ob (o_ia (e := zk) 2 h413 rfl) (ob (zVf true 2 zk v14.2.1 false) (ob (zVf true 2 zk v14.2.2 false) ob0)))))))))) (by kernel_rfl)
 ·exact zqo [(9, 17, 4, .q (.d (.pin [(dl zh v401.Lines.1 v401.Lines.2), (di v401.Until)]))), (9, 17, 7, .q (xi (v401.Lines.1.length : Int))), (9, 17, 8, .q (xb false))] [] g2 (ob (o_ia (e := zj) 2 h402 rfl) (ob (zr zh v401.Lines.1) (ob (o_b h403) ob0))) (by kernel_rfl)
theorem z5i (k : Nat) (p0 : zb) (p1 : Int) (r : Bool) (h : zKb k p0 p1 = some r) : zD TE (ev TE) 9 [(.agg (za p0)), (di p1)] = some (z7 r) := by
 unfold zKb at h
 refine zi h (fun v1 h2 g1 => ?_)
 refine zo g1 (fun h3 g2 => ?_) (fun h3 g2 => ?_)
 ·subst h3
  refine zi g2 (fun v4 h5 g3 => ?_)
  exact zC (g := z7) g3 (zqc [(9, 2, 0, .c (db v4))] [(9, 1000001, (.nor, zP p0 p1 true))] (ob (zX k p0 p1 _ h2) (ob (zfg k _ h5) ob0)) (by kernel_rfl))
 ·subst h3
  refine zi g2 (fun v4 h5 g3 => ?_)
  refine zi g3 (fun v6 h7 g4 => ?_)
  refine zi g4 (fun v8 h9 g5 => ?_)
  refine zi g5 (fun v10 h11 g6 => ?_)
  refine zi g6 (fun v12 h13 g7 => ?_)
  refine zi g7 (fun v14 h15 g8 => ?_)
  refine zi g8 (fun v16 h17 g9 => ?_)
  refine zi g9 (fun v18 h19 g10 => ?_)
  refine zi g10 (fun v20 h21 g11 => ?_)
  refine zo g11 (fun h22 g12 => ?_) (fun h22 g12 => ?_)
  ·refine zo g12 (fun h23 g13 => ?_) (fun h23 g13 => ?_)
   ·refine zo g13 (fun h24 g14 => ?_) (fun h24 g14 => ?_)
    ·refine zo g14 (fun h25 g15 => ?_) (fun h25 g15 => ?_)
     ·refine zi g15 (fun v26 h27 g16 => ?_)
      refine zo g16 (fun h28 g17 => ?_) (fun h28 g17 => ?_)
      ·refine zi g17 (fun v29 h30 g18 => ?_)
       refine zo g18 (fun h31 g19 => ?_) (fun h31 g19 => ?_)
       ·refine zo g19 (fun h32 g20 => ?_) (fun h32 g20 => ?_)
        ·refine zi g20 (fun v33 h34 g21 => ?_)
         exact zC (g := z7) g21 (zqc [(9, 3, 3, .q (xi (p0.Slips.1.length : Int))), (9, 3, 4, .c (di v4)), (9, 4, 2, .c (.tup [(.agg [(di v6.1.Low), (di v6.1.High)]), (di v6.2)])), (9, 5, 2, .c (.tup [(di v8.1), (di v8.2)])), (9, 7, 6, .c (.agg [(di v10.Low), (di v10.High)])), (9, 7, 13, .c (.agg [(di v12.Low), (di v12.High)])), (9, 13, 2, .cr [((dl zk v14.2.1 (rcap true v14.2.1)), (rowO true 2 zk v14.2.1 false))] (.tup [(.agg [(di v16.1.Low), (di v16.1.High)]), (di v16.2)])), (9, 14, 2, .cr [((dl zk v14.2.2 (rcap true v14.2.2)), (rowO true 2 zk v14.2.2 false))] (.tup [(.agg [(di v18.1.Low), (di v18.1.High)]), (di v18.2)])), (9, 20, 2, .q (xb true)), (9, 20, 6, .q (xb true)), (9, 20, 10, .q (xb true)), (9, 20, 14, .q (xb true)), (9, 20, 20, .c (.agg [(di v26.Low), (di v26.High)])), (9, 20, 23, .q (xb true)), (9, 20, 29, .c (.agg [(di v29.Low), (di v29.High)])), (9, 20, 32, .q (xb true)), (9, 20, 44, .q (xb true)), (9, 20, 45, .c (db v33))] [(9, 1000001, (.nor, zP p0 p1 false)), (9, 0, (.nor, zF p0 p1 v4 v6 v8 v10 v12 v14)), (9, 2, (.nor, zE p0 p1 v4 v6 v8 v10 v12 v14 v16 v18 v20))] (ob (zX k p0 p1 _ h2) (ob (zr zj p0.Slips.1) (ob (ztb k p1 (p0.Slips.1.length : Int) _ h5) (ob (zK k p0 v4 _ h7) (ob (zeb k p0 v4 _ h9) (ob (zw k p0.Step.Low p0.Step.Low _ h11) (ob (zw k p0.Step.High p0.Step.High _ h13) (ob (zy (id := 0) (r' := (.nor, zF p0 p1 v4 v6 v8 v10 v12 v14)) (zxh (z9 k p0 p1 v4 v6 v8 v10 v12) k _ _ h15) rfl) (ob (o_cr true 2 zk v14.2.1 true 0 1064) (ob (zK k (⟨p0.Far, v10, (v14.2.1, (rcap true v14.2.1)), p0.Carry, p0.Slips⟩ : zb) v4 _ h17) (ob (o_cr true 2 zk v14.2.2 true 0 1065) (ob (zK k (⟨p0.Far, v12, (v14.2.2, (rcap true v14.2.2)), p0.Carry, p0.Slips⟩ : zb) v4 _ h19) (ob (zy (id := 2) (r' := (.nor, zE p0 p1 v4 v6 v8 v10 v12 v14 v16 v18 v20)) (zrb (zab k p0 p1 v4 v6 v8 v10 v12 v14 v16 v18) k _ _ h21) rfl) (ob (o_b h22) (ob (o_b h23) (ob (o_b h24) (ob (o_b h25) (ob (zw k v6.1.Low v6.1.Low _ h27) (ob (o_b h28) (ob (zw k v6.1.High v6.1.High _ h30) (ob (o_b h31) (ob (o_b h32) (ob (zfg k _ h34) ob0))))))))))))))))))))))) (by kernel_rfl))
        ·exact zC (g := z7) g20 (zqc [(9, 3, 3, .q (xi (p0.Slips.1.length : Int))), (9, 3, 4, .c (di v4)), (9, 4, 2, .c (.tup [(.agg [(di v6.1.Low), (di v6.1.High)]), (di v6.2)])), (9, 5, 2, .c (.tup [(di v8.1), (di v8.2)])), (9, 7, 6, .c (.agg [(di v10.Low), (di v10.High)])), (9, 7, 13, .c (.agg [(di v12.Low), (di v12.High)])), (9, 13, 2, .cr [((dl zk v14.2.1 (rcap true v14.2.1)), (rowO true 2 zk v14.2.1 false))] (.tup [(.agg [(di v16.1.Low), (di v16.1.High)]), (di v16.2)])), (9, 14, 2, .cr [((dl zk v14.2.2 (rcap true v14.2.2)), (rowO true 2 zk v14.2.2 false))] (.tup [(.agg [(di v18.1.Low), (di v18.1.High)]), (di v18.2)])), (9, 20, 2, .q (xb true)), (9, 20, 6, .q (xb true)), (9, 20, 10, .q (xb true)), (9, 20, 14, .q (xb true)), (9, 20, 20, .c (.agg [(di v26.Low), (di v26.High)])), (9, 20, 23, .q (xb true)), (9, 20, 29, .c (.agg [(di v29.Low), (di v29.High)])), (9, 20, 32, .q (xb true)), (9, 20, 44, .q (xb false))] [(9, 1000001, (.nor, zP p0 p1 false)), (9, 0, (.nor, zF p0 p1 v4 v6 v8 v10 v12 v14)), (9, 2, (.nor, zE p0 p1 v4 v6 v8 v10 v12 v14 v16 v18 v20))] (ob (zX k p0 p1 _ h2) (ob (zr zj p0.Slips.1) (ob (ztb k p1 (p0.Slips.1.length : Int) _ h5) (ob (zK k p0 v4 _ h7) (ob (zeb k p0 v4 _ h9) (ob (zw k p0.Step.Low p0.Step.Low _ h11) (ob (zw k p0.Step.High p0.Step.High _ h13) (ob (zy (id := 0) (r' := (.nor, zF p0 p1 v4 v6 v8 v10 v12 v14)) (zxh (z9 k p0 p1 v4 v6 v8 v10 v12) k _ _ h15) rfl) (ob (o_cr true 2 zk v14.2.1 true 0 1064) (ob (zK k (⟨p0.Far, v10, (v14.2.1, (rcap true v14.2.1)), p0.Carry, p0.Slips⟩ : zb) v4 _ h17) (ob (o_cr true 2 zk v14.2.2 true 0 1065) (ob (zK k (⟨p0.Far, v12, (v14.2.2, (rcap true v14.2.2)), p0.Carry, p0.Slips⟩ : zb) v4 _ h19) (ob (zy (id := 2) (r' := (.nor, zE p0 p1 v4 v6 v8 v10 v12 v14 v16 v18 v20)) (zrb (zab k p0 p1 v4 v6 v8 v10 v12 v14 v16 v18) k _ _ h21) rfl) (ob (o_b h22) (ob (o_b h23) (ob (o_b h24) (ob (o_b h25) (ob (zw k v6.1.Low v6.1.Low _ h27) (ob (o_b h28) (ob (zw k v6.1.High v6.1.High _ h30) (ob (o_b h31) (ob (o_b h32) ob0)))))))))))))))))))))) (by kernel_rfl))
       ·exact zC (g := z7) g19 (zqc [(9, 3, 3, .q (xi (p0.Slips.1.length : Int))), (9, 3, 4, .c (di v4)), (9, 4, 2, .c (.tup [(.agg [(di v6.1.Low), (di v6.1.High)]), (di v6.2)])), (9, 5, 2, .c (.tup [(di v8.1), (di v8.2)])), (9, 7, 6, .c (.agg [(di v10.Low), (di v10.High)])), (9, 7, 13, .c (.agg [(di v12.Low), (di v12.High)])), (9, 13, 2, .cr [((dl zk v14.2.1 (rcap true v14.2.1)), (rowO true 2 zk v14.2.1 false))] (.tup [(.agg [(di v16.1.Low), (di v16.1.High)]), (di v16.2)])), (9, 14, 2, .cr [((dl zk v14.2.2 (rcap true v14.2.2)), (rowO true 2 zk v14.2.2 false))] (.tup [(.agg [(di v18.1.Low), (di v18.1.High)]), (di v18.2)])), (9, 20, 2, .q (xb true)), (9, 20, 6, .q (xb true)), (9, 20, 10, .q (xb true)), (9, 20, 14, .q (xb true)), (9, 20, 20, .c (.agg [(di v26.Low), (di v26.High)])), (9, 20, 23, .q (xb true)), (9, 20, 29, .c (.agg [(di v29.Low), (di v29.High)])), (9, 20, 32, .q (xb false))] [(9, 1000001, (.nor, zP p0 p1 false)), (9, 0, (.nor, zF p0 p1 v4 v6 v8 v10 v12 v14)), (9, 2, (.nor, zE p0 p1 v4 v6 v8 v10 v12 v14 v16 v18 v20))] (ob (zX k p0 p1 _ h2) (ob (zr zj p0.Slips.1) (ob (ztb k p1 (p0.Slips.1.length : Int) _ h5) (ob (zK k p0 v4 _ h7) (ob (zeb k p0 v4 _ h9) (ob (zw k p0.Step.Low p0.Step.Low _ h11) (ob (zw k p0.Step.High p0.Step.High _ h13) (ob (zy (id := 0) (r' := (.nor, zF p0 p1 v4 v6 v8 v10 v12 v14)) (zxh (z9 k p0 p1 v4 v6 v8 v10 v12) k _ _ h15) rfl) (ob (o_cr true 2 zk v14.2.1 true 0 1064) (ob (zK k (⟨p0.Far, v10, (v14.2.1, (rcap true v14.2.1)), p0.Carry, p0.Slips⟩ : zb) v4 _ h17) (ob (o_cr true 2 zk v14.2.2 true 0 1065) (ob (zK k (⟨p0.Far, v12, (v14.2.2, (rcap true v14.2.2)), p0.Carry, p0.Slips⟩ : zb) v4 _ h19) (ob (zy (id := 2) (r' := (.nor, zE p0 p1 v4 v6 v8 v10 v12 v14 v16 v18 v20)) (zrb (zab k p0 p1 v4 v6 v8 v10 v12 v14 v16 v18) k _ _ h21) rfl) (ob (o_b h22) (ob (o_b h23) (ob (o_b h24) (ob (o_b h25) (ob (zw k v6.1.Low v6.1.Low _ h27) (ob (o_b h28) (ob (zw k v6.1.High v6.1.High _ h30) (ob (o_b h31) ob0))))))))))))))))))))) (by kernel_rfl))
      ·exact zC (g := z7) g17 (zqc [(9, 3, 3, .q (xi (p0.Slips.1.length : Int))), (9, 3, 4, .c (di v4)), (9, 4, 2, .c (.tup [(.agg [(di v6.1.Low), (di v6.1.High)]), (di v6.2)])), (9, 5, 2, .c (.tup [(di v8.1), (di v8.2)])), (9, 7, 6, .c (.agg [(di v10.Low), (di v10.High)])), (9, 7, 13, .c (.agg [(di v12.Low), (di v12.High)])), (9, 13, 2, .cr [((dl zk v14.2.1 (rcap true v14.2.1)), (rowO true 2 zk v14.2.1 false))] (.tup [(.agg [(di v16.1.Low), (di v16.1.High)]), (di v16.2)])), (9, 14, 2, .cr [((dl zk v14.2.2 (rcap true v14.2.2)), (rowO true 2 zk v14.2.2 false))] (.tup [(.agg [(di v18.1.Low), (di v18.1.High)]), (di v18.2)])), (9, 20, 2, .q (xb true)), (9, 20, 6, .q (xb true)), (9, 20, 10, .q (xb true)), (9, 20, 14, .q (xb true)), (9, 20, 20, .c (.agg [(di v26.Low), (di v26.High)])), (9, 20, 23, .q (xb false))] [(9, 1000001, (.nor, zP p0 p1 false)), (9, 0, (.nor, zF p0 p1 v4 v6 v8 v10 v12 v14)), (9, 2, (.nor, zE p0 p1 v4 v6 v8 v10 v12 v14 v16 v18 v20))] (ob (zX k p0 p1 _ h2) (ob (zr zj p0.Slips.1) (ob (ztb k p1 (p0.Slips.1.length : Int) _ h5) (ob (zK k p0 v4 _ h7) (ob (zeb k p0 v4 _ h9) (ob (zw k p0.Step.Low p0.Step.Low _ h11) (ob (zw k p0.Step.High p0.Step.High _ h13) (ob (zy (id := 0) (r' := (.nor, zF p0 p1 v4 v6 v8 v10 v12 v14)) (zxh (z9 k p0 p1 v4 v6 v8 v10 v12) k _ _ h15) rfl) (ob (o_cr true 2 zk v14.2.1 true 0 1064) (ob (zK k (⟨p0.Far, v10, (v14.2.1, (rcap true v14.2.1)), p0.Carry, p0.Slips⟩ : zb) v4 _ h17) (ob (o_cr true 2 zk v14.2.2 true 0 1065) (ob (zK k (⟨p0.Far, v12, (v14.2.2, (rcap true v14.2.2)), p0.Carry, p0.Slips⟩ : zb) v4 _ h19) (ob (zy (id := 2) (r' := (.nor, zE p0 p1 v4 v6 v8 v10 v12 v14 v16 v18 v20)) (zrb (zab k p0 p1 v4 v6 v8 v10 v12 v14 v16 v18) k _ _ h21) rfl) (ob (o_b h22) (ob (o_b h23) (ob (o_b h24) (ob (o_b h25) (ob (zw k v6.1.Low v6.1.Low _ h27) (ob (o_b h28) ob0))))))))))))))))))) (by kernel_rfl))
     ·exact zC (g := z7) g15 (zqc [(9, 3, 3, .q (xi (p0.Slips.1.length : Int))), (9, 3, 4, .c (di v4)), (9, 4, 2, .c (.tup [(.agg [(di v6.1.Low), (di v6.1.High)]), (di v6.2)])), (9, 5, 2, .c (.tup [(di v8.1), (di v8.2)])), (9, 7, 6, .c (.agg [(di v10.Low), (di v10.High)])), (9, 7, 13, .c (.agg [(di v12.Low), (di v12.High)])), (9, 13, 2, .cr [((dl zk v14.2.1 (rcap true v14.2.1)), (rowO true 2 zk v14.2.1 false))] (.tup [(.agg [(di v16.1.Low), (di v16.1.High)]), (di v16.2)])), (9, 14, 2, .cr [((dl zk v14.2.2 (rcap true v14.2.2)), (rowO true 2 zk v14.2.2 false))] (.tup [(.agg [(di v18.1.Low), (di v18.1.High)]), (di v18.2)])), (9, 20, 2, .q (xb true)), (9, 20, 6, .q (xb true)), (9, 20, 10, .q (xb true)), (9, 20, 14, .q (xb false))] [(9, 1000001, (.nor, zP p0 p1 false)), (9, 0, (.nor, zF p0 p1 v4 v6 v8 v10 v12 v14)), (9, 2, (.nor, zE p0 p1 v4 v6 v8 v10 v12 v14 v16 v18 v20))] (ob (zX k p0 p1 _ h2) (ob (zr zj p0.Slips.1) (ob (ztb k p1 (p0.Slips.1.length : Int) _ h5) (ob (zK k p0 v4 _ h7) (ob (zeb k p0 v4 _ h9) (ob (zw k p0.Step.Low p0.Step.Low _ h11) (ob (zw k p0.Step.High p0.Step.High _ h13) (ob (zy (id := 0) (r' := (.nor, zF p0 p1 v4 v6 v8 v10 v12 v14)) (zxh (z9 k p0 p1 v4 v6 v8 v10 v12) k _ _ h15) rfl) (ob (o_cr true 2 zk v14.2.1 true 0 1064) (ob (zK k (⟨p0.Far, v10, (v14.2.1, (rcap true v14.2.1)), p0.Carry, p0.Slips⟩ : zb) v4 _ h17) (ob (o_cr true 2 zk v14.2.2 true 0 1065) (ob (zK k (⟨p0.Far, v12, (v14.2.2, (rcap true v14.2.2)), p0.Carry, p0.Slips⟩ : zb) v4 _ h19) (ob (zy (id := 2) (r' := (.nor, zE p0 p1 v4 v6 v8 v10 v12 v14 v16 v18 v20)) (zrb (zab k p0 p1 v4 v6 v8 v10 v12 v14 v16 v18) k _ _ h21) rfl) (ob (o_b h22) (ob (o_b h23) (ob (o_b h24) (ob (o_b h25) ob0))))))))))))))))) (by kernel_rfl))
    ·exact zC (g := z7) g14 (zqc [(9, 3, 3, .q (xi (p0.Slips.1.length : Int))), (9, 3, 4, .c (di v4)), (9, 4, 2, .c (.tup [(.agg [(di v6.1.Low), (di v6.1.High)]), (di v6.2)])), (9, 5, 2, .c (.tup [(di v8.1), (di v8.2)])), (9, 7, 6, .c (.agg [(di v10.Low), (di v10.High)])), (9, 7, 13, .c (.agg [(di v12.Low), (di v12.High)])), (9, 13, 2, .cr [((dl zk v14.2.1 (rcap true v14.2.1)), (rowO true 2 zk v14.2.1 false))] (.tup [(.agg [(di v16.1.Low), (di v16.1.High)]), (di v16.2)])), (9, 14, 2, .cr [((dl zk v14.2.2 (rcap true v14.2.2)), (rowO true 2 zk v14.2.2 false))] (.tup [(.agg [(di v18.1.Low), (di v18.1.High)]), (di v18.2)])), (9, 20, 2, .q (xb true)), (9, 20, 6, .q (xb true)), (9, 20, 10, .q (xb false))] [(9, 1000001, (.nor, zP p0 p1 false)), (9, 0, (.nor, zF p0 p1 v4 v6 v8 v10 v12 v14)), (9, 2, (.nor, zE p0 p1 v4 v6 v8 v10 v12 v14 v16 v18 v20))] (ob (zX k p0 p1 _ h2) (ob (zr zj p0.Slips.1) (ob (ztb k p1 (p0.Slips.1.length : Int) _ h5) (ob (zK k p0 v4 _ h7) (ob (zeb k p0 v4 _ h9) (ob (zw k p0.Step.Low p0.Step.Low _ h11) (ob (zw k p0.Step.High p0.Step.High _ h13) (ob (zy (id := 0) (r' := (.nor, zF p0 p1 v4 v6 v8 v10 v12 v14)) (zxh (z9 k p0 p1 v4 v6 v8 v10 v12) k _ _ h15) rfl) (ob (o_cr true 2 zk v14.2.1 true 0 1064) (ob (zK k (⟨p0.Far, v10, (v14.2.1, (rcap true v14.2.1)), p0.Carry, p0.Slips⟩ : zb) v4 _ h17) (ob (o_cr true 2 zk v14.2.2 true 0 1065) (ob (zK k (⟨p0.Far, v12, (v14.2.2, (rcap true v14.2.2)), p0.Carry, p0.Slips⟩ : zb) v4 _ h19) (ob (zy (id := 2) (r' := (.nor, zE p0 p1 v4 v6 v8 v10 v12 v14 v16 v18 v20)) (zrb (zab k p0 p1 v4 v6 v8 v10 v12 v14 v16 v18) k _ _ h21) rfl) (ob (o_b h22) (ob (o_b h23) (ob (o_b h24) ob0)))))))))))))))) (by kernel_rfl))
   ·exact zC (g := z7) g13 (zqc [(9, 3, 3, .q (xi (p0.Slips.1.length : Int))), (9, 3, 4, .c (di v4)), (9, 4, 2, .c (.tup [(.agg [(di v6.1.Low), (di v6.1.High)]), (di v6.2)])), (9, 5, 2, .c (.tup [(di v8.1), (di v8.2)])), (9, 7, 6, .c (.agg [(di v10.Low), (di v10.High)])), (9, 7, 13, .c (.agg [(di v12.Low), (di v12.High)])), (9, 13, 2, .cr [((dl zk v14.2.1 (rcap true v14.2.1)), (rowO true 2 zk v14.2.1 false))] (.tup [(.agg [(di v16.1.Low), (di v16.1.High)]), (di v16.2)])), (9, 14, 2, .cr [((dl zk v14.2.2 (rcap true v14.2.2)), (rowO true 2 zk v14.2.2 false))] (.tup [(.agg [(di v18.1.Low), (di v18.1.High)]), (di v18.2)])), (9, 20, 2, .q (xb true)), (9, 20, 6, .q (xb false))] [(9, 1000001, (.nor, zP p0 p1 false)), (9, 0, (.nor, zF p0 p1 v4 v6 v8 v10 v12 v14)), (9, 2, (.nor, zE p0 p1 v4 v6 v8 v10 v12 v14 v16 v18 v20))] (ob (zX k p0 p1 _ h2) (ob (zr zj p0.Slips.1) (ob (ztb k p1 (p0.Slips.1.length : Int) _ h5) (ob (zK k p0 v4 _ h7) (ob (zeb k p0 v4 _ h9) (ob (zw k p0.Step.Low p0.Step.Low _ h11) (ob (zw k p0.Step.High p0.Step.High _ h13) (ob (zy (id := 0) (r' := (.nor, zF p0 p1 v4 v6 v8 v10 v12 v14)) (zxh (z9 k p0 p1 v4 v6 v8 v10 v12) k _ _ h15) rfl) (ob (o_cr true 2 zk v14.2.1 true 0 1064) (ob (zK k (⟨p0.Far, v10, (v14.2.1, (rcap true v14.2.1)), p0.Carry, p0.Slips⟩ : zb) v4 _ h17) (ob (o_cr true 2 zk v14.2.2 true 0 1065) (ob (zK k (⟨p0.Far, v12, (v14.2.2, (rcap true v14.2.2)), p0.Carry, p0.Slips⟩ : zb) v4 _ h19) (ob (zy (id := 2) (r' := (.nor, zE p0 p1 v4 v6 v8 v10 v12 v14 v16 v18 v20)) (zrb (zab k p0 p1 v4 v6 v8 v10 v12 v14 v16 v18) k _ _ h21) rfl) (ob (o_b h22) (ob (o_b h23) ob0))))))))))))))) (by kernel_rfl))
  ·exact zC (g := z7) g12 (zqc [(9, 3, 3, .q (xi (p0.Slips.1.length : Int))), (9, 3, 4, .c (di v4)), (9, 4, 2, .c (.tup [(.agg [(di v6.1.Low), (di v6.1.High)]), (di v6.2)])), (9, 5, 2, .c (.tup [(di v8.1), (di v8.2)])), (9, 7, 6, .c (.agg [(di v10.Low), (di v10.High)])), (9, 7, 13, .c (.agg [(di v12.Low), (di v12.High)])), (9, 13, 2, .cr [((dl zk v14.2.1 (rcap true v14.2.1)), (rowO true 2 zk v14.2.1 false))] (.tup [(.agg [(di v16.1.Low), (di v16.1.High)]), (di v16.2)])), (9, 14, 2, .cr [((dl zk v14.2.2 (rcap true v14.2.2)), (rowO true 2 zk v14.2.2 false))] (.tup [(.agg [(di v18.1.Low), (di v18.1.High)]), (di v18.2)])), (9, 20, 2, .q (xb false))] [(9, 1000001, (.nor, zP p0 p1 false)), (9, 0, (.nor, zF p0 p1 v4 v6 v8 v10 v12 v14)), (9, 2, (.nor, zE p0 p1 v4 v6 v8 v10 v12 v14 v16 v18 v20))] (ob (zX k p0 p1 _ h2) (ob (zr zj p0.Slips.1) (ob (ztb k p1 (p0.Slips.1.length : Int) _ h5) (ob (zK k p0 v4 _ h7) (ob (zeb k p0 v4 _ h9) (ob (zw k p0.Step.Low p0.Step.Low _ h11) (ob (zw k p0.Step.High p0.Step.High _ h13) (ob (zy (id := 0) (r' := (.nor, zF p0 p1 v4 v6 v8 v10 v12 v14)) (zxh (z9 k p0 p1 v4 v6 v8 v10 v12) k _ _ h15) rfl) (ob (o_cr true 2 zk v14.2.1 true 0 1064) (ob (zK k (⟨p0.Far, v10, (v14.2.1, (rcap true v14.2.1)), p0.Carry, p0.Slips⟩ : zb) v4 _ h17) (ob (o_cr true 2 zk v14.2.2 true 0 1065) (ob (zK k (⟨p0.Far, v12, (v14.2.2, (rcap true v14.2.2)), p0.Carry, p0.Slips⟩ : zb) v4 _ h19) (ob (zy (id := 2) (r' := (.nor, zE p0 p1 v4 v6 v8 v10 v12 v14 v16 v18 v20)) (zrb (zab k p0 p1 v4 v6 v8 v10 v12 v14 v16 v18) k _ _ h21) rfl) (ob (o_b h22) ob0)))))))))))))) (by kernel_rfl))
end Go.AM

namespace Go.AM
open Go
def Ok {α : Type} (o : Option α) (Q : α → Prop) : Prop := ∃ a, o = some a ∧ Q a
section
variable {α β : Type}
theorem Ok.pure {a : α} {Q : α → Prop} (h : Q a) : Ok (some a) Q := ⟨a, rfl, h⟩
theorem Ok.bind {o : Option α} {g : α → Option β} {P : α → Prop} {Q : β → Prop} (h : Ok o P) (hg : ∀ a, P a → Ok (g a) Q) : Ok (o.bind g) Q := by
 obtain ⟨a, rfl, ha⟩ := h
 exact hg a ha
theorem Ok.mono {o : Option α} {P Q : α → Prop} (h : Ok o P) (hq : ∀ a, P a → Q a) : Ok o Q := by
 obtain ⟨a, ha, hp⟩ := h
 exact ⟨a, ha, hq a hp⟩
theorem Ok.cond {b : Bool} {x y : Option α} {Q : α → Prop} (ht : b = true → Ok x Q) (hf : b = false → Ok y Q) : Ok (cond b x y) Q := by
 cases b
 ·exact hf rfl
 ·exact ht rfl
theorem Ok.eq {o : Option α} {a : α} (h : Ok o (· = a)) : o = some a := by
 obtain ⟨b, hb, rfl⟩ := h
 exact hb
theorem Ok.imp {o : Option α} {a : α} {Q : α → Prop} (h : Ok o Q) (ho : o = some a) : Q a := by
 obtain ⟨b, hb, hq⟩ := h
 rw [ho] at hb; cases hb; exact hq
theorem Ok.iter {S R : Type} {f : S → Option (S ⊕ R)} {Q : R → Prop} (I : Nat → S → Prop) (n : Nat)
  (h : ∀ j s, j ≤ n → I j s → Ok (f s) (fun x => match x with
   | .inl s' => j < n ∧ I (j + 1) s'
   | .inr r => Q r)) {k : Nat} {s : S} (h0 : I 0 s) (hk : n < k) : Ok (Go.AM.iter f k s) Q := by
 suffices ∀ m j s, j + m = n → I j s → ∀ k, m < k → Ok (Go.AM.iter f k s) Q from this n 0 s (by omega) h0 k hk
 intro m
 induction m with
 | zero =>
  intro j s hj hi k hk
  obtain ⟨k, rfl⟩ : ∃ k', k = k' + 1 := ⟨k - 1, by omega⟩
  obtain ⟨x, hx, hq⟩ := h j s (by omega) hi
  cases x with
  | inl s' => exact absurd hq.1 (by omega)
  | inr r => exact ⟨r, by simp [Go.AM.iter, hx], hq⟩
 | succ m ih =>
  intro j s hj hi k hk
  obtain ⟨k, rfl⟩ : ∃ k', k = k' + 1 := ⟨k - 1, by omega⟩
  obtain ⟨x, hx, hq⟩ := h j s (by omega) hi
  cases x with
  | inl s' =>
   obtain ⟨r, hr, hq'⟩ := ih (j + 1) s' (by omega) hq.2 k (by omega)
   exact ⟨r, by simp [Go.AM.iter, hx, hr], hq'⟩
  | inr r => exact ⟨r, by simp [Go.AM.iter, hx], hq⟩
def Goes {S R : Type} (I : S → Prop) (Q : R → Prop) : S ⊕ R → Prop
 | .inl s => I s
 | .inr r => Q r
theorem Ok.count {S R : Type} {f : S → Option (S ⊕ R)} {Q : R → Prop} (n : Nat) (I : Nat → S → Prop)
  (next : ∀ j s, j < n → I j s → Ok (f s) (Goes (I (j + 1)) Q))
  (last : ∀ s, I n s → Ok (f s) (Goes (fun _ => False) Q)) {k : Nat} {s : S} (h0 : I 0 s) (hk : n < k) : Ok (Go.AM.iter f k s) Q := by
 refine Ok.iter I n (fun j s hj hi => ?_) h0 hk
 by_cases h : j < n
 ·refine (next j s h hi).mono fun x hx => ?_
  cases x with
  | inl s' => exact ⟨h, hx⟩
  | inr r => exact hx
 ·obtain rfl : j = n := by omega
  refine (last s hi).mono fun x hx => ?_
  cases x with
  | inl s' => exact hx.elim
  | inr r => exact hx
end
theorem zjc {n : Int} (h1 : -9223372036854775808 ≤ n) (h2 : n ≤ 9223372036854775807) : w64 n = n := by
 have hd : w64 n = if n % 18446744073709551616 ≥ 9223372036854775808 then n % 18446744073709551616 - 18446744073709551616 else n % 18446744073709551616 := by
  show IntKind.wrap .i64 n = _
  have e : IntKind.wrap .i64 n = if (true && decide (n % 18446744073709551616 ≥ 9223372036854775808)) = true then n % 18446744073709551616 - 18446744073709551616 else n % 18446744073709551616 := rfl
  rw [e]
  simp
 rw [hd]
 split <;> omega
theorem ziv {α : Type} {l : List α} {i : Int} (h0 : 0 ≤ i) (h : i.toNat < l.length) : idx l i = some l[i.toNat] := by
 simp [idx, h0, List.getElem?_eq_getElem h]
theorem z3c {α : Type} {l : List α} {i : Nat} (h : i < l.length) : idx l (i : Int) = some l[i] := by
 simp [idx, List.getElem?_eq_getElem h]
end Go.AM
set_option linter.unusedVariables false
namespace Go.AM
open Go
theorem zBd (c x : Bool) : cond c (some x) (some false) = some (c && x) := by cases c <;> rfl
theorem z6c {j n : Nat} (h : j < n) (hn : n < 9223372036854775808) : w64 ((j : Int) + 1) = ((j + 1 : Nat) : Int) := by
 rw [zjc (by omega) (by omega)]; push_cast; rfl
theorem zYm {n : Nat} (hn : n < 9223372036854775808) : w64 ((n : Int) - 1) = (n : Int) - 1 := zjc (by omega) (by omega)
theorem zsd {α : Type} {j : Nat} {l : List α} (h : j < l.length) : decide ((j : Int) < (l.length : Int)) = true := by simp; omega
theorem zvh {α : Type} {l : List α} : decide ((l.length : Int) < (l.length : Int)) = false := by simp
theorem Ok.everyI {α : Type} {f : Bool × Int → Option ((Bool × Int) ⊕ (Bool × Int))} (l : List α) (p : Nat → α → Prop)
  (next : ∀ acc (j : Nat) (h : j < l.length), Ok (f (acc, (j : Int))) (fun x => ∃ r, x = .inl (r, ((j + 1 : Nat) : Int)) ∧ (r = true ↔ acc = true ∧ p j l[j])))
  (last : ∀ acc, f (acc, (l.length : Int)) = some (.inr (acc, (l.length : Int)))) {k : Nat} {acc : Bool} (hk : l.length < k) :
  Ok (Go.AM.iter f k (acc, 0)) (fun r => r.1 = true ↔ acc = true ∧ ∀ j (h : j < l.length), p j l[j]) := by
 refine Ok.count l.length (fun j s => s.2 = (j : Int) ∧ (s.1 = true ↔ acc = true ∧ ∀ i (h : i < l.length), i < j → p i l[i])) ?_ ?_ ⟨rfl, by simp⟩ hk
 ·rintro j ⟨a, i⟩ hj ⟨hi, ha⟩
  obtain rfl : i = (j : Int) := hi
  refine (next a j hj).mono ?_
  rintro x ⟨r, rfl, hr⟩
  refine ⟨rfl, hr.trans ?_⟩
  rw [ha]
  constructor
  ·rintro ⟨⟨h1, h2⟩, h3⟩
   refine ⟨h1, fun i h hij => ?_⟩
   by_cases e : i = j
   ·subst e; exact h3
   ·exact h2 i h (by omega)
  ·rintro ⟨h1, h2⟩
   exact ⟨⟨h1, fun i h hij => h2 i h (by omega)⟩, h2 j hj (by omega)⟩
 ·rintro ⟨a, i⟩ ⟨hi, ha⟩
  obtain rfl : i = (l.length : Int) := hi
  rw [last a]
  refine Ok.pure ?_
  show a = true ↔ _
  rw [ha]
  exact ⟨fun h => ⟨h.1, fun i hi => h.2 i hi hi⟩, fun h => ⟨h.1, fun i hi _ => h.2 i hi⟩⟩
theorem Ok.everyWI {α : Type} {f : Bool × Int → Option ((Bool × Int) ⊕ (Bool × Int))} (l : List α) (p : Nat → α → Prop)
  (next : ∀ (j : Nat) (h : j < l.length), (∀ i (h : i < l.length), i < j → p i l[i]) → Ok (f (true, (j : Int))) (fun x => ∃ r, x = .inl (r, ((j + 1 : Nat) : Int)) ∧ (r = true ↔ p j l[j])))
  (out : ∀ i, f (false, i) = some (.inr (false, i)))
  (last : f (true, (l.length : Int)) = some (.inr (true, (l.length : Int)))) {k : Nat} {acc : Bool} (hk : l.length < k) :
  Ok (Go.AM.iter f k (acc, 0)) (fun r => r.1 = true ↔ acc = true ∧ ∀ j (h : j < l.length), p j l[j]) := by
 refine Ok.count l.length (fun j s => s.2 = (j : Int) ∧ (s.1 = true ↔ acc = true ∧ ∀ i (h : i < l.length), i < j → p i l[i])) ?_ ?_ ⟨rfl, by simp⟩ hk
 ·rintro j ⟨a, i⟩ hj ⟨hi, ha⟩
  obtain rfl : i = (j : Int) := hi
  cases a with
  | false =>
   rw [out]
   refine Ok.pure ?_
   constructor
   ·intro h; cases h
   ·rintro ⟨h1, h2⟩
    exact ha.2 ⟨h1, fun i h _ => h2 i h⟩
  | true =>
   obtain ⟨h1, h2⟩ := ha.1 rfl
   refine (next j hj h2).mono ?_
   rintro x ⟨r, rfl, hr⟩
   refine ⟨rfl, hr.trans ?_⟩
   constructor
   ·intro h3
    refine ⟨h1, fun i h hij => ?_⟩
    by_cases e : i = j
    ·subst e; exact h3
    ·exact h2 i h (by omega)
   ·rintro ⟨_, h3⟩
    exact h3 j hj (by omega)
 ·rintro ⟨a, i⟩ ⟨hi, ha⟩
  obtain rfl : i = (l.length : Int) := hi
  have fin : a = true ↔ acc = true ∧ ∀ j (h : j < l.length), p j l[j] := ⟨fun h => ⟨(ha.1 h).1, fun j hj => (ha.1 h).2 j hj hj⟩, fun h => ha.2 ⟨h.1, fun j hj _ => h.2 j hj⟩⟩
  cases a with
  | false => rw [out]; exact Ok.pure fin
  | true => rw [last]; exact Ok.pure fin
def ex (f : Nat → Nat) : Nat → List Nat
 | 0 => []
 | m + 1 => List.replicate (f m) m ++ ex f m
def hi (f : Nat → Nat) (m : Nat) : Nat → List Nat
 | 0 => []
 | d + 1 => List.replicate (f (m + d)) (m + d) ++ hi f m d
theorem z7q (f : Nat → Nat) (m : Nat) : ∀ d, hi f m (d + 1) = hi f (m + 1) d ++ List.replicate (f m) m
 | 0 => by simp [hi]
 | d + 1 => by
  have ih := z7q f m d
  rw [hi, ih, hi]
  have : m + 1 + d = m + (d + 1) := by omega
  rw [this, List.append_assoc]
theorem zjn {f g : Nat → Nat} {m : Nat} : ∀ {d}, (∀ j, m ≤ j → j < m + d → f j = g j) → hi f m d = hi g m d
 | 0, _ => rfl
 | d + 1, h => by
  rw [hi, hi, h (m + d) (by omega) (by omega), zjn fun j h1 h2 => h j h1 (by omega)]
theorem zXr (f : Nat → Nat) : ∀ n, hi f 0 n = ex f n
 | 0 => rfl
 | n + 1 => by rw [hi, ex, zXr f n]; simp
theorem zIq {f : Nat → Nat} : ∀ {n}, ex f n = [] ↔ ∀ j, j < n → f j = 0
 | 0 => by simp [ex]
 | n + 1 => by
  rw [ex, List.append_eq_nil_iff, zIq, List.replicate_eq_nil_iff]
  constructor
  ·rintro ⟨h1, h2⟩ j hj
   by_cases e : j = n
   ·rw [e]; exact h1
   ·exact h2 j (by omega)
  ·intro h
   exact ⟨h n (by omega), fun j hj => h j (by omega)⟩
theorem zGs {f : Nat → Nat} {x : Nat} : ∀ {n}, x ∈ ex f n → x < n ∧ 0 < f x
 | 0, h => by simp [ex] at h
 | n + 1, h => by
  rw [ex, List.mem_append, List.mem_replicate] at h
  rcases h with ⟨h1, rfl⟩ | h
  ·exact ⟨by omega, by omega⟩
  ·have := zGs h
   exact ⟨by omega, this.2⟩
theorem zFm {f : Nat → Nat} {b : Nat} : ∀ {n}, (∀ j, j < n → f j ≤ b) → (ex f n).length ≤ b * n
 | 0, _ => by simp [ex]
 | n + 1, h => by
  have := zFm (n := n) fun j hj => h j (by omega)
  have := h n (by omega)
  rw [ex, List.length_append, List.length_replicate, Nat.mul_succ]
  omega
theorem z2t (r c m : Nat) (t : List Nat) : (List.replicate c m ++ t).drop r = List.replicate (c - r) m ++ t.drop (r - c) := by
 rw [List.drop_append, List.drop_replicate, List.length_replicate]
theorem zLt (r c m : Nat) (t : List Nat) : (List.replicate c m ++ t).take r = List.replicate (min r c) m ++ t.take (r - c) := by
 rw [List.take_append, List.take_replicate, List.length_replicate]
def topF (b : Nat → Nat) (far : Nat → Int) : Nat → Int
 | 0 => 0
 | j + 1 => if 0 < b j then far j else topF b far j
theorem zVr {b : Nat → Nat} {far : Nat → Int} {x : Nat} {t : List Nat} : ∀ {n}, ex b n = x :: t → topF b far n = far x
 | 0, h => by simp [ex] at h
 | n + 1, h => by
  rw [ex] at h
  rw [topF]
  by_cases hb : 0 < b n
  ·rw [if_pos hb]
   obtain ⟨c, hc⟩ : ∃ c, b n = c + 1 := ⟨b n - 1, by omega⟩
   rw [hc, List.replicate_succ, List.cons_append] at h
   injection h with h1 h2
   rw [h1]
  ·rw [if_neg hb]
   have : b n = 0 := by omega
   rw [this] at h
   exact zVr (by simpa using h)
def wk (C : Nat) (far : Nat → Int) : Nat → List Nat → Int
 | _, [] => 0
 | 0, x :: t => 2 * far x + wk C far (C - 1) t
 | r + 1, _ :: t => wk C far r t
theorem zLr (C : Nat) (far : Nat → Int) : ∀ (r : Nat) (l : List Nat), wk C far r l = wk C far 0 (l.drop r)
 | 0, _ => by simp
 | r + 1, [] => by simp [wk]
 | r + 1, x :: t => by rw [wk, List.drop_succ_cons, zLr C far r t]
theorem z6u {C : Nat} (hC : 0 < C) (far : Nat → Int) (x : Nat) (t : List Nat) : wk C far 0 (x :: t) = 2 * far x + wk C far 0 ((x :: t).drop C) := by
 rw [wk, zLr C far (C - 1) t]
 obtain ⟨c, rfl⟩ : ∃ c, C = c + 1 := ⟨C - 1, by omega⟩
 simp
theorem zOl {C : Nat} {far : Nat → Int} {b : Int} (hb : 0 ≤ b) : ∀ (l : List Nat) (r : Nat), (∀ x ∈ l, 0 ≤ far x ∧ far x ≤ b) → 0 ≤ wk C far r l ∧ wk C far r l ≤ 2 * b * l.length
 | [], r, _ => by cases r <;> simp [wk]
 | x :: t, 0, h => by
  have := zOl (C := C) hb t (C - 1) fun y hy => h y (by simp [hy])
  have hx := h x (by simp)
  rw [wk, List.length_cons]
  push_cast
  rw [Int.mul_add]
  omega
 | x :: t, r + 1, h => by
  have := zOl (C := C) hb t r fun y hy => h y (by simp [hy])
  rw [wk, List.length_cons]
  push_cast
  rw [Int.mul_add]
  omega
end Go.AM
set_option linter.unusedVariables false
namespace Go.AM
open Go
abbrev nF (f : zb) : Nat := f.Far.1.length
abbrev nS (f : zb) : Nat := f.Slips.1.length
def fr (f : zb) (i : Nat) : Int := (f.Far.1[i]?).getD 0
theorem zVv {f : zb} {i : Nat} (h : i < nF f) : f.Far.1[i] = fr f i := by
 unfold fr
 rw [List.getElem?_eq_getElem h]; rfl
theorem zMm {f : zb} {i : Nat} (h : i < nF f) : idx f.Far.1 (i : Int) = some (fr f i) := by rw [z3c h, zVv h]
def frB (f : zb) : Nat → Int
 | 0 => 0
 | i + 1 => fr f i
def sh (l : List zl) (i : Nat) : Int := ((l[i]?).map (·.Shelf)).getD 0
def shB (l : List zl) : Nat → Int
 | 0 => -1
 | i + 1 => sh l i
theorem zzk {l : List zl} {i : Nat} (h : i < l.length) : l[i].Shelf = sh l i := by
 unfold sh
 rw [List.getElem?_eq_getElem h]; rfl
def z3b (lo hi : Int) (s : zp) : Prop := lo ≤ s.Low ∧ s.Low ≤ s.High ∧ s.High ≤ hi
def zAf (n : Nat) (l : List zl) : Prop := ∀ j (h : j < l.length), (shB l j + 1 ≤ l[j].Shelf ∧ l[j].Shelf ≤ (n : Int) - 1) ∧ (1 ≤ l[j].Many ∧ l[j].Many ≤ 20)
def zSh (n : Nat) (s : zm) : Prop := ((0 ≤ s.Until ∧ s.Until ≤ 100000) ∧ 0 < s.Lines.1.length) ∧ zAf n s.Lines.1
structure Fine (f : zb) : Prop where
 nfar : 1 ≤ nF f ∧ nF f ≤ 12
 npick : f.Pick.1.length = nF f
 step : z3b 1 10 f.Step
 carry : 1 ≤ f.Carry ∧ f.Carry ≤ 20
 nslips : nS f ≤ 9
 far : ∀ i, i < nF f → frB f i ≤ fr f i ∧ fr f i ≤ 500
 pick : ∀ i (h : i < f.Pick.1.length), z3b 0 300 f.Pick.1[i]
 slips : ∀ i (h : i < nS f), zSh (nF f) f.Slips.1[i]
structure z5c (f : zb) : Prop where
 far : nF f < 9223372036854775808
 pick : f.Pick.1.length < 9223372036854775808
 slips : nS f < 9223372036854775808
 lines : ∀ s ∈ f.Slips.1, s.Lines.1.length < 9223372036854775808
structure Fuel (k : Nat) (f : zb) : Prop where
 k0 : 5000 < k
 far : nF f < k
 pick : f.Pick.1.length < k
 slips : nS f < k
 lines : ∀ s ∈ f.Slips.1, s.Lines.1.length < k
theorem zbi (k : Nat) (a b c : Int) : zvb k a b c = some (decide (b ≤ a) && decide (a ≤ c)) := by
 simp only [zvb, zBd]
theorem zYl (k : Nat) (a b c : Int) : zgb k a b c = some (decide (b ≤ a) && decide (a ≤ c)) := by
 simp only [zgb, zBd]
theorem zWp (k : Nat) (s : zp) (a b : Int) : zff k s a b = some (decide (a ≤ s.Low) && (decide (s.Low ≤ s.High) && decide (s.High ≤ b))) := by
 simp only [zff, zBd]
theorem z0p (k : Nat) (s : zp) (a b : Int) : zIb k s a b = some (decide (a ≤ s.Low) && (decide (s.Low ≤ s.High) && decide (s.High ≤ b))) := by
 simp only [zIb, zBd]
theorem z0t (k : Nat) (f : zb) : Ok (zaf k f) (fun r => r = true ↔ (1 ≤ nF f ∧ nF f ≤ 12) ∧ f.Pick.1.length = nF f ∧ z3b 1 10 f.Step ∧ (1 ≤ f.Carry ∧ f.Carry ≤ 20) ∧ nS f ≤ 9) := by
 simp only [zaf, zbi, zWp, Option.bind_some, zBd]
 refine Ok.pure ?_
 simp only [Bool.and_eq_true, decide_eq_true_eq, beq_iff_eq, nF, nS, z3b]
 omega
theorem zwt {k : Nat} {f : zb} (hs : z5c f) (hk : Fuel k f) (acc : Bool) : Ok (iter (fun s => zSd k f s.1 s.2.1 s.2.2) k (acc, 0, 0)) (fun r => r.1 = true ↔ acc = true ∧ ∀ i, i < nF f → frB f i ≤ fr f i ∧ fr f i ≤ 500) := by
 refine Ok.count (nF f) (fun j s => s.2.2 = (j : Int) ∧ s.2.1 = frB f j ∧ (s.1 = true ↔ acc = true ∧ ∀ i, i < j → frB f i ≤ fr f i ∧ fr f i ≤ 500)) ?_ ?_ ⟨rfl, rfl, by simp⟩ hk.far
 ·rintro j ⟨a, d, i⟩ hj ⟨hi, hd, ha⟩
  obtain rfl : i = (j : Int) := hi
  obtain rfl : d = frB f j := hd
  simp only [zSd, zkg, zsd hj, cond_true, zMm hj, zbi, Option.bind_some, zBd, z6c hj hs.far]
  refine Ok.pure ⟨rfl, rfl, ?_⟩
  simp only [Bool.and_eq_true, decide_eq_true_eq]
  have ha' : a = true ↔ acc = true ∧ ∀ i, i < j → frB f i ≤ fr f i ∧ fr f i ≤ 500 := ha
  rw [ha']
  constructor
  ·rintro ⟨⟨h1, h2⟩, h3⟩
   refine ⟨h1, fun i hij => ?_⟩
   by_cases e : i = j
   ·subst e; exact h3
   ·exact h2 i (by omega)
  ·rintro ⟨h1, h2⟩
   exact ⟨⟨h1, fun i hij => h2 i (by omega)⟩, h2 j (by omega)⟩
 ·rintro ⟨a, d, i⟩ ⟨hi, hd, ha⟩
  obtain rfl : i = (nF f : Int) := hi
  simp only [zSd, zvh, cond_false]
  exact Ok.pure ha
theorem zfu {k : Nat} {f : zb} (hs : z5c f) (hk : Fuel k f) (v : Bool × Int × Int) (acc : Bool) : Ok (iter (fun s => zTd k f v s.1 s.2) k (acc, 0)) (fun r => r.1 = true ↔ acc = true ∧ ∀ i (h : i < f.Pick.1.length), z3b 0 300 f.Pick.1[i]) := by
 refine Ok.everyI f.Pick.1 (fun _ s => z3b 0 300 s) (fun a j hj => ?_) (fun a => by simp [zTd]) hk.pick
 simp only [zTd, zng, zsd hj, cond_true, z3c hj, zWp, Option.bind_some, zBd]
 refine Ok.pure ⟨_, by rw [z6c hj hs.pick], ?_⟩
 simp only [Bool.and_eq_true, decide_eq_true_eq, z3b]
theorem zap {l : List zl} : ∀ {j}, j ≤ l.length → (∀ i (h : i < l.length), i < j → shB l i + 1 ≤ l[i].Shelf) → -1 ≤ shB l j
 | 0, _, _ => by simp [shB]
 | j + 1, hj, h => by
  have ih := zap (j := j) (by omega) fun i hi hij => h i hi (by omega)
  have := h j (by omega) (by omega)
  rw [zzk (by omega)] at this
  simp only [shB]
  omega
theorem zkn {n : Nat} {l : List zl} (h : zAf n l) : ∀ i, i < l.length → (i : Int) ≤ sh l i
 | 0, hi => by
  have := (h 0 hi).1.1
  rw [zzk hi] at this
  simpa [shB] using this
 | i + 1, hi => by
  have ih := zkn h i (by omega)
  have := (h (i + 1) hi).1.1
  rw [zzk hi] at this
  simp only [shB] at this
  push_cast
  omega
theorem zZg {n : Nat} {l : List zl} (h : zAf n l) : l.length ≤ n := by
 cases hl : l.length with
 | zero => omega
 | succ m =>
  have h1 := zkn h m (by omega)
  have h2 := (h m (by omega)).1.2
  rw [zzk (by omega)] at h2
  omega
theorem zIs {k : Nat} {f : zb} (hs : z5c f) (v3 : Bool × Int × Int) (v5 : Bool × Int) (i0 : Int) (s : zm) (hl : s.Lines.1.length < 9223372036854775808) (hlk : s.Lines.1.length < k) (acc : Bool) (hn : acc = true → nF f ≤ 12) :
  Ok (iter (fun t => zud k f v3 v5 i0 s t.1 t.2.1 t.2.2) k (acc, (-1), 0)) (fun r => r.1 = true ↔ acc = true ∧ zAf (nF f) s.Lines.1) := by
 let P := fun i (h : i < s.Lines.1.length) => (shB s.Lines.1 i + 1 ≤ s.Lines.1[i].Shelf ∧ s.Lines.1[i].Shelf ≤ (nF f : Int) - 1) ∧ (1 ≤ s.Lines.1[i].Many ∧ s.Lines.1[i].Many ≤ 20)
 refine Ok.count s.Lines.1.length (fun j t => t.2.2 = (j : Int) ∧ t.2.1 = shB s.Lines.1 j ∧ (t.1 = true ↔ acc = true ∧ ∀ i (h : i < s.Lines.1.length), i < j → P i h)) ?_ ?_ ⟨rfl, rfl, by simp⟩ hlk
 ·rintro j ⟨a, d, i⟩ hj ⟨hi, hd, ha⟩
  obtain rfl : i = (j : Int) := hi
  obtain rfl : d = shB s.Lines.1 j := hd
  simp only [zud, zPf, zsd hj, cond_true, z3c hj, zbi, Option.bind_some, zBd, z6c hj hl, zYm hs.far]
  refine Ok.pure ⟨rfl, by rw [zzk hj]; rfl, ?_⟩
  simp only [Bool.and_eq_true, decide_eq_true_eq]
  cases a with
  | false =>
   constructor
   ·rintro ⟨h, _⟩; cases h
   ·rintro ⟨h1, h2⟩
    exact absurd (ha.2 ⟨h1, fun i h hij => h2 i h (by omega)⟩) (by simp)
  | true =>
   obtain ⟨h1, h2⟩ := ha.1 rfl
   have hw : w64 (shB s.Lines.1 j + 1) = shB s.Lines.1 j + 1 := by
    have hlow := zap (l := s.Lines.1) (j := j) (by omega) fun i hi hij => (h2 i hi hij).1.1
    have hn := hn h1
    have hup : shB s.Lines.1 j ≤ 12 := by
     cases j with
     | zero => simp [shB]
     | succ j =>
      have := (h2 j (by omega) (by omega)).1.2
      rw [zzk (by omega)] at this
      simp only [shB]
      have : ((nF f : Nat) : Int) ≤ 12 := by exact_mod_cast hn
      omega
    exact zjc (by omega) (by omega)
   rw [hw]
   constructor
   ·rintro ⟨_, h3⟩
    refine ⟨h1, fun i h hij => ?_⟩
    by_cases e : i = j
    ·subst e; exact h3
    ·exact h2 i h (by omega)
   ·rintro ⟨_, h3⟩
    exact ⟨rfl, h3 j hj (by omega)⟩
 ·rintro ⟨a, d, i⟩ ⟨hi, hd, ha⟩
  obtain rfl : i = (s.Lines.1.length : Int) := hi
  simp only [zud, zvh, cond_false]
  refine Ok.pure ?_
  show a = true ↔ _
  have ha' : a = true ↔ acc = true ∧ ∀ i (h : i < s.Lines.1.length), i < s.Lines.1.length → P i h := ha
  rw [ha']
  exact ⟨fun h => ⟨h.1, fun i hi => h.2 i hi hi⟩, fun h => ⟨h.1, fun i hi _ => h.2 i hi⟩⟩
theorem zcu {k : Nat} {f : zb} (hs : z5c f) (hk : Fuel k f) (v3 : Bool × Int × Int) (v5 : Bool × Int) (acc : Bool) (hn : acc = true → nF f ≤ 12) : Ok (iter (fun s => zVd k f v3 v5 s.1 s.2) k (acc, 0)) (fun r => r.1 = true ↔ acc = true ∧ ∀ i (h : i < nS f), zSh (nF f) f.Slips.1[i]) := by
 refine Ok.count (nS f) (fun j s => s.2 = (j : Int) ∧ (s.1 = true ↔ acc = true ∧ ∀ i (h : i < nS f), i < j → zSh (nF f) f.Slips.1[i])) ?_ ?_ ⟨rfl, by simp⟩ hk.slips
 ·rintro j ⟨a, i⟩ hj ⟨hi, ha⟩
  obtain rfl : i = (j : Int) := hi
  have hm := List.getElem_mem hj
  simp only [zVd, z0f, zsd hj, cond_true, z3c hj, zbi, Option.bind_some, zBd]
  refine Ok.bind (zIs hs v3 v5 _ _ (hs.lines _ hm) (hk.lines _ hm) _ fun h => ?_) fun r hr => ?_
  ·simp only [Bool.and_eq_true] at h
   exact hn (ha.1 h.1).1
  ·refine Ok.pure ⟨by rw [z6c hj hs.slips], ?_⟩
   show r.1 = true ↔ _
   rw [hr]
   simp only [Bool.and_eq_true, decide_eq_true_eq]
   have ha' : a = true ↔ acc = true ∧ ∀ i (h : i < nS f), i < j → zSh (nF f) f.Slips.1[i] := ha
   rw [ha']
   constructor
   ·rintro ⟨⟨⟨h1, h5⟩, h2, h3⟩, h4⟩
    refine ⟨h1, fun i h hij => ?_⟩
    by_cases e : i = j
    ·subst e; exact ⟨⟨h2, by omega⟩, h4⟩
    ·exact h5 i h (by omega)
   ·rintro ⟨h1, h2⟩
    obtain ⟨⟨h3, h4⟩, h5⟩ := h2 j hj (by omega)
    exact ⟨⟨⟨h1, fun i h hij => h2 i h (by omega)⟩, h3, by omega⟩, h5⟩
 ·rintro ⟨a, i⟩ ⟨hi, ha⟩
  obtain rfl : i = (nS f : Int) := hi
  simp only [zVd, zvh, cond_false]
  refine Ok.pure ?_
  show a = true ↔ _
  have ha' : a = true ↔ acc = true ∧ ∀ i (h : i < nS f), i < nS f → zSh (nF f) f.Slips.1[i] := ha
  rw [ha']
  exact ⟨fun h => ⟨h.1, fun i hi => h.2 i hi hi⟩, fun h => ⟨h.1, fun i hi _ => h.2 i hi⟩⟩
open Classical in
theorem zBn {k : Nat} {f : zb} (hs : z5c f) (hk : Fuel k f) : Ok (zVb k f) (fun r => r = if Fine f then 0 else 30) := by
 unfold zVb
 refine Ok.bind (z0t k f) fun v1 h1 => ?_
 refine Ok.bind (zwt hs hk v1) fun v3 h3 => ?_
 refine Ok.bind (zfu hs hk v3 v3.1) fun v5 h5 => ?_
 refine Ok.bind (zcu hs hk v3 v5 v5.1 fun h => ?_) fun v7 h7 => ?_
 ·exact (h1.1 (h3.1 (h5.1 h).1).1).1.2
 have fin : v7.1 = true ↔ Fine f := by
  rw [h7, h5, h3, h1]
  exact ⟨fun h => ⟨h.1.1.1.1, h.1.1.1.2.1, h.1.1.1.2.2.1, h.1.1.1.2.2.2.1, h.1.1.1.2.2.2.2, h.1.1.2, h.1.2, h.2⟩, fun h => ⟨⟨⟨⟨h.nfar, h.npick, h.step, h.carry, h.nslips⟩, h.far⟩, h.pick⟩, h.slips⟩⟩
 refine Ok.cond (fun hb => Ok.pure ?_) (fun hb => Ok.pure ?_)
 ·rw [if_neg]
  intro hF
  rw [fin.2 hF] at hb
  cases hb
 ·rw [if_pos (fin.1 (by simpa using hb))]
theorem zkq {f : zb} (h : Fine f) : ∀ i, i < nF f → 0 ≤ fr f i
 | 0, hi => by have := (h.far 0 hi).1; simpa [frB] using this
 | i + 1, hi => by
  have := (h.far (i + 1) hi).1
  have ih := zkq h i (by omega)
  simp only [frB] at this
  omega
theorem zNt {k : Nat} {f : zb} (hs : z5c f) (hk : Fuel k f) : Ok (zMc k f) (fun r => r = true ↔ Fine f) := by
 obtain ⟨c, hc, hc'⟩ := zBn hs hk
 unfold zMc zTc
 rw [hc]
 simp only [Option.bind_some]
 by_cases hF : Fine f
 ·rw [if_pos hF] at hc'
  subst hc'
  have t : (((0 : Int) == 0) && ((decide ((1 : Int) ≤ (f.Far.1.length : Int)) && decide ((f.Far.1.length : Int) ≤ 12)) && (((f.Pick.1.length : Int) == (f.Far.1.length : Int)) && ((decide (1 ≤ f.Step.Low) && (decide (f.Step.Low ≤ f.Step.High) && decide (f.Step.High ≤ 10))) && ((decide (1 ≤ f.Carry) && decide (f.Carry ≤ 20)) && decide ((f.Slips.1.length : Int) ≤ 9)))))) = true := by
   have h1 := hF.nfar
   have h2 := hF.npick
   have h3 := hF.step
   have h4 := hF.carry
   have h5 := hF.nslips
   simp only [z3b, nF, nS] at h1 h2 h3 h4 h5
   simp only [Bool.and_eq_true, decide_eq_true_eq, beq_iff_eq]
   exact ⟨trivial, ⟨by omega, by omega⟩, by omega, h3, h4, by omega⟩
  simp only [zYl, z0p, Option.bind_some, zBd, t]
  refine Ok.bind (P := fun r : Bool × Int => r.1 = true) ?_ fun v3 h3 => ?_
  ·refine (Ok.everyWI f.Far.1 (fun i _ => i < nF f) (fun j hj hp => ?_) (fun i => by simp [znb, zzb]) (by simp [znb, zzb]) hk.far).mono fun r hr => hr.2 ⟨rfl, fun j hj => hj⟩
   have hpj : j < f.Pick.1.length := by have := hF.npick; simp only [nF] at this; omega
   have hp := hF.pick j hpj
   have hf := hF.far j hj
   have h0 := zkq hF j hj
   simp only [znb, zzb, zQc, cond_true, zsd hj, Option.bind_some, zMm hj, zYl, z0p, z3c hpj, z6c hj hs.far]
   have e1 : (decide (0 ≤ fr f j) && decide (fr f j ≤ 500)) = true := by simp; omega
   have e2 : (decide (0 ≤ f.Pick.1[j].Low) && (decide (f.Pick.1[j].Low ≤ f.Pick.1[j].High) && decide (f.Pick.1[j].High ≤ 300))) = true := by
    simp only [Bool.and_eq_true, decide_eq_true_eq]; exact hp
   simp only [e1, e2, cond_true]
   cases j with
   | zero => exact Ok.pure ⟨true, rfl, by simp; exact hj⟩
   | succ j =>
    have e3 : (((j + 1 : Nat) : Int) == 0) = false := by simp; omega
    have e4 : w64 (((j + 1 : Nat) : Int) - 1) = (j : Int) := by
     have := hF.nfar.2
     have hj' : j + 1 < nF f := hj
     rw [zjc (by omega) (by omega)]; omega
    have e5 : decide (fr f j ≤ fr f (j + 1)) = true := by simpa [frB] using hf.1
    simp only [e3, e4, cond_false, zMm (show j < nF f by have hj' : j + 1 < nF f := hj; omega), Option.bind_some, e5, cond_true]
    exact Ok.pure ⟨true, rfl, by simp; exact hj⟩
  ·refine Ok.bind (P := fun r : Bool × Int => r.1 = true) ?_ fun v5 h5 => Ok.pure ⟨fun _ => hF, fun _ => h5⟩
   rw [h3]
   refine (Ok.everyWI f.Slips.1 (fun i _ => i < nS f) (fun j hj hp => ?_) (fun i => by simp [zmb, zxb]) (by simp [zmb, zxb]) hk.slips).mono fun r hr => hr.2 ⟨rfl, fun j hj => hj⟩
   obtain ⟨⟨hu, hl⟩, hlines⟩ := hF.slips j hj
   have hm := List.getElem_mem hj
   simp only [zmb, zxb, zKc, cond_true, zsd hj, Option.bind_some, z3c hj, zYl, zBd, z6c hj hs.slips]
   have e1 : ((decide (0 ≤ f.Slips.1[j].Until) && decide (f.Slips.1[j].Until ≤ 100000)) && (decide ((1 : Int) ≤ (f.Slips.1[j].Lines.1.length : Int)) && decide ((f.Slips.1[j].Lines.1.length : Int) ≤ (f.Far.1.length : Int)))) = true := by
    have := zZg hlines
    simp only [Bool.and_eq_true, decide_eq_true_eq]
    simp only [nF] at this
    omega
   rw [e1]
   refine Ok.bind (P := fun r : Bool × Int => r.1 = true) ?_ fun r hr => Ok.pure ⟨true, by rw [hr], by simp; exact hj⟩
   refine (Ok.everyWI f.Slips.1[j].Lines.1 (fun i _ => i < f.Slips.1[j].Lines.1.length) (fun i hi hp => ?_) (fun i => by simp [zHb, zGb]) (by simp [zHb, zGb]) (hk.lines _ hm)).mono fun r hr => hr.2 ⟨rfl, fun j hj => hj⟩
   have hli := hlines i hi
   have h0 := zap (l := f.Slips.1[j].Lines.1) (j := i) (by omega) fun i hi _ => (hlines i hi).1.1
   simp only [zHb, zGb, zGc, cond_true, zsd hi, Option.bind_some, z3c hi, zYl, zYm hs.far, z6c hi (hs.lines _ hm)]
   have e2 : (decide (0 ≤ f.Slips.1[j].Lines.1[i].Shelf) && decide (f.Slips.1[j].Lines.1[i].Shelf ≤ (f.Far.1.length : Int) - 1)) = true := by
    have := hli.1
    simp only [Bool.and_eq_true, decide_eq_true_eq]
    simp only [nF] at this
    omega
   have e3 : (decide (1 ≤ f.Slips.1[j].Lines.1[i].Many) && decide (f.Slips.1[j].Lines.1[i].Many ≤ 20)) = true := by
    simp only [Bool.and_eq_true, decide_eq_true_eq]; exact hli.2
   simp only [e2, e3, cond_true]
   cases i with
   | zero => exact Ok.pure ⟨true, rfl, by simp; exact hi⟩
   | succ i =>
    have e4 : (((i + 1 : Nat) : Int) == 0) = false := by simp; omega
    have e5 : w64 (((i + 1 : Nat) : Int) - 1) = (i : Int) := by
     have := hs.lines _ hm
     rw [zjc (by omega) (by omega)]; omega
    have e6 : decide (f.Slips.1[j].Lines.1[i].Shelf < f.Slips.1[j].Lines.1[i + 1].Shelf) = true := by
     have := hli.1.1
     simp only [shB] at this
     rw [← zzk (by omega)] at this
     simp; omega
    simp only [e4, e5, cond_false, z3c (show i < f.Slips.1[j].Lines.1.length by omega), Option.bind_some, e6]
    exact Ok.pure ⟨true, rfl, by simp; exact hi⟩
 ·rw [if_neg hF] at hc'
  subst hc'
  have t : ((30 : Int) == 0) = false := by decide
  simp only [t, cond_false, Option.bind_some]
  obtain ⟨k, rfl⟩ : ∃ k', k = k' + 1 := ⟨k - 1, by have := hk.k0; omega⟩
  have o1 : iter (fun s => znb (k + 1) f s.1 s.2) (k + 1) (false, 0) = some (false, 0) := by simp [iter, znb, zzb]
  rw [o1]
  simp only [Option.bind_some]
  have o2 : iter (fun s => zmb (k + 1) f (false, 0) s.1 s.2) (k + 1) (false, 0) = some (false, 0) := by simp [iter, zmb, zxb]
  rw [o2]
  exact Ok.pure ⟨fun h => (by cases h), fun h => absurd h hF⟩
end Go.AM
set_option linter.unusedVariables false
namespace Go.AM
open Go
theorem zop (f g : Nat → Int) : ∀ n i, eqI f g i n = true ↔ ∀ j, i ≤ j → j < i + n → f j = g j
 | 0, i => by simp [eqI]; omega
 | n + 1, i => by
  simp only [eqI, Bool.and_eq_true, zop f g n (i + 1), beq_iff_eq]
  constructor
  ·rintro ⟨h0, h⟩ j h1 h2
   by_cases hj : j = i
   ·rw [hj]; exact h0
   ·exact h j (by omega) (by omega)
  ·intro h
   exact ⟨h i (by omega) (by omega), fun j h1 h2 => h j (by omega) (by omega)⟩
def put1 (g : Nat → Nat) (x : zl) : Nat → Nat := fun j => if j = x.Shelf.toNat then x.Many.toNat else g j
def pc (l : List zl) : Nat → Nat := l.foldl put1 fun _ => 0
theorem zGr (l : List zl) (x : zl) : pc (l ++ [x]) = put1 (pc l) x := by simp [pc]
def slp (f : zb) (i : Nat) : zm := (f.Slips.1[i]?).getD ⟨([], .nil), 0⟩
theorem zpl {f : zb} {i : Nat} (h : i < nS f) : f.Slips.1[i] = slp f i := by
 unfold slp
 rw [List.getElem?_eq_getElem h]; rfl
theorem zCl {f : zb} {i : Nat} (h : i < nS f) : idx f.Slips.1 (i : Int) = some (slp f i) := by rw [z3c h, zpl h]
theorem zde {f : zb} (hF : Fine f) {i : Nat} (h : i < nS f) : zSh (nF f) (slp f i) := by
 have := hF.slips i h
 rwa [zpl h] at this
abbrev lns (f : zb) (i : Nat) : List zl := (slp f i).Lines.1
theorem zhj {n : Nat} {l : List zl} (h : zAf n l) {i : Nat} (hi : i < l.length) : 0 ≤ l[i].Shelf ∧ l[i].Shelf < n := by
 have h1 := zkn h i hi
 rw [← zzk hi] at h1
 have := (h i hi).1.2
 omega
theorem zPs {n : Nat} {l : List zl} (h : zAf n l) : (∀ j, pc l j ≤ 20) ∧ ∀ j, n ≤ j → pc l j = 0 := by
 have key : ∀ m, m ≤ l.length → (∀ j, pc (l.take m) j ≤ 20) ∧ ∀ j, n ≤ j → pc (l.take m) j = 0 := by
  intro m
  induction m with
  | zero => intro _; simp [pc]
  | succ m ih =>
   intro hm
   obtain ⟨h1, h2⟩ := ih (by omega)
   rw [List.take_succ_eq_append_getElem (by omega), zGr]
   have hl := h m (by omega)
   have hs := zhj h (i := m) (by omega)
   refine ⟨fun j => ?_, fun j hj => ?_⟩
   ·unfold put1
    split
    ·omega
    ·exact h1 j
   ·unfold put1
    rw [if_neg (by omega)]
    exact h2 j hj
 have := key l.length (Nat.le_refl _)
 rwa [List.take_length] at this
theorem zKs {k : Nat} {f : zb} (hs : z5c f) (hk : Fuel k f) (hF : Fine f) {i : Nat} (hi : i < nS f) : Ok (z2b k ⟨f⟩ (i : Int)) (fun g => ∀ j, g j = ((pc (lns f i) j : Nat) : Int)) := by
 unfold z2b
 have hm := List.getElem_mem hi
 rw [zpl hi] at hm
 have hfine := zde hF hi
 simp only [zCl hi, Option.bind_some]
 refine Ok.bind (P := fun v : Int × (Nat → Int) => ∀ j, v.2 j = ((pc (lns f i) j : Nat) : Int)) ?_ fun v hv => Ok.pure hv
 refine Ok.count (lns f i).length (fun j s => s.1 = (j : Int) ∧ ∀ t, s.2 t = ((pc ((lns f i).take j) t : Nat) : Int)) ?_ ?_ ⟨rfl, by simp [pc]⟩ (hk.lines _ hm)
 ·rintro j ⟨a, g⟩ hj ⟨ha, hg⟩
  obtain rfl : a = (j : Int) := ha
  have hl : (shB (lns f i) j + 1 ≤ (lns f i)[j].Shelf ∧ _) ∧ (1 ≤ (lns f i)[j].Many ∧ (lns f i)[j].Many ≤ 20) := hfine.2 j hj
  have hsh : 0 ≤ (lns f i)[j].Shelf ∧ (lns f i)[j].Shelf < nF f := zhj hfine.2 hj
  have hn := hF.nfar.2
  simp only [zBc, zsd hj, cond_true, z3c hj, Option.bind_some]
  have e : (decide (0 ≤ (lns f i)[j].Shelf) && decide ((lns f i)[j].Shelf < 12)) = true := by
   simp only [Bool.and_eq_true, decide_eq_true_eq]; omega
  rw [e, cond_true]
  refine Ok.pure ⟨z6c hj (hs.lines _ hm), fun t => ?_⟩
  rw [List.take_succ_eq_append_getElem hj, zGr]
  simp only [upd, put1]
  have hg' := hg t
  simp only at hg'
  split
  ·omega
  ·exact hg'
 ·rintro ⟨a, g⟩ ⟨ha, hg⟩
  obtain rfl : a = ((lns f i).length : Int) := ha
  simp only [zBc, zvh, cond_false]
  refine Ok.pure fun t => ?_
  have := hg t
  rwa [List.take_length] at this
def zac (f : zb) (i : Nat) : Int := wk f.Carry.toNat (fr f) 0 (ex (pc (lns f i)) (nF f))
theorem zfv {f : zb} (hF : Fine f) {i : Nat} (h : i < nF f) : 0 ≤ fr f i ∧ fr f i ≤ 500 := ⟨zkq hF i h, (hF.far i h).2⟩
theorem znq {f : zb} (hF : Fine f) {g : Nat → Nat} : ∀ x ∈ ex g (nF f), 0 ≤ fr f x ∧ fr f x ≤ 500 := fun x hx => zfv hF (zGs hx).1
theorem zuo {f : zb} (hF : Fine f) {i : Nat} (hi : i < nS f) : 0 ≤ zac f i ∧ zac f i ≤ 240000 := by
 have h1 := zPs (zde hF hi).2
 have h2 := zFm (f := pc (lns f i)) (b := 20) (n := nF f) fun j _ => h1.1 j
 have h3 := zOl (C := f.Carry.toNat) (b := 500) (by omega) (ex (pc (lns f i)) (nF f)) 0 (znq hF)
 have h4 := hF.nfar.2
 unfold zac
 have : ((ex (pc (lns f i)) (nF f)).length : Int) ≤ 240 := by
  have : 20 * nF f ≤ 240 := by omega
  omega
 omega
theorem zfs (k : Nat) : zxe k = some fun _ => 0 := rfl
theorem zEt {k : Nat} {f : zb} (hk : Fuel k f) (hF : Fine f) (i : Int) (v1 : (SL Int) × Int × Int × (SL zp) × Int × (SL zm) × Int) (n : Int) {g : Nat → Int} {lf : Nat → Nat} (hg : ∀ t, t < 12 → g t = ((lf t : Nat) : Int)) (h20 : ∀ t, lf t ≤ 20) :
  Ok (iter (fun s => zbc k ⟨f⟩ i v1 n s.1 s.2.1 s.2.2.1 s.2.2.2) k (f.Carry, (nF f : Int) - 1, g, fun _ => 0)) (fun r => ∃ a b : Nat → Nat, (∀ t, t < 12 → r.2.2.1 t = ((a t : Nat) : Int)) ∧ (∀ t, t < 12 → r.2.2.2 t = ((b t : Nat) : Int)) ∧
   ex a (nF f) = (ex lf (nF f)).drop f.Carry.toNat ∧ ex b (nF f) = (ex lf (nF f)).take f.Carry.toNat ∧ (∀ t, nF f ≤ t → a t = lf t) ∧ (∀ t, a t ≤ lf t) ∧ ∀ t, nF f ≤ t → b t = 0) := by
 have hC := hF.carry
 refine Ok.count (nF f) (fun j s => ∃ m r : Nat, m + j = nF f ∧ s.2.1 = (m : Int) - 1 ∧ s.1 = (r : Int) ∧ r ≤ 20 ∧ ∃ a b : Nat → Nat, (∀ t, t < 12 → s.2.2.1 t = ((a t : Nat) : Int)) ∧ (∀ t, t < 12 → s.2.2.2 t = ((b t : Nat) : Int)) ∧
   (∀ t, t < m → a t = lf t ∧ b t = 0) ∧ (ex lf (nF f)).drop f.Carry.toNat = hi a m j ++ (ex lf m).drop r ∧ (ex lf (nF f)).take f.Carry.toNat = hi b m j ++ (ex lf m).take r ∧ (∀ t, nF f ≤ t → a t = lf t) ∧ (∀ t, a t ≤ lf t) ∧ ∀ t, nF f ≤ t → b t = 0) ?_ ?_ ?_ hk.far
 ·rintro j ⟨s1, s2, s3, s4⟩ hj ⟨m, r, hm, h2, h1, hr, a, b, ha, hb, hlow, hd, ht, hx, hle, hy⟩
  obtain ⟨m, rfl⟩ : ∃ m', m = m' + 1 := ⟨m - 1, by omega⟩
  have hn := hF.nfar.2
  obtain rfl : s2 = (m : Int) := by simp only at h2; omega
  obtain rfl : s1 = (r : Int) := h1
  simp only [zbc]
  have e1 : decide ((m : Int) ≥ 0) = true := by simp
  have e2 : decide ((m : Int) < 12) = true := by simp; omega
  have e3 : s3 m = ((lf m : Nat) : Int) := by
   have := ha m (by omega)
   simp only at this
   rw [this, (hlow m (by omega)).1]
  have e4 : (if s3 m < (r : Int) then s3 m else (r : Int)) = ((min r (lf m) : Nat) : Int) := by
   rw [e3]
   split <;> omega
  have hb20 := h20 m
  simp only [e1, e2, Bool.and_self, cond_true, Int.toNat_natCast, e4]
  rw [e3, zjc (by omega) (by omega), zjc (by omega) (by omega), zjc (by omega) (by omega)]
  refine Ok.pure ⟨m, r - min r (lf m), by omega, rfl, by show _ = _; omega, by omega, fun t => if t = m then lf m - r else a t, fun t => if t = m then min r (lf m) else b t, fun t ht => ?_, fun t ht => ?_, fun t ht => ?_, ?_, ?_, fun t ht => ?_, fun t => ?_, fun t ht => ?_⟩
  ·simp only [upd]
   split
   ·omega
   ·exact ha t ht
  ·simp only [upd]
   split
   ·rfl
   ·exact hb t ht
  ·dsimp only
   rw [if_neg (by omega), if_neg (by omega)]
   exact hlow t (by omega)
  ·rw [hd, z7q, ex, z2t, ← List.append_assoc]
   rw [if_pos rfl]
   have : r - min r (lf m) = r - lf m := by omega
   rw [this, zjn (g := a) (m := m + 1) (fun t h1 h2 => if_neg (by omega))]
  ·rw [ht, z7q, ex, zLt, ← List.append_assoc]
   rw [if_pos rfl]
   have : r - min r (lf m) = r - lf m := by omega
   rw [this, zjn (g := b) (m := m + 1) (fun t h1 h2 => if_neg (by omega))]
  ·dsimp only; rw [if_neg (by omega)]; exact hx t ht
  ·dsimp only
   split
   ·rename_i e; subst e; omega
   ·exact hle t
  ·dsimp only; rw [if_neg (by omega)]; exact hy t ht
 ·rintro ⟨s1, s2, s3, s4⟩ ⟨m, r, hm, h2, h1, hr, a, b, ha, hb, hlow, hd, ht, hx, hle, hy⟩
  obtain rfl : m = 0 := by omega
  obtain rfl : s2 = -1 := by simp only at h2; omega
  simp only [zbc]
  have e1 : decide ((-1 : Int) ≥ 0) = false := by decide
  rw [e1, cond_false]
  rw [zXr] at hd ht
  simp only [ex, List.drop_nil, List.take_nil, List.append_nil] at hd ht
  exact Ok.pure ⟨a, b, ha, hb, hd.symm, ht.symm, hx, hle, hy⟩
 ·refine ⟨nF f, f.Carry.toNat, by omega, rfl, by show f.Carry = _; omega, by omega, lf, fun _ => 0, hg, fun _ _ => rfl, fun t _ => ⟨rfl, rfl⟩, by simp [hi], by simp [hi], fun _ _ => rfl, fun _ => Nat.le_refl _, fun _ _ => rfl⟩
theorem zUt {k : Nat} {f : zb} (hs : z5c f) (hk : Fuel k f) (hF : Fine f) (i : Int) (v1 : (SL Int) × Int × Int × (SL zp) × Int × (SL zm) × Int) (n : Int) (v : Int × Int × (Nat → Int) × (Nat → Int)) {b : Nat → Nat} (hb : ∀ t, t < 12 → v.2.2.2 t = ((b t : Nat) : Int)) :
  Ok (iter (fun s => z9b k ⟨f⟩ i v1 n v s.1 s.2) k (0, 0)) (fun r => r.1 = topF b (fr f) (nF f)) := by
 have hn := hF.nfar.2
 refine Ok.count (nF f) (fun j s => s.2 = (j : Int) ∧ s.1 = topF b (fr f) j) ?_ ?_ ⟨rfl, rfl⟩ hk.far
 ·rintro j ⟨s1, s2⟩ hj ⟨h2, h1⟩
  obtain rfl : s2 = (j : Int) := h2
  obtain rfl : s1 = _ := h1
  simp only [z9b, zHd, zsd hj, cond_true, Int.toNat_natCast]
  have e2 : (decide (0 ≤ (j : Int)) && decide ((j : Int) < 12)) = true := by simp; omega
  have e3 : decide (v.2.2.2 j > 0) = decide (0 < b j) := by
   rw [hb j (by omega)]
   simp
  rw [e2, cond_true, e3, zMm hj]
  simp only [Option.bind_some]
  cases hbj : decide (0 < b j) with
  | true =>
   simp only [cond_true, Option.bind_some]
   refine Ok.pure ⟨z6c hj hs.far, ?_⟩
   show fr f j = _
   rw [topF, if_pos (by simpa using hbj)]
  | false =>
   simp only [cond_false, Option.bind_some]
   refine Ok.pure ⟨z6c hj hs.far, ?_⟩
   show topF b (fr f) j = _
   rw [topF, if_neg (by simpa using hbj)]
 ·rintro ⟨s1, s2⟩ ⟨h2, h1⟩
  obtain rfl : s2 = (nF f : Int) := h2
  simp only [z9b, zvh, cond_false]
  exact Ok.pure h1
theorem zYn {k : Nat} {f : zb} (hs : z5c f) (hk : Fuel k f) (hF : Fine f) {i : Nat} (hi : i < nS f) : Ok (zlc k ⟨f⟩ (i : Int)) (fun r => r = zac f i) := by
 unfold zlc zwd
 simp only [Option.bind_some]
 refine Ok.bind (zKs hs hk hF hi) fun g hg => ?_
 have hpc := zPs (zde hF hi).2
 have hW := zuo hF hi
 have hlen : (ex (pc (lns f i)) (nF f)).length ≤ 240 := by
  have := zFm (f := pc (lns f i)) (b := 20) (n := nF f) fun j _ => hpc.1 j
  have := hF.nfar.2
  omega
 have hC := hF.carry
 refine Ok.bind (P := fun v : (Nat → Int) × Int => v.2 = zac f i) ?_ fun v hv => Ok.pure hv
 refine Ok.iter (fun j s => ∃ lf : Nat → Nat, (∀ t, t < 12 → s.1 t = ((lf t : Nat) : Int)) ∧ (∀ t, lf t ≤ 20) ∧ (∀ t, nF f ≤ t → lf t = 0) ∧ 0 ≤ s.2 ∧ s.2 + wk f.Carry.toNat (fr f) 0 (ex lf (nF f)) = zac f i ∧ (ex lf (nF f)).length + j ≤ 240) 240 ?_ ⟨pc (lns f i), fun t _ => hg t, hpc.1, hpc.2, Int.le_refl _, by simp [zac], by omega⟩ (by have := hk.k0; omega)
 rintro j ⟨s1, s2⟩ hj ⟨lf, h1, h20, hz, h0, hw, hl⟩
 simp only [zGd, zfs, Option.bind_some]
 refine Ok.cond (fun hb => ?_) (fun hb => ?_)
 ·have hne : ex lf (nF f) ≠ [] := by
   intro he
   have hall := zIq.1 he
   have : eqI s1 (fun _ => 0) 0 12 = true := (zop _ _ 12 0).2 fun t _ ht => by
    have := h1 t (by omega)
    simp only at this
    rw [this]
    by_cases e : t < nF f
    ·rw [hall t e]; rfl
    ·rw [hz t (by omega)]; rfl
   rw [this] at hb
   cases hb
  rw [zYm hs.far]
  refine Ok.bind (zEt hk hF _ _ _ h1 h20) fun v ⟨a, b, ha, hb', hd, ht, hx, hle, hy⟩ => ?_
  refine Ok.bind (zUt hs hk hF _ _ _ _ hb') fun w hw' => ?_
  rw [hw']
  obtain ⟨x, t, hxt⟩ : ∃ x t, ex lf (nF f) = x :: t := by
   cases h : ex lf (nF f) with
   | nil => exact absurd h hne
   | cons x t => exact ⟨x, t, rfl⟩
  have htop : topF b (fr f) (nF f) = fr f x := by
   obtain ⟨c, hc⟩ : ∃ c, f.Carry.toNat = c + 1 := ⟨f.Carry.toNat - 1, by omega⟩
   refine zVr (t := t.take c) ?_
   rw [ht, hxt, hc, List.take_succ_cons]
  have hfx : 0 ≤ fr f x ∧ fr f x ≤ 500 := znq hF x (by rw [hxt]; simp)
  rw [htop]
  have hcons := z6u (C := f.Carry.toNat) (by omega) (fr f) x t
  rw [← hxt, ← hd] at hcons
  have hwa := zOl (C := f.Carry.toNat) (b := 500) (by omega) (ex a (nF f)) 0 (znq hF)
  have hw : s2 + wk f.Carry.toNat (fr f) 0 (ex lf (nF f)) = zac f i := hw
  have h0 : 0 ≤ s2 := h0
  rw [zjc (n := 2 * fr f x) (by omega) (by omega), zjc (by omega) (by omega)]
  refine Ok.pure ⟨?_, a, ha, fun t => by have := hle t; have := h20 t; omega, fun t ht => by rw [hx t ht]; exact hz t ht, by show 0 ≤ s2 + _; omega, by show s2 + 2 * fr f x + _ = _; omega, ?_⟩
  ·rw [hxt] at hl; simp at hl; omega
  ·rw [hd, List.length_drop]
   rw [hxt] at hl ⊢
   simp only [List.length_cons] at hl ⊢
   omega
 ·refine Ok.pure ?_
  have hall : eqI s1 (fun _ => 0) 0 12 = true := by simpa using hb
  have hall := (zop _ _ 12 0).1 hall
  have he : ex lf (nF f) = [] := zIq.2 fun t ht => by
   have hn := hF.nfar.2
   have e1 := h1 t (by omega)
   have e2 := hall t (by omega) (by omega)
   simp only at e1 e2
   rw [e1] at e2
   omega
  have hw : s2 + wk f.Carry.toNat (fr f) 0 (ex lf (nF f)) = zac f i := hw
  rw [he] at hw
  simp only [wk] at hw
  show s2 = _
  omega
end Go.AM
set_option linter.unusedVariables false
namespace Go.AM
open Go
def pk (f : zb) (i : Nat) : zp := (f.Pick.1[i]?).getD ⟨0, 0⟩
theorem zyu {f : zb} {i : Nat} (h : i < f.Pick.1.length) : f.Pick.1[i] = pk f i := by
 unfold pk
 rw [List.getElem?_eq_getElem h]; rfl
theorem zWm {f : zb} (hF : Fine f) {i : Nat} (h : i < nF f) : z3b 0 300 (pk f i) := by
 have hp : i < f.Pick.1.length := by rw [hF.npick]; exact h
 have := hF.pick i hp
 rwa [zyu hp] at this
theorem zgq {f : zb} (hF : Fine f) {n : Int} (h : 0 ≤ n ∧ n < nF f) : idx f.Pick.1 n = some (pk f n.toNat) := by
 have hp : n.toNat < f.Pick.1.length := by rw [hF.npick]; omega
 rw [ziv h.1 hp, zyu hp]
def pks (f : zb) (v : zp → Int) (l : List zl) : Int := (l.map fun x => x.Many * v (pk f x.Shelf.toNat)).sum
theorem z5l (f : zb) (v : zp → Int) (l : List zl) (x : zl) : pks f v (l ++ [x]) = pks f v l + x.Many * v (pk f x.Shelf.toNat) := by simp [pks, List.sum_append]
def zEc (f : zb) (i : Nat) (v : zp → Int) : Int := zac f i * v f.Step + pks f v (lns f i)
theorem zKm {a b x y : Int} (ha : 0 ≤ a) (hax : a ≤ x) (hb : 0 ≤ b) (hby : b ≤ y) : 0 ≤ a * b ∧ a * b ≤ x * y :=
 ⟨Int.mul_nonneg ha hb, Int.mul_le_mul hax hby hb (by omega)⟩
theorem zHl {f : zb} (hF : Fine f) {v : zp → Int} (hv : ∀ s, z3b 0 300 s → 0 ≤ v s ∧ v s ≤ 300) {l : List zl} (hl : zAf (nF f) l) : ∀ j, j ≤ l.length → 0 ≤ pks f v (l.take j) ∧ pks f v (l.take j) ≤ 6000 * j
 | 0, _ => by simp [pks]
 | j + 1, hj => by
  have ih := zHl hF hv hl j (by omega)
  have h1 := zhj hl (i := j) (by omega)
  have h2 := (hl j (by omega)).2
  have h3 := hv _ (zWm hF (i := l[j].Shelf.toNat) (by omega))
  have h4 := zKm (a := l[j].Many) (b := v (pk f l[j].Shelf.toNat)) (x := 20) (y := 300) (by omega) h2.2 h3.1 h3.2
  rw [List.take_succ_eq_append_getElem (by omega), z5l]
  push_cast
  omega
theorem zTl {f : zb} (hF : Fine f) {v : zp → Int} (hv : ∀ s, z3b 0 300 s → 0 ≤ v s ∧ v s ≤ 300) (hv' : 0 ≤ v f.Step ∧ v f.Step ≤ 10) {i : Nat} (hi : i < nS f) : (0 ≤ zac f i * v f.Step ∧ zac f i * v f.Step ≤ 2400000) ∧ 0 ≤ zEc f i v ∧ zEc f i v ≤ 2472000 := by
 have h1 := zuo hF hi
 have h2 := zKm h1.1 h1.2 hv'.1 hv'.2
 have h3 := zHl hF hv (zde hF hi).2 (lns f i).length (Nat.le_refl _)
 have h4 := zZg (zde hF hi).2
 have h5 := hF.nfar.2
 rw [List.take_length] at h3
 have h6 : ((lns f i).length : Int) ≤ 12 := by
  have : (lns f i).length ≤ nF f := h4
  omega
 unfold zEc
 omega
theorem z4l : ∀ s, z3b 0 300 s → 0 ≤ s.Low ∧ s.Low ≤ 300 := fun s h => ⟨h.1, by have := h.2; omega⟩
theorem zmr : ∀ s, z3b 0 300 s → 0 ≤ s.High ∧ s.High ≤ 300 := fun s h => ⟨by have := h.1; have := h.2.1; omega, h.2.2⟩
theorem zzq {f : zb} (hF : Fine f) : 0 ≤ f.Step.Low ∧ f.Step.Low ≤ 10 := by have := hF.step; unfold z3b at this; omega
theorem zot {f : zb} (hF : Fine f) : 0 ≤ f.Step.High ∧ f.Step.High ≤ 10 := by have := hF.step; unfold z3b at this; omega
theorem zgu {k : Nat} {f : zb} (hs : z5c f) (hk : Fuel k f) (hF : Fine f) {i : Nat} (hi : i < nS f) : Ok (zPc k ⟨f⟩ (i : Int)) (fun r => r = zEc f i (·.Low)) := by
 unfold zPc zQe
 have hm := List.getElem_mem hi
 rw [zpl hi] at hm
 have hfine := zde hF hi
 have hin := zTl hF z4l (zzq hF) hi
 refine Ok.bind (P := fun r => r = zEc f i (·.Low)) (Ok.bind (zYn hs hk hF hi) fun st hst => ?_) fun r hr => Ok.pure hr
 subst hst
 simp only [zmc, Option.bind_some, zCl hi]
 rw [zjc (by omega) (by omega)]
 refine Ok.bind (P := fun v : Int × Int => v.1 = zEc f i (·.Low)) ?_ fun v hv => Ok.pure hv
 refine Ok.count (lns f i).length (fun j s => s.2 = (j : Int) ∧ s.1 = zac f i * f.Step.Low + pks f (·.Low) ((lns f i).take j)) ?_ ?_ ⟨rfl, by simp [pks]⟩ (hk.lines _ hm)
 ·rintro j ⟨a, b⟩ hj ⟨hb, ha⟩
  obtain rfl : b = (j : Int) := hb
  obtain rfl : a = _ := ha
  have h1 := zhj hfine.2 hj
  have h2 := (hfine.2 j hj).2
  have h3 := z4l _ (zWm hF (i := (lns f i)[j].Shelf.toNat) (by show (slp f i).Lines.1[j].Shelf.toNat < _; omega))
  have h4 := zKm (a := (lns f i)[j].Many) (b := (pk f (lns f i)[j].Shelf.toNat).Low) (x := 20) (y := 300) (by show 0 ≤ (slp f i).Lines.1[j].Many; omega) h2.2 h3.1 h3.2
  have h5 := zHl hF z4l hfine.2 j (Nat.le_of_lt hj)
  have h6 := zZg hfine.2
  have h7 := hF.nfar.2
  have h8 : (j : Int) ≤ 12 := by
   have : j < (slp f i).Lines.1.length := hj
   omega
  simp only [zNc, zsd hj, cond_true, z3c hj, Option.bind_some, zmc]
  rw [zgq hF h1]
  simp only [Option.bind_some]
  have h5' : 0 ≤ pks f (fun x => x.Low) (List.take j (lns f i)) ∧ pks f (fun x => x.Low) (List.take j (lns f i)) ≤ 6000 * j := h5
  rw [zjc (n := (lns f i)[j].Many * (pk f (lns f i)[j].Shelf.toNat).Low) (by omega) (by omega), zjc (by omega) (by omega)]
  refine Ok.pure ⟨z6c hj (hs.lines _ hm), ?_⟩
  rw [List.take_succ_eq_append_getElem hj, z5l]
  show _ + _ = _
  omega
 ·rintro ⟨a, b⟩ ⟨hb, ha⟩
  obtain rfl : b = ((lns f i).length : Int) := hb
  simp only [zNc, zvh, cond_false]
  rw [List.take_length] at ha
  exact Ok.pure ha
theorem z3u {k : Nat} {f : zb} (hs : z5c f) (hk : Fuel k f) (hF : Fine f) {i : Nat} (hi : i < nS f) : Ok (z4b k ⟨f⟩ (i : Int)) (fun r => r = zEc f i (·.High)) := by
 unfold z4b zFd
 have hm := List.getElem_mem hi
 rw [zpl hi] at hm
 have hfine := zde hF hi
 have hin := zTl hF zmr (zot hF) hi
 refine Ok.bind (P := fun r => r = zEc f i (·.High)) (Ok.bind (zYn hs hk hF hi) fun st hst => ?_) fun r hr => Ok.pure hr
 subst hst
 simp only [zDc, Option.bind_some, zCl hi]
 rw [zjc (by omega) (by omega)]
 refine Ok.bind (P := fun v : Int × Int => v.1 = zEc f i (·.High)) ?_ fun v hv => Ok.pure hv
 refine Ok.count (lns f i).length (fun j s => s.2 = (j : Int) ∧ s.1 = zac f i * f.Step.High + pks f (·.High) ((lns f i).take j)) ?_ ?_ ⟨rfl, by simp [pks]⟩ (hk.lines _ hm)
 ·rintro j ⟨a, b⟩ hj ⟨hb, ha⟩
  obtain rfl : b = (j : Int) := hb
  obtain rfl : a = _ := ha
  have h1 := zhj hfine.2 hj
  have h2 := (hfine.2 j hj).2
  have h3 := zmr _ (zWm hF (i := (lns f i)[j].Shelf.toNat) (by show (slp f i).Lines.1[j].Shelf.toNat < _; omega))
  have h4 := zKm (a := (lns f i)[j].Many) (b := (pk f (lns f i)[j].Shelf.toNat).High) (x := 20) (y := 300) (by show 0 ≤ (slp f i).Lines.1[j].Many; omega) h2.2 h3.1 h3.2
  have h5 := zHl hF zmr hfine.2 j (Nat.le_of_lt hj)
  have h6 := zZg hfine.2
  have h7 := hF.nfar.2
  have h8 : (j : Int) ≤ 12 := by
   have : j < (slp f i).Lines.1.length := hj
   omega
  simp only [zcc, zsd hj, cond_true, z3c hj, Option.bind_some, zDc]
  rw [zgq hF h1]
  simp only [Option.bind_some]
  have h5' : 0 ≤ pks f (fun x => x.High) (List.take j (lns f i)) ∧ pks f (fun x => x.High) (List.take j (lns f i)) ≤ 6000 * j := h5
  rw [zjc (n := (lns f i)[j].Many * (pk f (lns f i)[j].Shelf.toNat).High) (by omega) (by omega), zjc (by omega) (by omega)]
  refine Ok.pure ⟨z6c hj (hs.lines _ hm), ?_⟩
  rw [List.take_succ_eq_append_getElem hj, z5l]
  show _ + _ = _
  omega
 ·rintro ⟨a, b⟩ ⟨hb, ha⟩
  obtain rfl : b = ((lns f i).length : Int) := hb
  simp only [zcc, zvh, cond_false]
  rw [List.take_length] at ha
  exact Ok.pure ha
theorem zIp {f : zb} (hs : z5c f) (k : Nat) (n : Int) : zub k ⟨f⟩ n = some (decide (0 ≤ n) && decide (n ≤ (nS f : Int) - 1)) := by
 simp only [zub, zbi, zYm hs.slips, Option.bind_some]
theorem zIt {k : Nat} {f : zb} (hs : z5c f) (hk : Fuel k f) (hF : Fine f) {i : Nat} (hi : i < nS f) : zQf k f (i : Int) = some (zac f i, 0) := by
 obtain ⟨c, hc, hc'⟩ := zBn hs hk
 rw [if_pos hF] at hc'
 subst hc'
 obtain ⟨s, e1, rfl⟩ := zYn hs hk hF hi
 unfold zQf
 rw [hc]
 have t : ((0 : Int) != 0) = false := by decide
 have t2 : (!(decide (0 ≤ (i : Int)) && decide ((i : Int) ≤ (nS f : Int) - 1))) = false := by simp; omega
 simp only [Option.bind_some, t, cond_false, zIp hs, t2, e1]
theorem zXn {k : Nat} {f : zb} (hs : z5c f) (hk : Fuel k f) (hF : Fine f) {i : Nat} (hi : i < nS f) : zae k f (i : Int) = some (⟨zEc f i (·.Low), zEc f i (·.High)⟩, 0) := by
 obtain ⟨c, hc, hc'⟩ := zBn hs hk
 rw [if_pos hF] at hc'
 subst hc'
 obtain ⟨a, e1, rfl⟩ := zgu hs hk hF hi
 obtain ⟨b, e2, rfl⟩ := z3u hs hk hF hi
 unfold zae
 rw [hc]
 have t : ((0 : Int) != 0) = false := by decide
 have t2 : (!(decide (0 ≤ (i : Int)) && decide ((i : Int) ≤ (nS f : Int) - 1))) = false := by simp; omega
 simp only [Option.bind_some, t, cond_false, zIp hs, t2, e1, e2]
theorem zDu (k : Nat) {n : Int} {m : Nat} (hm : 0 < m) (hb : m < 1000) : ∃ i, i < m ∧ zpc k n (m : Int) = some (i : Int) := by
 have h1 : decide ((m : Int) < 1) = false := by simp; omega
 have h2 : ((m : Int) == 0) = false := by simp; omega
 have hneg := Int.tmod_lt_of_pos n (show (0 : Int) < (m : Int) by omega)
 have hlow : -(m : Int) < n.tmod (m : Int) := by
  have := Int.lt_tmod_of_pos n (show (0 : Int) < (m : Int) by omega)
  omega
 simp only [zpc, h1, h2, cond_false, z8c]
 by_cases h : n.tmod (m : Int) < 0
 ·refine ⟨(n.tmod (m : Int) + m).toNat, by omega, ?_⟩
  rw [show decide (n.tmod (m : Int) < 0) = true by simpa using h]
  simp only [cond_true, Option.bind_some]
  rw [zjc (by omega) (by omega), Int.toNat_of_nonneg (by omega)]
 ·refine ⟨(n.tmod (m : Int)).toNat, by omega, ?_⟩
  rw [show decide (n.tmod (m : Int) < 0) = false by simpa using h]
  simp only [cond_false, Option.bind_some]
  rw [Int.toNat_of_nonneg (by omega)]
end Go.AM
set_option linter.unusedVariables false
namespace Go.AM
open Go
def flat (f : zb) (v : zp → Int) (c : Cap) : zb := ⟨f.Far, ⟨v f.Step, v f.Step⟩, (f.Pick.1.map fun s => ⟨v s, v s⟩, c), f.Carry, f.Slips⟩
theorem zXo {f : zb} (h : z5c f) (v : zp → Int) (c : Cap) : z5c (flat f v c) := ⟨h.far, by simpa [flat] using h.pick, h.slips, h.lines⟩
theorem zKp {k : Nat} {f : zb} (h : Fuel k f) (v : zp → Int) (c : Cap) : Fuel k (flat f v c) := ⟨h.k0, h.far, by simpa [flat] using h.pick, h.slips, h.lines⟩
theorem z3p {f : zb} (h : Fine f) (v : zp → Int) (c : Cap) (hv : ∀ s lo hi, z3b lo hi s → lo ≤ v s ∧ v s ≤ hi) : Fine (flat f v c) where
 nfar := h.nfar
 npick := by simpa [flat] using h.npick
 step := ⟨(hv _ _ _ h.step).1, Int.le_refl _, (hv _ _ _ h.step).2⟩
 carry := h.carry
 nslips := h.nslips
 far := h.far
 pick := fun i hi => by
  have hi' : i < f.Pick.1.length := by simpa [flat] using hi
  have := hv _ _ _ (h.pick i hi')
  simp only [flat, List.getElem_map]
  exact ⟨this.1, Int.le_refl _, this.2⟩
 slips := h.slips
theorem zYo (f : zb) (v w : zp → Int) (c : Cap) (i : Nat) (hw : ∀ n, w ⟨n, n⟩ = n) (h0 : v ⟨0, 0⟩ = 0) : zEc (flat f v c) i w = zEc f i v := by
 have e : ∀ j, w (pk (flat f v c) j) = v (pk f j) := fun j => by
  unfold pk flat
  simp only [List.getElem?_map]
  cases f.Pick.1[j]? with
  | none => simp [hw, h0]
  | some s => simp [hw]
 unfold zEc
 have : pks (flat f v c) w (lns (flat f v c) i) = pks f v (lns f i) := by
  unfold pks
  simp only [e]
  rfl
 rw [this]
 show zac f i * w ⟨v f.Step, v f.Step⟩ + _ = _
 rw [hw]
theorem zqu (k : Nat) (a b : Int) : zT k a b = some ⟨a, b⟩ := rfl
theorem z7u {k : Nat} {f : zb} (hs : z5c f) (hk : Fuel k f) (hF : Fine f) (n v4 : Int) (v6 : zp × Int) (v8 : Int × Int) (v10 v12 : zp) :
  Ok (iter (fun s => zBb k f n v4 v6 v8 v10 v12 s.1 s.2.1 s.2.2) k (0, ([] : List zp), ([] : List zp))) (fun r => r.2.1 = f.Pick.1.map (fun s => ⟨s.Low, s.Low⟩) ∧ r.2.2 = f.Pick.1.map fun s => ⟨s.High, s.High⟩) := by
 have hn := hF.npick
 have hn2 := hF.nfar.2
 refine Ok.count f.Pick.1.length (fun j s => s.1 = (j : Int) ∧ s.2.1 = (f.Pick.1.take j).map (fun s => ⟨s.Low, s.Low⟩) ∧ s.2.2 = (f.Pick.1.take j).map fun s => ⟨s.High, s.High⟩) ?_ ?_ ⟨rfl, rfl, rfl⟩ hk.pick
 ·rintro j ⟨a, b, c⟩ hj ⟨ha, hb, hc⟩
  obtain rfl : a = (j : Int) := ha
  obtain rfl : b = _ := hb
  obtain rfl : c = _ := hc
  have e1 : decide (((f.Pick.1.take j).map (fun s : zp => (⟨s.Low, s.Low⟩ : zp))).length + 1 ≤ LIM) = true := by
   simp [LIM]; omega
  have e2 : decide (((f.Pick.1.take j).map (fun s : zp => (⟨s.High, s.High⟩ : zp))).length + 1 ≤ LIM) = true := by
   simp [LIM]; omega
  simp only [zBb, zsd hj, cond_true, z3c hj, Option.bind_some, zqu, e1, e2]
  refine Ok.pure ⟨z6c hj hs.pick, ?_, ?_⟩
  ·rw [List.take_succ_eq_append_getElem hj, List.map_append]; rfl
  ·rw [List.take_succ_eq_append_getElem hj, List.map_append]; rfl
 ·rintro ⟨a, b, c⟩ ⟨ha, hb, hc⟩
  obtain rfl : a = (f.Pick.1.length : Int) := ha
  simp only [zBb, zvh, cond_false]
  rw [List.take_length] at hb hc
  exact Ok.pure ⟨hb, hc⟩
theorem zBu {k : Nat} {f : zb} (hs : z5c f) (hk : Fuel k f) (hF : Fine f) (n : Int) {i : Nat} (hi : i < nS f) (v6 : zp × Int) (v8 : Int × Int) (v10 v12 : zp) (v14 : Int × (List zp) × (List zp)) (v16 v18 : zp × Int) :
  Ok (iter (fun s => zCb k f n (i : Int) v6 v8 v10 v12 v14 v16 v18 s.1 s.2) k (0, 0)) (fun r => r.1 = pks f (·.Low) (lns f i)) := by
 have hm := List.getElem_mem hi
 rw [zpl hi] at hm
 have hfine := zde hF hi
 refine Ok.count (lns f i).length (fun j s => s.2 = (j : Int) ∧ s.1 = pks f (·.Low) ((lns f i).take j)) ?_ ?_ ⟨rfl, by simp [pks]⟩ (hk.lines _ hm)
 ·rintro j ⟨a, b⟩ hj ⟨hb, ha⟩
  obtain rfl : b = (j : Int) := hb
  obtain rfl : a = _ := ha
  have h1 := zhj hfine.2 hj
  have h2 := (hfine.2 j hj).2
  have h3 := z4l _ (zWm hF (i := (lns f i)[j].Shelf.toNat) (by show (slp f i).Lines.1[j].Shelf.toNat < _; omega))
  have h4 := zKm (a := (lns f i)[j].Many) (b := (pk f (lns f i)[j].Shelf.toNat).Low) (x := 20) (y := 300) (by show 0 ≤ (slp f i).Lines.1[j].Many; omega) h2.2 h3.1 h3.2
  have h5 := zHl hF z4l hfine.2 j (Nat.le_of_lt hj)
  have h6 := zZg hfine.2
  have h7 := hF.nfar.2
  have h8 : (j : Int) ≤ 12 := by
   have : j < (slp f i).Lines.1.length := hj
   omega
  simp only [zCb, zCl hi, Option.bind_some, zsd hj, cond_true, z3c hj]
  rw [zgq hF h1]
  simp only [Option.bind_some]
  have h5' : 0 ≤ pks f (fun x => x.Low) (List.take j (lns f i)) ∧ pks f (fun x => x.Low) (List.take j (lns f i)) ≤ 6000 * j := h5
  rw [zjc (n := (lns f i)[j].Many * (pk f (lns f i)[j].Shelf.toNat).Low) (by omega) (by omega), zjc (by omega) (by omega)]
  refine Ok.pure ⟨z6c hj (hs.lines _ hm), ?_⟩
  rw [List.take_succ_eq_append_getElem hj, z5l]
 ·rintro ⟨a, b⟩ ⟨hb, ha⟩
  obtain rfl : b = ((lns f i).length : Int) := hb
  simp only [zCb, zCl hi, Option.bind_some, zvh, cond_false]
  rw [List.take_length] at ha
  exact Ok.pure ha
theorem zvr {k : Nat} {f : zb} (hs : z5c f) (hk : Fuel k f) (hw : z8b k = some true) (n : Int) : zKb k f n = some true := by
 refine Ok.eq ?_
 unfold zKb ztc
 obtain ⟨so, hso, hso'⟩ := zNt hs hk
 rw [hso]
 simp only [Option.bind_some]
 by_cases hc : (!so || ((nS f : Int) == 0)) = true
 ·have e : cond (!so) (some true) (some ((f.Slips.1.length : Int) == 0)) = some true := by
   cases so with
   | false => rfl
   | true => simpa using hc
  rw [e]
  simp only [Option.bind_some, cond_true, hw]
  exact Ok.pure rfl
 ·have hso2 : so = true := by cases so with
   | false => simp at hc
   | true => rfl
  subst hso2
  have hF := hso'.1 rfl
  have h0 : ((nS f : Int) == 0) = false := by simpa using hc
  have h0' : 0 < nS f := by
   simp only [beq_eq_false_iff_ne, ne_eq] at h0
   omega
  have h9 := hF.nslips
  have e : cond (!true) (some true) (some ((f.Slips.1.length : Int) == 0)) = some false := by
   show some ((nS f : Int) == 0) = _
   rw [h0]
  rw [e]
  obtain ⟨i, hi, hsp⟩ := zDu k (n := n) h0' (by omega)
  have hsp' : zpc k n (f.Slips.1.length : Int) = some (i : Int) := hsp
  simp only [Option.bind_some, cond_false, hsp', zXn hs hk hF hi, zIt hs hk hF hi, zqu]
  refine Ok.bind (z7u hs hk hF _ _ _ _ _ _) fun v14 ⟨h1, h2⟩ => ?_
  rw [h1, h2]
  have f1 := zXn (zXo hs (·.Low) (rcap true (f.Pick.1.map fun s => (⟨s.Low, s.Low⟩ : zp)))) (zKp hk _ _) (z3p hF (·.Low) _ fun s lo hi h => by have := h.1; have := h.2; omega) hi
  have f2 := zXn (zXo hs (·.High) (rcap true (f.Pick.1.map fun s => (⟨s.High, s.High⟩ : zp)))) (zKp hk _ _) (z3p hF (·.High) _ fun s lo hi h => by have := h.1; have := h.2; omega) hi
  rw [zYo _ _ _ _ _ (fun _ => rfl) rfl, zYo _ _ _ _ _ (fun _ => rfl) rfl] at f1 f2
  unfold flat at f1 f2
  rw [f1, f2]
  simp only [Option.bind_some]
  refine Ok.bind (zBu hs hk hF n hi _ _ _ _ _ _ _) fun v20 h3 => ?_
  rw [h3]
  have hin := zTl hF z4l (zzq hF) hi
  have hp := zHl hF z4l (zde hF hi).2 (lns f i).length (Nat.le_refl _)
  have h4 := zZg (zde hF hi).2
  have h5 := hF.nfar.2
  rw [List.take_length] at hp
  have hp : 0 ≤ pks f (fun x => x.Low) (lns f i) ∧ pks f (fun x => x.Low) (lns f i) ≤ 6000 * (lns f i).length := hp
  have h6 : ((lns f i).length : Int) ≤ 12 := by
   have : (lns f i).length ≤ nF f := h4
   omega
  have hwt : (zEc f i (fun x => x.Low) == w64 (w64 (zac f i * f.Step.Low) + pks f (fun x => x.Low) (lns f i))) = true := by
   rw [zjc (n := zac f i * f.Step.Low) (by omega) (by omega), zjc (by omega) (by omega)]
   simp [zEc]
  simp only [beq_self_eq_true, Bool.and_self, cond_true, hwt, hw, Option.bind_some]
  exact Ok.pure rfl
end Go.AM
set_option linter.unusedVariables false
namespace Go.AM
open Go
def zXc (x : zp) : Prop := (-9223372036854775808 ≤ x.Low ∧ x.Low ≤ 9223372036854775807) ∧ (-9223372036854775808 ≤ x.High ∧ x.High ≤ 9223372036854775807) ∧ True
def zSe (x : zl) : Prop := (-9223372036854775808 ≤ x.Shelf ∧ x.Shelf ≤ 9223372036854775807) ∧ (-9223372036854775808 ≤ x.Many ∧ x.Many ≤ 9223372036854775807) ∧ True
def zYe (x : zm) : Prop := zTf (fun (a : zl) => zSe a) x.Lines ∧ (-9223372036854775808 ≤ x.Until ∧ x.Until ≤ 9223372036854775807) ∧ True
def zCc (x : zb) : Prop := zTf (fun (a : Int) => (-9223372036854775808 ≤ a ∧ a ≤ 9223372036854775807)) x.Far ∧ zXc x.Step ∧ zTf (fun (a : zp) => zXc a) x.Pick ∧ (-9223372036854775808 ≤ x.Carry ∧ x.Carry ≤ 9223372036854775807) ∧ zTf (fun (a : zm) => zYe a) x.Slips ∧ True
end Go.AM
set_option maxRecDepth 1000000
namespace Go.AM
open Go
theorem ziu (k : Nat) : z8b (k + 300) = some true := by kernel_rfl
end Go.AM
set_option linter.unusedVariables false
namespace Go.AM
open Go
theorem zss {f : zb} (h : zCc f) : z5c f := by
 obtain ⟨h1, h2, h3, h4, h5, _⟩ := h
 have e : maxLen = 9223372036854775807 := by decide
 have l1 := h1.2.2
 have l3 := h3.2.2
 have l5 := h5.2.2
 rw [e] at l1 l3 l5
 refine ⟨show f.Far.1.length < _ by omega, by omega, show f.Slips.1.length < _ by omega, fun s hs => ?_⟩
 have := (h5.1 s hs).1.2.2
 rw [e] at this
 omega
def zat (f : zb) : Nat := 500000 + f.Far.1.length + f.Pick.1.length + f.Slips.1.length + (f.Slips.1.map fun s => s.Lines.1.length).sum
theorem znv {l : List Nat} {n : Nat} : n ∈ l → n ≤ l.sum := by
 induction l with
 | nil => intro h; simp at h
 | cons x t ih =>
  intro h
  rw [List.sum_cons]
  rcases List.mem_cons.1 h with rfl | h
  ·omega
  ·have := ih h
   omega
theorem zUu (f : zb) (m : Nat) : Fuel (zat f + m + 300) f := by
 unfold zat
 refine ⟨by omega, show f.Far.1.length < _ by omega, by omega, show f.Slips.1.length < _ by omega, fun s hs => ?_⟩
 have := znv (List.mem_map.2 ⟨s, hs, rfl⟩ : s.Lines.1.length ∈ f.Slips.1.map fun s => s.Lines.1.length)
 omega
end Go.AM
set_option linter.unusedVariables false
namespace Go.AM
open Go
theorem ztv (f : zb) (n : Int) (hf : zCc f) (hn : -9223372036854775808 ≤ n ∧ n ≤ 9223372036854775807) : ∃ k, zKb k f n = some true :=
 ⟨_, zvr (zss hf) (zUu f 0) (ziu _) n⟩
end Go.AM
