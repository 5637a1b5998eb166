/- The statement SlipTrue holds for every input that its row lets in. Conditions: none. -/
import Derived.KernelRfl
import Derived.Test.YtobbgcagbnhecaaDoorD
set_option linter.all false
set_option linter.unusedVariables false
set_option maxRecDepth 100000
namespace Go.AM
open Go Go.Proofs
noncomputable def z4p (p0 : zb) (p1 : Int) (r0 : (SL Int)) (r1 r2 : Int) (v1702 : zt1) (rc : zt0) (f1 f2 f3 f4 f5 f6 f7 : Fr) : (((SL Int) × Int × Bool) ⊕ Int) → Ex × St := Sum.elim (fun r => (.ret, zVg p0 p1 r0 r1 r2 v1702 rc f1 f2 f3 f4 f5 f6 f7 r)) (fun r => ((.exit 0), zah p0 p1 r0 r1 r2 v1702 rc f1 f2 f3 f4 f5 f6 f7 r))
theorem zPk (k : Nat) (p0 : zb) (p1 : Int) (r0 : (SL Int)) (r1 r2 : Int) (v1702 : zt1) (rc : zt0) (f1 f2 f3 f4 f5 f6 f7 : Fr) (hrc : ∀ (f : Fr) (r0 : (SL Int)) (r1 : Int) (r2 : Int) (r : ((SL Int) × Bool)), rc r0 r1 r2 = some r → zH TE (ev TE) 77 [(.d (dl eI r0.1 r0.2)), (xi r1), (xi r2), (.ptr 0 6 0), (.ptr 0 8 0), (.ptr 0 3 0), (.ptr 0 9 0)] ⟨f, [[(2, (.cells ((za p0).map .d))), (3, (.cells [(xi p1)])), (6, (.cells ((za p0).map .d))), (8, (.cells [(xi (w64 ((zn 1 (p0.Slips.1.length : Int)) - 1)))])), (9, (.cells [(.fn 77 [] [(.ptr 0 6 0), (.ptr 0 8 0), (.ptr 0 3 0), (.ptr 0 9 0)])]))], f1, f2, f3, f4, f5, f6, f7]⟩ [] = some (zt r, ⟨f, [[(2, (.cells ((za p0).map .d))), (3, (.cells [(xi p1)])), (6, (.cells ((za p0).map .d))), (8, (.cells [(xi (w64 ((zn 1 (p0.Slips.1.length : Int)) - 1)))])), (9, (.cells [(.fn 77 [] [(.ptr 0 6 0), (.ptr 0 8 0), (.ptr 0 3 0), (.ptr 0 9 0)])]))], f1, f2, f3, f4, f5, f6, f7]⟩, [])) (s18_8 : Int) (x : Int ⊕ (((SL Int) × Int × Bool) ⊕ Int)) (h : z2i k p0 p1 r0 r1 r2 v1702 rc s18_8 = some x) : zD TE 77 (blk TE 77 0) (fun s : Int => zfp p0 p1 r0 r1 r2 v1702 rc f1 f2 f3 f4 f5 f6 f7 s) (z4p p0 p1 r0 r1 r2 v1702 rc f1 f2 f3 f4 f5 f6 f7) s18_8 x := by
 unfold z2i at h
 refine zm h (fun h1901 g1 => ?_) (fun h1901 g1 => ?_)
 ·refine zm g1 (fun h1902 g2 => ?_) (fun h1902 g2 => ?_)
  ·cases g2
  ·refine zW g2 (fun h1903 g3 => ?_)
   refine zm g3 (fun h1904 g4 => ?_) (fun h1904 g4 => ?_)
   ·cases g4
   ·refine zi g4 (fun v1905 h1906 g5 => ?_)
    refine zm g5 (fun h1907 g6 => ?_) (fun h1907 g6 => ?_)
    ·exact zqo [(77, 8, 4, .q (xi (p0.Slips.1.length : Int))), (77, 8, 5, .q (xb true)), (77, 10, 3, .q (xi (r0.1.length : Int))), (77, 10, 5, .q (xi (r0.1.length : Int))), (77, 10, 6, .q (.d (dl eI r0.1 (ccap r0.2)))), (77, 10, 9, .q (.d (dl eI (r0.1 ++ [s18_8]) .ro))), (77, 10, 12, .q (xi (zn 1 s18_8))), (77, 10, 15, .i (.tup [(dl eI v1905.1.1 v1905.1.2), (db v1905.2)]) ⟨[], [[(2, (.cells ((za p0).map .d))), (3, (.cells [(xi p1)])), (6, (.cells ((za p0).map .d))), (8, (.cells [(xi (w64 ((zn 1 (p0.Slips.1.length : Int)) - 1)))])), (9, (.cells [(.fn 77 [] [(.ptr 0 6 0), (.ptr 0 8 0), (.ptr 0 3 0), (.ptr 0 9 0)])]))], f1, f2, f3, f4, f5, f6, f7]⟩ []), (77, 11, 0, .q (xb true))] [] g6 (ob (zq zk p0.Slips.1) (ob (o_b h1901) (ob (zq eI r0.1) (ob (zq eI r0.1) (ob (zVc (e := eI) (z := 1) r0.1 r0.2) (ob (o_ad (P := TE.P) (φ := fun _ _ => none) (T := 22) (q := (1, [(di 0)])) (c := (ccap r0.2)) (e := eI) r0.1 s18_8 (by kernel_rfl) (fun _ => rfl) h1902 h1903) (ob (zFb (x := 1) h1904) (ob (hrc ([] : Fr) ((r0.1 ++ [s18_8]), .ro) (or64 r1 (zn 1 s18_8)) r2 _ h1906) (ob (o_b h1907) ob0))))))))) (by kernel_rfl)
    ·exact zqn (w64 (s18_8 + 1)) [] [(77, 8, 4, .q (xi (p0.Slips.1.length : Int))), (77, 8, 5, .q (xb true)), (77, 10, 3, .q (xi (r0.1.length : Int))), (77, 10, 5, .q (xi (r0.1.length : Int))), (77, 10, 6, .q (.d (dl eI r0.1 (ccap r0.2)))), (77, 10, 9, .q (.d (dl eI (r0.1 ++ [s18_8]) .ro))), (77, 10, 12, .q (xi (zn 1 s18_8))), (77, 10, 15, .i (.tup [(dl eI v1905.1.1 v1905.1.2), (db v1905.2)]) ⟨[], [[(2, (.cells ((za p0).map .d))), (3, (.cells [(xi p1)])), (6, (.cells ((za p0).map .d))), (8, (.cells [(xi (w64 ((zn 1 (p0.Slips.1.length : Int)) - 1)))])), (9, (.cells [(.fn 77 [] [(.ptr 0 6 0), (.ptr 0 8 0), (.ptr 0 3 0), (.ptr 0 9 0)])]))], f1, f2, f3, f4, f5, f6, f7]⟩ []), (77, 11, 0, .q (xb false))] [] g6 (ob (zq zk p0.Slips.1) (ob (o_b h1901) (ob (zq eI r0.1) (ob (zq eI r0.1) (ob (zVc (e := eI) (z := 1) r0.1 r0.2) (ob (o_ad (P := TE.P) (φ := fun _ _ => none) (T := 22) (q := (1, [(di 0)])) (c := (ccap r0.2)) (e := eI) r0.1 s18_8 (by kernel_rfl) (fun _ => rfl) h1902 h1903) (ob (zFb (x := 1) h1904) (ob (hrc ([] : Fr) ((r0.1 ++ [s18_8]), .ro) (or64 r1 (zn 1 s18_8)) r2 _ h1906) (ob (o_b h1907) ob0))))))))) (by kernel_rfl)
 ·exact zqo [(77, 8, 4, .q (xi (p0.Slips.1.length : Int))), (77, 8, 5, .q (xb false))] [] g1 (ob (zq zk p0.Slips.1) (ob (o_b h1901) ob0)) (by kernel_rfl)
theorem zTo (k : Nat) (p0 : zb) (p1 : Int) (rc : zt0) (f1 f2 f3 f4 f5 f6 f7 : Fr) (hrc : ∀ (f : Fr) (r0 : (SL Int)) (r1 : Int) (r2 : Int) (r : ((SL Int) × Bool)), rc r0 r1 r2 = some r → zH TE (ev TE) 77 [(.d (dl eI r0.1 r0.2)), (xi r1), (xi r2), (.ptr 0 6 0), (.ptr 0 8 0), (.ptr 0 3 0), (.ptr 0 9 0)] ⟨f, [[(2, (.cells ((za p0).map .d))), (3, (.cells [(xi p1)])), (6, (.cells ((za p0).map .d))), (8, (.cells [(xi (w64 ((zn 1 (p0.Slips.1.length : Int)) - 1)))])), (9, (.cells [(.fn 77 [] [(.ptr 0 6 0), (.ptr 0 8 0), (.ptr 0 3 0), (.ptr 0 9 0)])]))], f1, f2, f3, f4, f5, f6, f7]⟩ [] = some (zt r, ⟨f, [[(2, (.cells ((za p0).map .d))), (3, (.cells [(xi p1)])), (6, (.cells ((za p0).map .d))), (8, (.cells [(xi (w64 ((zn 1 (p0.Slips.1.length : Int)) - 1)))])), (9, (.cells [(.fn 77 [] [(.ptr 0 6 0), (.ptr 0 8 0), (.ptr 0 3 0), (.ptr 0 9 0)])]))], f1, f2, f3, f4, f5, f6, f7]⟩, [])) (r0 : (SL Int)) (r1 r2 : Int) (r : zt15) (h : zOh k p0 p1 rc r0 r1 r2 = some r) : zH TE (ev TE) 77 [(.d (dl eI r0.1 r0.2)), (xi r1), (xi r2), (.ptr 0 6 0), (.ptr 0 8 0), (.ptr 0 3 0), (.ptr 0 9 0)] ⟨f7, [[(zc 2 (za p0)), (3, (.cells [(xi p1)])), (zc 6 (za p0)), (8, (.cells [(xi (w64 ((zn 1 (p0.Slips.1.length : Int)) - 1)))])), (9, (.cells [(.fn 77 [] [(.ptr 0 6 0), (.ptr 0 8 0), (.ptr 0 3 0), (.ptr 0 9 0)])]))], f1, f2, f3, f4, f5, f6]⟩ [] = some (zt r, ⟨f7, [[(zc 2 (za p0)), (3, (.cells [(xi p1)])), (zc 6 (za p0)), (8, (.cells [(xi (w64 ((zn 1 (p0.Slips.1.length : Int)) - 1)))])), (9, (.cells [(.fn 77 [] [(.ptr 0 6 0), (.ptr 0 8 0), (.ptr 0 3 0), (.ptr 0 9 0)])]))], f1, f2, f3, f4, f5, f6]⟩, []) := by
 unfold zOh at h
 refine zm h (fun h1701 g1 => ?_) (fun h1701 g1 => ?_)
 ·refine zi g1 (fun v1702 h1703 g2 => ?_)
  exact zM (g := (fun r => (zt r, ⟨f7, [[(2, (.cells ((za p0).map .d))), (3, (.cells [(xi p1)])), (6, (.cells ((za p0).map .d))), (8, (.cells [(xi (w64 ((zn 1 (p0.Slips.1.length : Int)) - 1)))])), (9, (.cells [(.fn 77 [] [(.ptr 0 6 0), (.ptr 0 8 0), (.ptr 0 3 0), (.ptr 0 9 0)])]))], f1, f2, f3, f4, f5, f6]⟩, []))) g2 (zF (n := 80) (V := [(77, 1, 1, .q (xi (r0.1.length : Int))), (77, 1, 3, .q (xb true)), (77, 2, 6, .c (.tup [(dl (eL eI) v1702.1.1 v1702.1.2), (db v1702.2)]))]) (C := []) (ob (zq eI r0.1) (ob (o_b h1701) (ob (zO k (⟨p0⟩ : zd) (⟨(zcb (w64 ((zn 1 (p0.Slips.1.length : Int)) - 1)) r1), p1⟩ : zp) _ h1703) ob0))) (by kernel_rfl))
 ·refine zi g1 (fun v1702 h1703 g2 => ?_)
  refine zi g2 (fun v1704 h1705 g3 => ?_)
  refine zSb g3 (fun v1707 hh g4_0 => ?_) (fun v1707 hh g4_0 => ?_)
  ·subst hh
   exact zM (g := (fun r => (zt r, ⟨f7, [[(2, (.cells ((za p0).map .d))), (3, (.cells [(xi p1)])), (6, (.cells ((za p0).map .d))), (8, (.cells [(xi (w64 ((zn 1 (p0.Slips.1.length : Int)) - 1)))])), (9, (.cells [(.fn 77 [] [(.ptr 0 6 0), (.ptr 0 8 0), (.ptr 0 3 0), (.ptr 0 9 0)])]))], f1, f2, f3, f4, f5, f6]⟩, []))) g4_0 (zF (n := 80) (V := [(77, 1, 1, .q (xi (r0.1.length : Int))), (77, 1, 3, .q (xb false)), (77, 5, 1, .q (xi (r0.1.length : Int)))]) (C := [(77, 2000036, (.nor, zle p0 p1 r0 r1 r2 (decide ((r0.1.length : Int) > 0)) rc f1 f2 f3 f4 f5 f6 f7 v1702)), (77, 0, (.ret, zVg p0 p1 r0 r1 r2 v1702 rc f1 f2 f3 f4 f5 f6 f7 v1707))]) (ob (zq eI r0.1) (ob (o_b h1701) (ob (zq eI r0.1) (ob (zLk k p0 p1 r0 r1 r2 (decide ((r0.1.length : Int) > 0)) rc f1 f2 f3 f4 f5 f6 f7 hrc _ h1703) (ob (zx (id := 0) (r' := (.ret, zVg p0 p1 r0 r1 r2 v1702 rc f1 f2 f3 f4 f5 f6 f7 v1707)) (zDd (zPk k p0 p1 r0 r1 r2 v1702 rc f1 f2 f3 f4 f5 f6 f7 hrc) k _ _ h1705) rfl) ob0))))) (by kernel_rfl))
  ·subst hh
   exact zM (g := (fun r => (zt r, ⟨f7, [[(2, (.cells ((za p0).map .d))), (3, (.cells [(xi p1)])), (6, (.cells ((za p0).map .d))), (8, (.cells [(xi (w64 ((zn 1 (p0.Slips.1.length : Int)) - 1)))])), (9, (.cells [(.fn 77 [] [(.ptr 0 6 0), (.ptr 0 8 0), (.ptr 0 3 0), (.ptr 0 9 0)])]))], f1, f2, f3, f4, f5, f6]⟩, []))) g4_0 (zF (n := 80) (V := [(77, 1, 1, .q (xi (r0.1.length : Int))), (77, 1, 3, .q (xb false)), (77, 5, 1, .q (xi (r0.1.length : Int)))]) (C := [(77, 2000036, (.nor, zle p0 p1 r0 r1 r2 (decide ((r0.1.length : Int) > 0)) rc f1 f2 f3 f4 f5 f6 f7 v1702)), (77, 0, (.nor, zah p0 p1 r0 r1 r2 v1702 rc f1 f2 f3 f4 f5 f6 f7 v1707))]) (ob (zq eI r0.1) (ob (o_b h1701) (ob (zq eI r0.1) (ob (zLk k p0 p1 r0 r1 r2 (decide ((r0.1.length : Int) > 0)) rc f1 f2 f3 f4 f5 f6 f7 hrc _ h1703) (ob (zx (id := 0) (r' := (.nor, zah p0 p1 r0 r1 r2 v1702 rc f1 f2 f3 f4 f5 f6 f7 v1707)) (zDd (zPk k p0 p1 r0 r1 r2 v1702 rc f1 f2 f3 f4 f5 f6 f7 hrc) k _ _ h1705) rfl) ob0))))) (by kernel_rfl))
noncomputable def zte (p0 : zb) (p1 : Int) (r0 : (SL Int)) (r1 r2 : Int) (cb : Bool) (rc : zt0) (f1 f2 f3 f4 f5 f6 f7 f8 : Fr) (r : zt1) : St := ⟨(z6l r0 r1 r2 r), ⟨[], [[(zc 2 (za p0)), (3, (.cells [(xi p1)])), (zc 6 (za p0)), (8, (.cells [(xi (w64 ((zn 1 (p0.Slips.1.length : Int)) - 1)))])), (9, (.cells [(.fn 77 [] [(.ptr 0 6 0), (.ptr 0 8 0), (.ptr 0 3 0), (.ptr 0 9 0)])]))], f1, f2, f3, f4, f5, f6, f7, f8]⟩, []⟩
theorem zIk (k : Nat) (p0 : zb) (p1 : Int) (r0 : (SL Int)) (r1 r2 : Int) (cb : Bool) (rc : zt0) (f1 f2 f3 f4 f5 f6 f7 f8 : Fr) (hrc : ∀ (f : Fr) (r0 : (SL Int)) (r1 : Int) (r2 : Int) (r : ((SL Int) × Bool)), rc r0 r1 r2 = some r → zH TE (ev TE) 77 [(.d (dl eI r0.1 r0.2)), (xi r1), (xi r2), (.ptr 0 6 0), (.ptr 0 8 0), (.ptr 0 3 0), (.ptr 0 9 0)] ⟨f, [[(2, (.cells ((za p0).map .d))), (3, (.cells [(xi p1)])), (6, (.cells ((za p0).map .d))), (8, (.cells [(xi (w64 ((zn 1 (p0.Slips.1.length : Int)) - 1)))])), (9, (.cells [(.fn 77 [] [(.ptr 0 6 0), (.ptr 0 8 0), (.ptr 0 3 0), (.ptr 0 9 0)])]))], f1, f2, f3, f4, f5, f6, f7, f8]⟩ [] = some (zt r, ⟨f, [[(2, (.cells ((za p0).map .d))), (3, (.cells [(xi p1)])), (6, (.cells ((za p0).map .d))), (8, (.cells [(xi (w64 ((zn 1 (p0.Slips.1.length : Int)) - 1)))])), (9, (.cells [(.fn 77 [] [(.ptr 0 6 0), (.ptr 0 8 0), (.ptr 0 3 0), (.ptr 0 9 0)])]))], f1, f2, f3, f4, f5, f6, f7, f8]⟩, [])) (r : zt1) (h : zfj k p0 p1 r0 r1 r2 cb rc = some r) : ev TE 77 (cnd TE 77 36) ⟨(z3l r0 r1 r2 cb), ⟨[], [[(zc 2 (za p0)), (3, (.cells [(xi p1)])), (zc 6 (za p0)), (8, (.cells [(xi (w64 ((zn 1 (p0.Slips.1.length : Int)) - 1)))])), (9, (.cells [(.fn 77 [] [(.ptr 0 6 0), (.ptr 0 8 0), (.ptr 0 3 0), (.ptr 0 9 0)])]))], f1, f2, f3, f4, f5, f6, f7, f8]⟩, []⟩ = some (.nor, zte p0 p1 r0 r1 r2 cb rc f1 f2 f3 f4 f5 f6 f7 f8 r) := by
 unfold zfj at h
 refine zm h (fun h2001 g1 => ?_) (fun h2001 g1 => ?_)
 ·subst h2001
  refine zi g1 (fun v2002 h2003 g2 => ?_)
  exact zw (g := fun r => (Ex.nor, zte p0 p1 r0 r1 r2 true rc f1 f2 f3 f4 f5 f6 f7 f8 r)) g2 (zqe [(77, 6, 2, .q (xi (r0.1.length : Int))), (77, 6, 4, .q (.d (.pin [(di v2002)])))] [] (ob (zq eI r0.1) (ob (o_ia (e := eI) 1 h2003 rfl) ob0)) (by kernel_rfl))
 ·subst h2001
  exact zw (g := fun r => (Ex.nor, zte p0 p1 r0 r1 r2 false rc f1 f2 f3 f4 f5 f6 f7 f8 r)) g1 (zqe [] [] ob0 (by kernel_rfl))
noncomputable def zny (r0 : (SL Int)) (r1 r2 : Int) (v1902 : zt1) (s20_8 : Int) : TM := [(0, (.d (dl eI r0.1 r0.2))), (1, (xi r1)), (2, (xi r2)), (3, (.ptr 0 6 0)), (4, (.ptr 0 8 0)), (5, (.ptr 0 3 0)), (6, (.ptr 0 9 0)), (10, (.d (.sl [] .nil))), (11, (xb false)), (21, (xb false)), (14, (xi v1902.1)), (36, (xb v1902.2)), (15, (xi s20_8))]
noncomputable def zJp (p0 : zb) (p1 : Int) (r0 : (SL Int)) (r1 r2 : Int) (v1902 : zt1) (rc : zt0) (f1 f2 f3 f4 f5 f6 f7 f8 : Fr) (s20_8 : Int) : St := ⟨(zny r0 r1 r2 v1902 s20_8), ⟨[], [[(zc 2 (za p0)), (3, (.cells [(xi p1)])), (zc 6 (za p0)), (8, (.cells [(xi (w64 ((zn 1 (p0.Slips.1.length : Int)) - 1)))])), (9, (.cells [(.fn 77 [] [(.ptr 0 6 0), (.ptr 0 8 0), (.ptr 0 3 0), (.ptr 0 9 0)])]))], f1, f2, f3, f4, f5, f6, f7, f8]⟩, []⟩
noncomputable def z2x (r0 : (SL Int)) (r1 r2 : Int) (r : zt18) (v1902 : zt1) : TM := [(0, (.d (dl eI r0.1 r0.2))), (1, (xi r1)), (2, (xi r2)), (3, (.ptr 0 6 0)), (4, (.ptr 0 8 0)), (5, (.ptr 0 3 0)), (6, (.ptr 0 9 0)), (10, (.d (dl eI r.1.1 r.1.2))), (11, (xb true)), (21, (xb false)), (14, (xi v1902.1)), (36, (xb v1902.2)), (15, (xi r.2.1)), (50, (xb true)), (16, (.d (dl eI r.1.1 r.1.2))), (17, (xb r.2.2)), (72, (xb true))]
noncomputable def z0g (p0 : zb) (p1 : Int) (r0 : (SL Int)) (r1 r2 : Int) (v1902 : zt1) (rc : zt0) (f1 f2 f3 f4 f5 f6 f7 f8 : Fr) (r : zt18) : St := ⟨(z2x r0 r1 r2 r v1902), ⟨[], [[(zc 2 (za p0)), (3, (.cells [(xi p1)])), (zc 6 (za p0)), (8, (.cells [(xi (w64 ((zn 1 (p0.Slips.1.length : Int)) - 1)))])), (9, (.cells [(.fn 77 [] [(.ptr 0 6 0), (.ptr 0 8 0), (.ptr 0 3 0), (.ptr 0 9 0)])]))], f1, f2, f3, f4, f5, f6, f7, f8]⟩, []⟩
noncomputable def zSx (r0 : (SL Int)) (r1 r2 : Int) (v1902 : zt1) (r : Int) : TM := [(0, (.d (dl eI r0.1 r0.2))), (1, (xi r1)), (2, (xi r2)), (3, (.ptr 0 6 0)), (4, (.ptr 0 8 0)), (5, (.ptr 0 3 0)), (6, (.ptr 0 9 0)), (10, (.d (.sl [] .nil))), (11, (xb false)), (21, (xb false)), (14, (xi v1902.1)), (36, (xb v1902.2)), (15, (xi r)), (50, (xb false))]
noncomputable def zNg (p0 : zb) (p1 : Int) (r0 : (SL Int)) (r1 r2 : Int) (v1902 : zt1) (rc : zt0) (f1 f2 f3 f4 f5 f6 f7 f8 : Fr) (r : Int) : St := ⟨(zSx r0 r1 r2 v1902 r), ⟨[], [[(zc 2 (za p0)), (3, (.cells [(xi p1)])), (zc 6 (za p0)), (8, (.cells [(xi (w64 ((zn 1 (p0.Slips.1.length : Int)) - 1)))])), (9, (.cells [(.fn 77 [] [(.ptr 0 6 0), (.ptr 0 8 0), (.ptr 0 3 0), (.ptr 0 9 0)])]))], f1, f2, f3, f4, f5, f6, f7, f8]⟩, []⟩
noncomputable def z7o (p0 : zb) (p1 : Int) (r0 : (SL Int)) (r1 r2 : Int) (v1902 : zt1) (rc : zt0) (f1 f2 f3 f4 f5 f6 f7 f8 : Fr) : (((SL Int) × Int × Bool) ⊕ Int) → Ex × St := Sum.elim (fun r => (.ret, z0g p0 p1 r0 r1 r2 v1902 rc f1 f2 f3 f4 f5 f6 f7 f8 r)) (fun r => ((.exit 0), zNg p0 p1 r0 r1 r2 v1902 rc f1 f2 f3 f4 f5 f6 f7 f8 r))
theorem z5j (k : Nat) (p0 : zb) (p1 : Int) (r0 : (SL Int)) (r1 r2 : Int) (v1902 : zt1) (rc : zt0) (f1 f2 f3 f4 f5 f6 f7 f8 : Fr) (hrc : ∀ (f : Fr) (r0 : (SL Int)) (r1 : Int) (r2 : Int) (r : ((SL Int) × Bool)), rc r0 r1 r2 = some r → zH TE (ev TE) 77 [(.d (dl eI r0.1 r0.2)), (xi r1), (xi r2), (.ptr 0 6 0), (.ptr 0 8 0), (.ptr 0 3 0), (.ptr 0 9 0)] ⟨f, [[(2, (.cells ((za p0).map .d))), (3, (.cells [(xi p1)])), (6, (.cells ((za p0).map .d))), (8, (.cells [(xi (w64 ((zn 1 (p0.Slips.1.length : Int)) - 1)))])), (9, (.cells [(.fn 77 [] [(.ptr 0 6 0), (.ptr 0 8 0), (.ptr 0 3 0), (.ptr 0 9 0)])]))], f1, f2, f3, f4, f5, f6, f7, f8]⟩ [] = some (zt r, ⟨f, [[(2, (.cells ((za p0).map .d))), (3, (.cells [(xi p1)])), (6, (.cells ((za p0).map .d))), (8, (.cells [(xi (w64 ((zn 1 (p0.Slips.1.length : Int)) - 1)))])), (9, (.cells [(.fn 77 [] [(.ptr 0 6 0), (.ptr 0 8 0), (.ptr 0 3 0), (.ptr 0 9 0)])]))], f1, f2, f3, f4, f5, f6, f7, f8]⟩, [])) (s20_8 : Int) (x : Int ⊕ (((SL Int) × Int × Bool) ⊕ Int)) (h : z3i k p0 p1 r0 r1 r2 v1902 rc s20_8 = some x) : zD TE 77 (blk TE 77 0) (fun s : Int => zJp p0 p1 r0 r1 r2 v1902 rc f1 f2 f3 f4 f5 f6 f7 f8 s) (z7o p0 p1 r0 r1 r2 v1902 rc f1 f2 f3 f4 f5 f6 f7 f8) s20_8 x := by
 unfold z3i at h
 refine zm h (fun h2101 g1 => ?_) (fun h2101 g1 => ?_)
 ·refine zm g1 (fun h2102 g2 => ?_) (fun h2102 g2 => ?_)
  ·cases g2
  ·refine zW g2 (fun h2103 g3 => ?_)
   refine zm g3 (fun h2104 g4 => ?_) (fun h2104 g4 => ?_)
   ·cases g4
   ·refine zi g4 (fun v2105 h2106 g5 => ?_)
    refine zm g5 (fun h2107 g6 => ?_) (fun h2107 g6 => ?_)
    ·exact zqo [(77, 8, 4, .q (xi (p0.Slips.1.length : Int))), (77, 8, 5, .q (xb true)), (77, 10, 3, .q (xi (r0.1.length : Int))), (77, 10, 5, .q (xi (r0.1.length : Int))), (77, 10, 6, .q (.d (dl eI r0.1 (ccap r0.2)))), (77, 10, 9, .q (.d (dl eI (r0.1 ++ [s20_8]) .ro))), (77, 10, 12, .q (xi (zn 1 s20_8))), (77, 10, 15, .i (.tup [(dl eI v2105.1.1 v2105.1.2), (db v2105.2)]) ⟨[], [[(2, (.cells ((za p0).map .d))), (3, (.cells [(xi p1)])), (6, (.cells ((za p0).map .d))), (8, (.cells [(xi (w64 ((zn 1 (p0.Slips.1.length : Int)) - 1)))])), (9, (.cells [(.fn 77 [] [(.ptr 0 6 0), (.ptr 0 8 0), (.ptr 0 3 0), (.ptr 0 9 0)])]))], f1, f2, f3, f4, f5, f6, f7, f8]⟩ []), (77, 11, 0, .q (xb true))] [] g6 (ob (zq zk p0.Slips.1) (ob (o_b h2101) (ob (zq eI r0.1) (ob (zq eI r0.1) (ob (zVc (e := eI) (z := 1) r0.1 r0.2) (ob (o_ad (P := TE.P) (φ := fun _ _ => none) (T := 22) (q := (1, [(di 0)])) (c := (ccap r0.2)) (e := eI) r0.1 s20_8 (by kernel_rfl) (fun _ => rfl) h2102 h2103) (ob (zFb (x := 1) h2104) (ob (hrc ([] : Fr) ((r0.1 ++ [s20_8]), .ro) (or64 r1 (zn 1 s20_8)) r2 _ h2106) (ob (o_b h2107) ob0))))))))) (by kernel_rfl)
    ·exact zqn (w64 (s20_8 + 1)) [] [(77, 8, 4, .q (xi (p0.Slips.1.length : Int))), (77, 8, 5, .q (xb true)), (77, 10, 3, .q (xi (r0.1.length : Int))), (77, 10, 5, .q (xi (r0.1.length : Int))), (77, 10, 6, .q (.d (dl eI r0.1 (ccap r0.2)))), (77, 10, 9, .q (.d (dl eI (r0.1 ++ [s20_8]) .ro))), (77, 10, 12, .q (xi (zn 1 s20_8))), (77, 10, 15, .i (.tup [(dl eI v2105.1.1 v2105.1.2), (db v2105.2)]) ⟨[], [[(2, (.cells ((za p0).map .d))), (3, (.cells [(xi p1)])), (6, (.cells ((za p0).map .d))), (8, (.cells [(xi (w64 ((zn 1 (p0.Slips.1.length : Int)) - 1)))])), (9, (.cells [(.fn 77 [] [(.ptr 0 6 0), (.ptr 0 8 0), (.ptr 0 3 0), (.ptr 0 9 0)])]))], f1, f2, f3, f4, f5, f6, f7, f8]⟩ []), (77, 11, 0, .q (xb false))] [] g6 (ob (zq zk p0.Slips.1) (ob (o_b h2101) (ob (zq eI r0.1) (ob (zq eI r0.1) (ob (zVc (e := eI) (z := 1) r0.1 r0.2) (ob (o_ad (P := TE.P) (φ := fun _ _ => none) (T := 22) (q := (1, [(di 0)])) (c := (ccap r0.2)) (e := eI) r0.1 s20_8 (by kernel_rfl) (fun _ => rfl) h2102 h2103) (ob (zFb (x := 1) h2104) (ob (hrc ([] : Fr) ((r0.1 ++ [s20_8]), .ro) (or64 r1 (zn 1 s20_8)) r2 _ h2106) (ob (o_b h2107) ob0))))))))) (by kernel_rfl)
 ·exact zqo [(77, 8, 4, .q (xi (p0.Slips.1.length : Int))), (77, 8, 5, .q (xb false))] [] g1 (ob (zq zk p0.Slips.1) (ob (o_b h2101) ob0)) (by kernel_rfl)
theorem zRo (k : Nat) (p0 : zb) (p1 : Int) (rc : zt0) (f1 f2 f3 f4 f5 f6 f7 f8 : Fr) (hrc : ∀ (f : Fr) (r0 : (SL Int)) (r1 : Int) (r2 : Int) (r : ((SL Int) × Bool)), rc r0 r1 r2 = some r → zH TE (ev TE) 77 [(.d (dl eI r0.1 r0.2)), (xi r1), (xi r2), (.ptr 0 6 0), (.ptr 0 8 0), (.ptr 0 3 0), (.ptr 0 9 0)] ⟨f, [[(2, (.cells ((za p0).map .d))), (3, (.cells [(xi p1)])), (6, (.cells ((za p0).map .d))), (8, (.cells [(xi (w64 ((zn 1 (p0.Slips.1.length : Int)) - 1)))])), (9, (.cells [(.fn 77 [] [(.ptr 0 6 0), (.ptr 0 8 0), (.ptr 0 3 0), (.ptr 0 9 0)])]))], f1, f2, f3, f4, f5, f6, f7, f8]⟩ [] = some (zt r, ⟨f, [[(2, (.cells ((za p0).map .d))), (3, (.cells [(xi p1)])), (6, (.cells ((za p0).map .d))), (8, (.cells [(xi (w64 ((zn 1 (p0.Slips.1.length : Int)) - 1)))])), (9, (.cells [(.fn 77 [] [(.ptr 0 6 0), (.ptr 0 8 0), (.ptr 0 3 0), (.ptr 0 9 0)])]))], f1, f2, f3, f4, f5, f6, f7, f8]⟩, [])) (r0 : (SL Int)) (r1 r2 : Int) (r : zt15) (h : zEh k p0 p1 rc r0 r1 r2 = some r) : zH TE (ev TE) 77 [(.d (dl eI r0.1 r0.2)), (xi r1), (xi r2), (.ptr 0 6 0), (.ptr 0 8 0), (.ptr 0 3 0), (.ptr 0 9 0)] ⟨f8, [[(zc 2 (za p0)), (3, (.cells [(xi p1)])), (zc 6 (za p0)), (8, (.cells [(xi (w64 ((zn 1 (p0.Slips.1.length : Int)) - 1)))])), (9, (.cells [(.fn 77 [] [(.ptr 0 6 0), (.ptr 0 8 0), (.ptr 0 3 0), (.ptr 0 9 0)])]))], f1, f2, f3, f4, f5, f6, f7]⟩ [] = some (zt r, ⟨f8, [[(zc 2 (za p0)), (3, (.cells [(xi p1)])), (zc 6 (za p0)), (8, (.cells [(xi (w64 ((zn 1 (p0.Slips.1.length : Int)) - 1)))])), (9, (.cells [(.fn 77 [] [(.ptr 0 6 0), (.ptr 0 8 0), (.ptr 0 3 0), (.ptr 0 9 0)])]))], f1, f2, f3, f4, f5, f6, f7]⟩, []) := by
 unfold zEh at h
 refine zm h (fun h1901 g1 => ?_) (fun h1901 g1 => ?_)
 ·refine zi g1 (fun v1902 h1903 g2 => ?_)
  exact zM (g := (fun r => (zt r, ⟨f8, [[(2, (.cells ((za p0).map .d))), (3, (.cells [(xi p1)])), (6, (.cells ((za p0).map .d))), (8, (.cells [(xi (w64 ((zn 1 (p0.Slips.1.length : Int)) - 1)))])), (9, (.cells [(.fn 77 [] [(.ptr 0 6 0), (.ptr 0 8 0), (.ptr 0 3 0), (.ptr 0 9 0)])]))], f1, f2, f3, f4, f5, f6, f7]⟩, []))) g2 (zF (n := 80) (V := [(77, 1, 1, .q (xi (r0.1.length : Int))), (77, 1, 3, .q (xb true)), (77, 2, 6, .c (.tup [(dl (eL eI) v1902.1.1 v1902.1.2), (db v1902.2)]))]) (C := []) (ob (zq eI r0.1) (ob (o_b h1901) (ob (zO k (⟨p0⟩ : zd) (⟨(zcb (w64 ((zn 1 (p0.Slips.1.length : Int)) - 1)) r1), p1⟩ : zp) _ h1903) ob0))) (by kernel_rfl))
 ·refine zi g1 (fun v1902 h1903 g2 => ?_)
  refine zi g2 (fun v1904 h1905 g3 => ?_)
  refine zSb g3 (fun v1907 hh g4_0 => ?_) (fun v1907 hh g4_0 => ?_)
  ·subst hh
   exact zM (g := (fun r => (zt r, ⟨f8, [[(2, (.cells ((za p0).map .d))), (3, (.cells [(xi p1)])), (6, (.cells ((za p0).map .d))), (8, (.cells [(xi (w64 ((zn 1 (p0.Slips.1.length : Int)) - 1)))])), (9, (.cells [(.fn 77 [] [(.ptr 0 6 0), (.ptr 0 8 0), (.ptr 0 3 0), (.ptr 0 9 0)])]))], f1, f2, f3, f4, f5, f6, f7]⟩, []))) g4_0 (zF (n := 80) (V := [(77, 1, 1, .q (xi (r0.1.length : Int))), (77, 1, 3, .q (xb false)), (77, 5, 1, .q (xi (r0.1.length : Int)))]) (C := [(77, 2000036, (.nor, zte p0 p1 r0 r1 r2 (decide ((r0.1.length : Int) > 0)) rc f1 f2 f3 f4 f5 f6 f7 f8 v1902)), (77, 0, (.ret, z0g p0 p1 r0 r1 r2 v1902 rc f1 f2 f3 f4 f5 f6 f7 f8 v1907))]) (ob (zq eI r0.1) (ob (o_b h1901) (ob (zq eI r0.1) (ob (zIk k p0 p1 r0 r1 r2 (decide ((r0.1.length : Int) > 0)) rc f1 f2 f3 f4 f5 f6 f7 f8 hrc _ h1903) (ob (zx (id := 0) (r' := (.ret, z0g p0 p1 r0 r1 r2 v1902 rc f1 f2 f3 f4 f5 f6 f7 f8 v1907)) (zDd (z5j k p0 p1 r0 r1 r2 v1902 rc f1 f2 f3 f4 f5 f6 f7 f8 hrc) k _ _ h1905) rfl) ob0))))) (by kernel_rfl))
  ·subst hh
   exact zM (g := (fun r => (zt r, ⟨f8, [[(2, (.cells ((za p0).map .d))), (3, (.cells [(xi p1)])), (6, (.cells ((za p0).map .d))), (8, (.cells [(xi (w64 ((zn 1 (p0.Slips.1.length : Int)) - 1)))])), (9, (.cells [(.fn 77 [] [(.ptr 0 6 0), (.ptr 0 8 0), (.ptr 0 3 0), (.ptr 0 9 0)])]))], f1, f2, f3, f4, f5, f6, f7]⟩, []))) g4_0 (zF (n := 80) (V := [(77, 1, 1, .q (xi (r0.1.length : Int))), (77, 1, 3, .q (xb false)), (77, 5, 1, .q (xi (r0.1.length : Int)))]) (C := [(77, 2000036, (.nor, zte p0 p1 r0 r1 r2 (decide ((r0.1.length : Int) > 0)) rc f1 f2 f3 f4 f5 f6 f7 f8 v1902)), (77, 0, (.nor, zNg p0 p1 r0 r1 r2 v1902 rc f1 f2 f3 f4 f5 f6 f7 f8 v1907))]) (ob (zq eI r0.1) (ob (o_b h1901) (ob (zq eI r0.1) (ob (zIk k p0 p1 r0 r1 r2 (decide ((r0.1.length : Int) > 0)) rc f1 f2 f3 f4 f5 f6 f7 f8 hrc _ h1903) (ob (zx (id := 0) (r' := (.nor, zNg p0 p1 r0 r1 r2 v1902 rc f1 f2 f3 f4 f5 f6 f7 f8 v1907)) (zDd (z5j k p0 p1 r0 r1 r2 v1902 rc f1 f2 f3 f4 f5 f6 f7 f8 hrc) k _ _ h1905) rfl) ob0))))) (by kernel_rfl))
noncomputable def zve (p0 : zb) (p1 : Int) (r0 : (SL Int)) (r1 r2 : Int) (cb : Bool) (rc : zt0) (f1 f2 f3 f4 f5 f6 f7 f8 f9 : Fr) (r : zt1) : St := ⟨(z6l r0 r1 r2 r), ⟨[], [[(zc 2 (za p0)), (3, (.cells [(xi p1)])), (zc 6 (za p0)), (8, (.cells [(xi (w64 ((zn 1 (p0.Slips.1.length : Int)) - 1)))])), (9, (.cells [(.fn 77 [] [(.ptr 0 6 0), (.ptr 0 8 0), (.ptr 0 3 0), (.ptr 0 9 0)])]))], f1, f2, f3, f4, f5, f6, f7, f8, f9]⟩, []⟩
theorem zBk (k : Nat) (p0 : zb) (p1 : Int) (r0 : (SL Int)) (r1 r2 : Int) (cb : Bool) (rc : zt0) (f1 f2 f3 f4 f5 f6 f7 f8 f9 : Fr) (hrc : ∀ (f : Fr) (r0 : (SL Int)) (r1 : Int) (r2 : Int) (r : ((SL Int) × Bool)), rc r0 r1 r2 = some r → zH TE (ev TE) 77 [(.d (dl eI r0.1 r0.2)), (xi r1), (xi r2), (.ptr 0 6 0), (.ptr 0 8 0), (.ptr 0 3 0), (.ptr 0 9 0)] ⟨f, [[(2, (.cells ((za p0).map .d))), (3, (.cells [(xi p1)])), (6, (.cells ((za p0).map .d))), (8, (.cells [(xi (w64 ((zn 1 (p0.Slips.1.length : Int)) - 1)))])), (9, (.cells [(.fn 77 [] [(.ptr 0 6 0), (.ptr 0 8 0), (.ptr 0 3 0), (.ptr 0 9 0)])]))], f1, f2, f3, f4, f5, f6, f7, f8, f9]⟩ [] = some (zt r, ⟨f, [[(2, (.cells ((za p0).map .d))), (3, (.cells [(xi p1)])), (6, (.cells ((za p0).map .d))), (8, (.cells [(xi (w64 ((zn 1 (p0.Slips.1.length : Int)) - 1)))])), (9, (.cells [(.fn 77 [] [(.ptr 0 6 0), (.ptr 0 8 0), (.ptr 0 3 0), (.ptr 0 9 0)])]))], f1, f2, f3, f4, f5, f6, f7, f8, f9]⟩, [])) (r : zt1) (h : znj k p0 p1 r0 r1 r2 cb rc = some r) : ev TE 77 (cnd TE 77 36) ⟨(z3l r0 r1 r2 cb), ⟨[], [[(zc 2 (za p0)), (3, (.cells [(xi p1)])), (zc 6 (za p0)), (8, (.cells [(xi (w64 ((zn 1 (p0.Slips.1.length : Int)) - 1)))])), (9, (.cells [(.fn 77 [] [(.ptr 0 6 0), (.ptr 0 8 0), (.ptr 0 3 0), (.ptr 0 9 0)])]))], f1, f2, f3, f4, f5, f6, f7, f8, f9]⟩, []⟩ = some (.nor, zve p0 p1 r0 r1 r2 cb rc f1 f2 f3 f4 f5 f6 f7 f8 f9 r) := by
 unfold znj at h
 refine zm h (fun h2201 g1 => ?_) (fun h2201 g1 => ?_)
 ·subst h2201
  refine zi g1 (fun v2202 h2203 g2 => ?_)
  exact zw (g := fun r => (Ex.nor, zve p0 p1 r0 r1 r2 true rc f1 f2 f3 f4 f5 f6 f7 f8 f9 r)) g2 (zqe [(77, 6, 2, .q (xi (r0.1.length : Int))), (77, 6, 4, .q (.d (.pin [(di v2202)])))] [] (ob (zq eI r0.1) (ob (o_ia (e := eI) 1 h2203 rfl) ob0)) (by kernel_rfl))
 ·subst h2201
  exact zw (g := fun r => (Ex.nor, zve p0 p1 r0 r1 r2 false rc f1 f2 f3 f4 f5 f6 f7 f8 f9 r)) g1 (zqe [] [] ob0 (by kernel_rfl))
noncomputable def zCy (r0 : (SL Int)) (r1 r2 : Int) (v2102 : zt1) (s22_8 : Int) : TM := [(0, (.d (dl eI r0.1 r0.2))), (1, (xi r1)), (2, (xi r2)), (3, (.ptr 0 6 0)), (4, (.ptr 0 8 0)), (5, (.ptr 0 3 0)), (6, (.ptr 0 9 0)), (10, (.d (.sl [] .nil))), (11, (xb false)), (21, (xb false)), (14, (xi v2102.1)), (36, (xb v2102.2)), (15, (xi s22_8))]
noncomputable def zHp (p0 : zb) (p1 : Int) (r0 : (SL Int)) (r1 r2 : Int) (v2102 : zt1) (rc : zt0) (f1 f2 f3 f4 f5 f6 f7 f8 f9 : Fr) (s22_8 : Int) : St := ⟨(zCy r0 r1 r2 v2102 s22_8), ⟨[], [[(zc 2 (za p0)), (3, (.cells [(xi p1)])), (zc 6 (za p0)), (8, (.cells [(xi (w64 ((zn 1 (p0.Slips.1.length : Int)) - 1)))])), (9, (.cells [(.fn 77 [] [(.ptr 0 6 0), (.ptr 0 8 0), (.ptr 0 3 0), (.ptr 0 9 0)])]))], f1, f2, f3, f4, f5, f6, f7, f8, f9]⟩, []⟩
noncomputable def zuy (r0 : (SL Int)) (r1 r2 : Int) (r : zt18) (v2102 : zt1) : TM := [(0, (.d (dl eI r0.1 r0.2))), (1, (xi r1)), (2, (xi r2)), (3, (.ptr 0 6 0)), (4, (.ptr 0 8 0)), (5, (.ptr 0 3 0)), (6, (.ptr 0 9 0)), (10, (.d (dl eI r.1.1 r.1.2))), (11, (xb true)), (21, (xb false)), (14, (xi v2102.1)), (36, (xb v2102.2)), (15, (xi r.2.1)), (50, (xb true)), (16, (.d (dl eI r.1.1 r.1.2))), (17, (xb r.2.2)), (72, (xb true))]
noncomputable def z2g (p0 : zb) (p1 : Int) (r0 : (SL Int)) (r1 r2 : Int) (v2102 : zt1) (rc : zt0) (f1 f2 f3 f4 f5 f6 f7 f8 f9 : Fr) (r : zt18) : St := ⟨(zuy r0 r1 r2 r v2102), ⟨[], [[(zc 2 (za p0)), (3, (.cells [(xi p1)])), (zc 6 (za p0)), (8, (.cells [(xi (w64 ((zn 1 (p0.Slips.1.length : Int)) - 1)))])), (9, (.cells [(.fn 77 [] [(.ptr 0 6 0), (.ptr 0 8 0), (.ptr 0 3 0), (.ptr 0 9 0)])]))], f1, f2, f3, f4, f5, f6, f7, f8, f9]⟩, []⟩
noncomputable def zGy (r0 : (SL Int)) (r1 r2 : Int) (v2102 : zt1) (r : Int) : TM := [(0, (.d (dl eI r0.1 r0.2))), (1, (xi r1)), (2, (xi r2)), (3, (.ptr 0 6 0)), (4, (.ptr 0 8 0)), (5, (.ptr 0 3 0)), (6, (.ptr 0 9 0)), (10, (.d (.sl [] .nil))), (11, (xb false)), (21, (xb false)), (14, (xi v2102.1)), (36, (xb v2102.2)), (15, (xi r)), (50, (xb false))]
noncomputable def z7g (p0 : zb) (p1 : Int) (r0 : (SL Int)) (r1 r2 : Int) (v2102 : zt1) (rc : zt0) (f1 f2 f3 f4 f5 f6 f7 f8 f9 : Fr) (r : Int) : St := ⟨(zGy r0 r1 r2 v2102 r), ⟨[], [[(zc 2 (za p0)), (3, (.cells [(xi p1)])), (zc 6 (za p0)), (8, (.cells [(xi (w64 ((zn 1 (p0.Slips.1.length : Int)) - 1)))])), (9, (.cells [(.fn 77 [] [(.ptr 0 6 0), (.ptr 0 8 0), (.ptr 0 3 0), (.ptr 0 9 0)])]))], f1, f2, f3, f4, f5, f6, f7, f8, f9]⟩, []⟩
noncomputable def z3o (p0 : zb) (p1 : Int) (r0 : (SL Int)) (r1 r2 : Int) (v2102 : zt1) (rc : zt0) (f1 f2 f3 f4 f5 f6 f7 f8 f9 : Fr) : (((SL Int) × Int × Bool) ⊕ Int) → Ex × St := Sum.elim (fun r => (.ret, z2g p0 p1 r0 r1 r2 v2102 rc f1 f2 f3 f4 f5 f6 f7 f8 f9 r)) (fun r => ((.exit 0), z7g p0 p1 r0 r1 r2 v2102 rc f1 f2 f3 f4 f5 f6 f7 f8 f9 r))
theorem zwk (k : Nat) (p0 : zb) (p1 : Int) (r0 : (SL Int)) (r1 r2 : Int) (v2102 : zt1) (rc : zt0) (f1 f2 f3 f4 f5 f6 f7 f8 f9 : Fr) (hrc : ∀ (f : Fr) (r0 : (SL Int)) (r1 : Int) (r2 : Int) (r : ((SL Int) × Bool)), rc r0 r1 r2 = some r → zH TE (ev TE) 77 [(.d (dl eI r0.1 r0.2)), (xi r1), (xi r2), (.ptr 0 6 0), (.ptr 0 8 0), (.ptr 0 3 0), (.ptr 0 9 0)] ⟨f, [[(2, (.cells ((za p0).map .d))), (3, (.cells [(xi p1)])), (6, (.cells ((za p0).map .d))), (8, (.cells [(xi (w64 ((zn 1 (p0.Slips.1.length : Int)) - 1)))])), (9, (.cells [(.fn 77 [] [(.ptr 0 6 0), (.ptr 0 8 0), (.ptr 0 3 0), (.ptr 0 9 0)])]))], f1, f2, f3, f4, f5, f6, f7, f8, f9]⟩ [] = some (zt r, ⟨f, [[(2, (.cells ((za p0).map .d))), (3, (.cells [(xi p1)])), (6, (.cells ((za p0).map .d))), (8, (.cells [(xi (w64 ((zn 1 (p0.Slips.1.length : Int)) - 1)))])), (9, (.cells [(.fn 77 [] [(.ptr 0 6 0), (.ptr 0 8 0), (.ptr 0 3 0), (.ptr 0 9 0)])]))], f1, f2, f3, f4, f5, f6, f7, f8, f9]⟩, [])) (s22_8 : Int) (x : Int ⊕ (((SL Int) × Int × Bool) ⊕ Int)) (h : zhj k p0 p1 r0 r1 r2 v2102 rc s22_8 = some x) : zD TE 77 (blk TE 77 0) (fun s : Int => zHp p0 p1 r0 r1 r2 v2102 rc f1 f2 f3 f4 f5 f6 f7 f8 f9 s) (z3o p0 p1 r0 r1 r2 v2102 rc f1 f2 f3 f4 f5 f6 f7 f8 f9) s22_8 x := by
 unfold zhj at h
 refine zm h (fun h2301 g1 => ?_) (fun h2301 g1 => ?_)
 ·refine zm g1 (fun h2302 g2 => ?_) (fun h2302 g2 => ?_)
  ·cases g2
  ·refine zW g2 (fun h2303 g3 => ?_)
   refine zm g3 (fun h2304 g4 => ?_) (fun h2304 g4 => ?_)
   ·cases g4
   ·refine zi g4 (fun v2305 h2306 g5 => ?_)
    refine zm g5 (fun h2307 g6 => ?_) (fun h2307 g6 => ?_)
    ·exact zqo [(77, 8, 4, .q (xi (p0.Slips.1.length : Int))), (77, 8, 5, .q (xb true)), (77, 10, 3, .q (xi (r0.1.length : Int))), (77, 10, 5, .q (xi (r0.1.length : Int))), (77, 10, 6, .q (.d (dl eI r0.1 (ccap r0.2)))), (77, 10, 9, .q (.d (dl eI (r0.1 ++ [s22_8]) .ro))), (77, 10, 12, .q (xi (zn 1 s22_8))), (77, 10, 15, .i (.tup [(dl eI v2305.1.1 v2305.1.2), (db v2305.2)]) ⟨[], [[(2, (.cells ((za p0).map .d))), (3, (.cells [(xi p1)])), (6, (.cells ((za p0).map .d))), (8, (.cells [(xi (w64 ((zn 1 (p0.Slips.1.length : Int)) - 1)))])), (9, (.cells [(.fn 77 [] [(.ptr 0 6 0), (.ptr 0 8 0), (.ptr 0 3 0), (.ptr 0 9 0)])]))], f1, f2, f3, f4, f5, f6, f7, f8, f9]⟩ []), (77, 11, 0, .q (xb true))] [] g6 (ob (zq zk p0.Slips.1) (ob (o_b h2301) (ob (zq eI r0.1) (ob (zq eI r0.1) (ob (zVc (e := eI) (z := 1) r0.1 r0.2) (ob (o_ad (P := TE.P) (φ := fun _ _ => none) (T := 22) (q := (1, [(di 0)])) (c := (ccap r0.2)) (e := eI) r0.1 s22_8 (by kernel_rfl) (fun _ => rfl) h2302 h2303) (ob (zFb (x := 1) h2304) (ob (hrc ([] : Fr) ((r0.1 ++ [s22_8]), .ro) (or64 r1 (zn 1 s22_8)) r2 _ h2306) (ob (o_b h2307) ob0))))))))) (by kernel_rfl)
    ·exact zqn (w64 (s22_8 + 1)) [] [(77, 8, 4, .q (xi (p0.Slips.1.length : Int))), (77, 8, 5, .q (xb true)), (77, 10, 3, .q (xi (r0.1.length : Int))), (77, 10, 5, .q (xi (r0.1.length : Int))), (77, 10, 6, .q (.d (dl eI r0.1 (ccap r0.2)))), (77, 10, 9, .q (.d (dl eI (r0.1 ++ [s22_8]) .ro))), (77, 10, 12, .q (xi (zn 1 s22_8))), (77, 10, 15, .i (.tup [(dl eI v2305.1.1 v2305.1.2), (db v2305.2)]) ⟨[], [[(2, (.cells ((za p0).map .d))), (3, (.cells [(xi p1)])), (6, (.cells ((za p0).map .d))), (8, (.cells [(xi (w64 ((zn 1 (p0.Slips.1.length : Int)) - 1)))])), (9, (.cells [(.fn 77 [] [(.ptr 0 6 0), (.ptr 0 8 0), (.ptr 0 3 0), (.ptr 0 9 0)])]))], f1, f2, f3, f4, f5, f6, f7, f8, f9]⟩ []), (77, 11, 0, .q (xb false))] [] g6 (ob (zq zk p0.Slips.1) (ob (o_b h2301) (ob (zq eI r0.1) (ob (zq eI r0.1) (ob (zVc (e := eI) (z := 1) r0.1 r0.2) (ob (o_ad (P := TE.P) (φ := fun _ _ => none) (T := 22) (q := (1, [(di 0)])) (c := (ccap r0.2)) (e := eI) r0.1 s22_8 (by kernel_rfl) (fun _ => rfl) h2302 h2303) (ob (zFb (x := 1) h2304) (ob (hrc ([] : Fr) ((r0.1 ++ [s22_8]), .ro) (or64 r1 (zn 1 s22_8)) r2 _ h2306) (ob (o_b h2307) ob0))))))))) (by kernel_rfl)
 ·exact zqo [(77, 8, 4, .q (xi (p0.Slips.1.length : Int))), (77, 8, 5, .q (xb false))] [] g1 (ob (zq zk p0.Slips.1) (ob (o_b h2301) ob0)) (by kernel_rfl)
theorem zYn (k : Nat) (p0 : zb) (p1 : Int) (rc : zt0) (f1 f2 f3 f4 f5 f6 f7 f8 f9 : Fr) (hrc : ∀ (f : Fr) (r0 : (SL Int)) (r1 : Int) (r2 : Int) (r : ((SL Int) × Bool)), rc r0 r1 r2 = some r → zH TE (ev TE) 77 [(.d (dl eI r0.1 r0.2)), (xi r1), (xi r2), (.ptr 0 6 0), (.ptr 0 8 0), (.ptr 0 3 0), (.ptr 0 9 0)] ⟨f, [[(2, (.cells ((za p0).map .d))), (3, (.cells [(xi p1)])), (6, (.cells ((za p0).map .d))), (8, (.cells [(xi (w64 ((zn 1 (p0.Slips.1.length : Int)) - 1)))])), (9, (.cells [(.fn 77 [] [(.ptr 0 6 0), (.ptr 0 8 0), (.ptr 0 3 0), (.ptr 0 9 0)])]))], f1, f2, f3, f4, f5, f6, f7, f8, f9]⟩ [] = some (zt r, ⟨f, [[(2, (.cells ((za p0).map .d))), (3, (.cells [(xi p1)])), (6, (.cells ((za p0).map .d))), (8, (.cells [(xi (w64 ((zn 1 (p0.Slips.1.length : Int)) - 1)))])), (9, (.cells [(.fn 77 [] [(.ptr 0 6 0), (.ptr 0 8 0), (.ptr 0 3 0), (.ptr 0 9 0)])]))], f1, f2, f3, f4, f5, f6, f7, f8, f9]⟩, [])) (r0 : (SL Int)) (r1 r2 : Int) (r : zt15) (h : z5g k p0 p1 rc r0 r1 r2 = some r) : zH TE (ev TE) 77 [(.d (dl eI r0.1 r0.2)), (xi r1), (xi r2), (.ptr 0 6 0), (.ptr 0 8 0), (.ptr 0 3 0), (.ptr 0 9 0)] ⟨f9, [[(zc 2 (za p0)), (3, (.cells [(xi p1)])), (zc 6 (za p0)), (8, (.cells [(xi (w64 ((zn 1 (p0.Slips.1.length : Int)) - 1)))])), (9, (.cells [(.fn 77 [] [(.ptr 0 6 0), (.ptr 0 8 0), (.ptr 0 3 0), (.ptr 0 9 0)])]))], f1, f2, f3, f4, f5, f6, f7, f8]⟩ [] = some (zt r, ⟨f9, [[(zc 2 (za p0)), (3, (.cells [(xi p1)])), (zc 6 (za p0)), (8, (.cells [(xi (w64 ((zn 1 (p0.Slips.1.length : Int)) - 1)))])), (9, (.cells [(.fn 77 [] [(.ptr 0 6 0), (.ptr 0 8 0), (.ptr 0 3 0), (.ptr 0 9 0)])]))], f1, f2, f3, f4, f5, f6, f7, f8]⟩, []) := by
 unfold z5g at h
 refine zm h (fun h2101 g1 => ?_) (fun h2101 g1 => ?_)
 ·refine zi g1 (fun v2102 h2103 g2 => ?_)
  exact zM (g := (fun r => (zt r, ⟨f9, [[(2, (.cells ((za p0).map .d))), (3, (.cells [(xi p1)])), (6, (.cells ((za p0).map .d))), (8, (.cells [(xi (w64 ((zn 1 (p0.Slips.1.length : Int)) - 1)))])), (9, (.cells [(.fn 77 [] [(.ptr 0 6 0), (.ptr 0 8 0), (.ptr 0 3 0), (.ptr 0 9 0)])]))], f1, f2, f3, f4, f5, f6, f7, f8]⟩, []))) g2 (zF (n := 80) (V := [(77, 1, 1, .q (xi (r0.1.length : Int))), (77, 1, 3, .q (xb true)), (77, 2, 6, .c (.tup [(dl (eL eI) v2102.1.1 v2102.1.2), (db v2102.2)]))]) (C := []) (ob (zq eI r0.1) (ob (o_b h2101) (ob (zO k (⟨p0⟩ : zd) (⟨(zcb (w64 ((zn 1 (p0.Slips.1.length : Int)) - 1)) r1), p1⟩ : zp) _ h2103) ob0))) (by kernel_rfl))
 ·refine zi g1 (fun v2102 h2103 g2 => ?_)
  refine zi g2 (fun v2104 h2105 g3 => ?_)
  refine zSb g3 (fun v2107 hh g4_0 => ?_) (fun v2107 hh g4_0 => ?_)
  ·subst hh
   exact zM (g := (fun r => (zt r, ⟨f9, [[(2, (.cells ((za p0).map .d))), (3, (.cells [(xi p1)])), (6, (.cells ((za p0).map .d))), (8, (.cells [(xi (w64 ((zn 1 (p0.Slips.1.length : Int)) - 1)))])), (9, (.cells [(.fn 77 [] [(.ptr 0 6 0), (.ptr 0 8 0), (.ptr 0 3 0), (.ptr 0 9 0)])]))], f1, f2, f3, f4, f5, f6, f7, f8]⟩, []))) g4_0 (zF (n := 80) (V := [(77, 1, 1, .q (xi (r0.1.length : Int))), (77, 1, 3, .q (xb false)), (77, 5, 1, .q (xi (r0.1.length : Int)))]) (C := [(77, 2000036, (.nor, zve p0 p1 r0 r1 r2 (decide ((r0.1.length : Int) > 0)) rc f1 f2 f3 f4 f5 f6 f7 f8 f9 v2102)), (77, 0, (.ret, z2g p0 p1 r0 r1 r2 v2102 rc f1 f2 f3 f4 f5 f6 f7 f8 f9 v2107))]) (ob (zq eI r0.1) (ob (o_b h2101) (ob (zq eI r0.1) (ob (zBk k p0 p1 r0 r1 r2 (decide ((r0.1.length : Int) > 0)) rc f1 f2 f3 f4 f5 f6 f7 f8 f9 hrc _ h2103) (ob (zx (id := 0) (r' := (.ret, z2g p0 p1 r0 r1 r2 v2102 rc f1 f2 f3 f4 f5 f6 f7 f8 f9 v2107)) (zDd (zwk k p0 p1 r0 r1 r2 v2102 rc f1 f2 f3 f4 f5 f6 f7 f8 f9 hrc) k _ _ h2105) rfl) ob0))))) (by kernel_rfl))
  ·subst hh
   exact zM (g := (fun r => (zt r, ⟨f9, [[(2, (.cells ((za p0).map .d))), (3, (.cells [(xi p1)])), (6, (.cells ((za p0).map .d))), (8, (.cells [(xi (w64 ((zn 1 (p0.Slips.1.length : Int)) - 1)))])), (9, (.cells [(.fn 77 [] [(.ptr 0 6 0), (.ptr 0 8 0), (.ptr 0 3 0), (.ptr 0 9 0)])]))], f1, f2, f3, f4, f5, f6, f7, f8]⟩, []))) g4_0 (zF (n := 80) (V := [(77, 1, 1, .q (xi (r0.1.length : Int))), (77, 1, 3, .q (xb false)), (77, 5, 1, .q (xi (r0.1.length : Int)))]) (C := [(77, 2000036, (.nor, zve p0 p1 r0 r1 r2 (decide ((r0.1.length : Int) > 0)) rc f1 f2 f3 f4 f5 f6 f7 f8 f9 v2102)), (77, 0, (.nor, z7g p0 p1 r0 r1 r2 v2102 rc f1 f2 f3 f4 f5 f6 f7 f8 f9 v2107))]) (ob (zq eI r0.1) (ob (o_b h2101) (ob (zq eI r0.1) (ob (zBk k p0 p1 r0 r1 r2 (decide ((r0.1.length : Int) > 0)) rc f1 f2 f3 f4 f5 f6 f7 f8 f9 hrc _ h2103) (ob (zx (id := 0) (r' := (.nor, z7g p0 p1 r0 r1 r2 v2102 rc f1 f2 f3 f4 f5 f6 f7 f8 f9 v2107)) (zDd (zwk k p0 p1 r0 r1 r2 v2102 rc f1 f2 f3 f4 f5 f6 f7 f8 f9 hrc) k _ _ h2105) rfl) ob0))))) (by kernel_rfl))
theorem zel (k : Nat) (p0 : zb) (p1 : Int) (r0 : (SL Int)) (r1 r2 : Int) (r : zt15) (h : z9j k p0 p1 10 r0 r1 r2 = some r) : zH TE (ev TE) 77 [(.d (dl eI r0.1 r0.2)), (xi r1), (xi r2), (.ptr 0 6 0), (.ptr 0 8 0), (.ptr 0 3 0), (.ptr 0 9 0)] ⟨[(zc 2 (za p0)), (3, (.cells [(xi p1)])), (zc 6 (za p0)), (8, (.cells [(xi (w64 ((zn 1 (p0.Slips.1.length : Int)) - 1)))])), (9, (.cells [(.fn 77 [] [(.ptr 0 6 0), (.ptr 0 8 0), (.ptr 0 3 0), (.ptr 0 9 0)])]))], []⟩ [] = some (zt r, ⟨[(zc 2 (za p0)), (3, (.cells [(xi p1)])), (zc 6 (za p0)), (8, (.cells [(xi (w64 ((zn 1 (p0.Slips.1.length : Int)) - 1)))])), (9, (.cells [(.fn 77 [] [(.ptr 0 6 0), (.ptr 0 8 0), (.ptr 0 3 0), (.ptr 0 9 0)])]))], []⟩, []) := by
 unfold z9j at h
 exact zwo k p0 p1 _ (fun f1 r0 r1 r2 r h => zQo k p0 p1 _ f1 (fun f2 r0 r1 r2 r h => zoo k p0 p1 _ f1 f2 (fun f3 r0 r1 r2 r h => zHo k p0 p1 _ f1 f2 f3 (fun f4 r0 r1 r2 r h => zxo k p0 p1 _ f1 f2 f3 f4 (fun f5 r0 r1 r2 r h => zlo k p0 p1 _ f1 f2 f3 f4 f5 (fun f6 r0 r1 r2 r h => zpo k p0 p1 _ f1 f2 f3 f4 f5 f6 (fun f7 r0 r1 r2 r h => zTo k p0 p1 _ f1 f2 f3 f4 f5 f6 f7 (fun f8 r0 r1 r2 r h => zRo k p0 p1 _ f1 f2 f3 f4 f5 f6 f7 f8 (fun f9 r0 r1 r2 r h => zYn k p0 p1 _ f1 f2 f3 f4 f5 f6 f7 f8 f9 (fun f r0 r1 r2 r h => by cases h) r0 r1 r2 r h) r0 r1 r2 r h) r0 r1 r2 r h) r0 r1 r2 r h) r0 r1 r2 r h) r0 r1 r2 r h) r0 r1 r2 r h) r0 r1 r2 r h) r0 r1 r2 r h) r0 r1 r2 r h
noncomputable def zUy (p0 : zb) (p1 s1_12 : Int) : TM := [(0, (.d (.agg (za p0)))), (1, (xi p1)), (zsp 2), (zsp 3), (4, (.d (.sl [] .nil))), (5, (xi 0)), (zsp 6), (7, (xi 0)), (20, (xb false)), (zsp 8), (zsp 9), (33, (xi (w64 ((p0.Slips.1.length : Int) + 1)))), (34, (xi s1_12))]
noncomputable def zAq (p0 : zb) (p1 s1_12 : Int) : St := ⟨(zUy p0 p1 s1_12), ⟨[(zc 2 (za p0)), (3, (.cells [(xi p1)])), (zc 6 (za p0)), (8, (.cells [(xi (w64 ((zn 1 (p0.Slips.1.length : Int)) - 1)))])), (9, (.cells [(.fn 77 [] [(.ptr 0 6 0), (.ptr 0 8 0), (.ptr 0 3 0), (.ptr 0 9 0)])]))], []⟩, []⟩
noncomputable def zky (p0 : zb) (p1 : Int) (r : ((SL Int) × Int × (SL Int) × Bool)) : TM := [(0, (.d (.agg (za p0)))), (1, (xi p1)), (zsp 2), (zsp 3), (4, (.d (dl eI r.1.1 r.1.2))), (5, (xi 0)), (zsp 6), (7, (xi 0)), (20, (xb false)), (zsp 8), (zsp 9), (33, (xi (w64 ((p0.Slips.1.length : Int) + 1)))), (34, (xi r.2.1)), (35, (xb true)), (10, (xi r.2.1)), (11, (.d (dl eI r.2.2.1.1 r.2.2.1.2))), (12, (xb r.2.2.2)), (43, (xb true))]
noncomputable def zQh (p0 : zb) (p1 : Int) (r : ((SL Int) × Int × (SL Int) × Bool)) : St := ⟨(zky p0 p1 r), ⟨[(zc 2 (za p0)), (3, (.cells [(xi p1)])), (zc 6 (za p0)), (8, (.cells [(xi (w64 ((zn 1 (p0.Slips.1.length : Int)) - 1)))])), (9, (.cells [(.fn 77 [] [(.ptr 0 6 0), (.ptr 0 8 0), (.ptr 0 3 0), (.ptr 0 9 0)])]))], []⟩, []⟩
noncomputable def zqy (p0 : zb) (p1 r : Int) : TM := [(0, (.d (.agg (za p0)))), (1, (xi p1)), (zsp 2), (zsp 3), (4, (.d (.sl [] .nil))), (5, (xi 0)), (zsp 6), (7, (xi 0)), (20, (xb false)), (zsp 8), (zsp 9), (33, (xi (w64 ((p0.Slips.1.length : Int) + 1)))), (34, (xi r)), (35, (xb false))]
noncomputable def zGh (p0 : zb) (p1 r : Int) : St := ⟨(zqy p0 p1 r), ⟨[(zc 2 (za p0)), (3, (.cells [(xi p1)])), (zc 6 (za p0)), (8, (.cells [(xi (w64 ((zn 1 (p0.Slips.1.length : Int)) - 1)))])), (9, (.cells [(.fn 77 [] [(.ptr 0 6 0), (.ptr 0 8 0), (.ptr 0 3 0), (.ptr 0 9 0)])]))], []⟩, []⟩
noncomputable def zqq (p0 : zb) (p1 : Int) : (((SL Int) × Int × (SL Int) × Bool) ⊕ Int) → Ex × St := Sum.elim (fun r => (.ret, zQh p0 p1 r)) (fun r => ((.exit 0), zGh p0 p1 r))
theorem zhl (k : Nat) (p0 : zb) (p1 s1_12 : Int) (x : Int ⊕ (((SL Int) × Int × (SL Int) × Bool) ⊕ Int)) (h : zZj k p0 p1 s1_12 = some x) : zD TE 30 (blk TE 30 0) (fun s : Int => zAq p0 p1 s) (zqq p0 p1) s1_12 x := by
 unfold zZj at h
 refine zm h (fun h2301 g1 => ?_) (fun h2301 g1 => ?_)
 ·refine zi g1 (fun v2302 h2303 g2 => ?_)
  refine zm g2 (fun h2304 g3 => ?_) (fun h2304 g3 => ?_)
  ·exact zqo [(30, 8, 0, .q (xb true)), (30, 10, 2, .i (.tup [(dl eI v2302.1.1 v2302.1.2), (db v2302.2)]) ⟨[(2, (.cells ((za p0).map .d))), (3, (.cells [(xi p1)])), (6, (.cells ((za p0).map .d))), (8, (.cells [(xi (w64 ((zn 1 (p0.Slips.1.length : Int)) - 1)))])), (9, (.cells [(.fn 77 [] [(.ptr 0 6 0), (.ptr 0 8 0), (.ptr 0 3 0), (.ptr 0 9 0)])]))], []⟩ []), (30, 11, 0, .q (xb true)), (30, 12, 2, .q (xi (v2302.1.1.length : Int))), (30, 12, 4, .q (xi (v2302.1.1.length : Int))), (30, 12, 5, .q (.d (dl eI v2302.1.1 (ccap v2302.1.2))))] [] g3 (ob (o_b h2301) (ob (zel k p0 p1 ([], Cap.nil) 0 s1_12 _ h2303) (ob (o_b h2304) (ob (zq eI v2302.1.1) (ob (zq eI v2302.1.1) (ob (zVc (e := eI) (z := 1) v2302.1.1 v2302.1.2) ob0)))))) (by kernel_rfl)
  ·exact zqn (w64 (s1_12 + 1)) [] [(30, 8, 0, .q (xb true)), (30, 10, 2, .i (.tup [(dl eI v2302.1.1 v2302.1.2), (db v2302.2)]) ⟨[(2, (.cells ((za p0).map .d))), (3, (.cells [(xi p1)])), (6, (.cells ((za p0).map .d))), (8, (.cells [(xi (w64 ((zn 1 (p0.Slips.1.length : Int)) - 1)))])), (9, (.cells [(.fn 77 [] [(.ptr 0 6 0), (.ptr 0 8 0), (.ptr 0 3 0), (.ptr 0 9 0)])]))], []⟩ []), (30, 11, 0, .q (xb false))] [] g3 (ob (o_b h2301) (ob (zel k p0 p1 ([], Cap.nil) 0 s1_12 _ h2303) (ob (o_b h2304) ob0))) (by kernel_rfl)
 ·exact zqo [(30, 8, 0, .q (xb false))] [] g1 (ob (o_b h2301) ob0) (by kernel_rfl)
theorem zNr (k : Nat) (p0 : zb) (p1 : Int) (r : ((SL Int) × Int)) (h : zwn k p0 p1 = some r) : zA TE (ev TE) 30 [(.agg (za p0)), (di p1)] = some (zzg r) := by
 unfold zwn at h
 refine zi h (fun v1 h2 g1 => ?_)
 refine zm g1 (fun h3 g2 => ?_) (fun h3 g2 => ?_)
 ·exact zy (g := zzg) g2 (zqc [(52, 1, 1, .c (di v1)), (52, 2, 1, .q (xb true)), (30, 2, 1, .q (xb true))] [] (ob (zK k p0 _ h2) (ob (o_b h3) (ob (o_b h3) ob0))) (by kernel_rfl))
 ·refine zi g2 (fun v4 h5 g3 => ?_)
  have y1 := fun (d : D) (P : List Prop) (V : Ovs) (C : Cuts) (q : All P) h => (zqc ([(52, 1, 1, .c (di v1)), (52, 2, 1, .q (xb false)), (76, 1, 1, .c (db v4))] ++ V) C (ob (zK k p0 _ h2) (ob (o_b h3) (ob (zQ k p1 1 5 _ h5) q))) h : zA TE (ev TE) 30 [(.agg (za p0)), (di p1)] = some d)
  refine zm g3 (fun h6 g4 => ?_) (fun h6 g4 => ?_)
  ·exact zy (g := zzg) g4 (y1 _ _ [(52, 4, 4, .q (xb true))] [] (ob (o_b h6) ob0) (by kernel_rfl))
  ·have y2 := fun (d : _) (P : List Prop) (V : Ovs) (C : Cuts) (q : All P) h => y1 d _ ([(52, 4, 4, .q (xb false)), (30, 4, 3, .q (xi (p0.Slips.1.length : Int))), (30, 4, 4, .q (xi (zn 1 (p0.Slips.1.length : Int)))), (30, 7, 3, .q (xi (p0.Slips.1.length : Int)))] ++ V) C (ob (o_b h6) (ob (zq zk p0.Slips.1) q)) h
   refine zm g4 (fun h7 g5 => ?_) (fun h7 g5 => ?_)
   ·cases g5
   ·refine zi g5 (fun v8 h9 g6 => ?_)
    refine zSb g6 (fun v11 hh g7_0 => ?_) (fun v11 hh g7_0 => ?_)
    ·subst hh
     exact zy (g := zzg) g7_0 (y2 _ _ [] [(30, 0, (.ret, zQh p0 p1 v11))] (ob (zFb (x := 1) h7) (ob (zq zk p0.Slips.1) (ob (zx (id := 0) (r' := (.ret, zQh p0 p1 v11)) (zDd (zhl k p0 p1) k _ _ h9) rfl) ob0))) (by kernel_rfl))
    ·subst hh
     exact zy (g := zzg) g7_0 (y2 _ _ [] [(30, 0, (.nor, zGh p0 p1 v11))] (ob (zFb (x := 1) h7) (ob (zq zk p0.Slips.1) (ob (zx (id := 0) (r' := (.nor, zGh p0 p1 v11)) (zDd (zhl k p0 p1) k _ _ h9) rfl) ob0))) (by kernel_rfl))
noncomputable def zJy (s1_0 : Int) (p1 : (SL Int)) (s1_5 : Int) : TM := [(0, (xi s1_0)), (1, (.d (dl eI p1.1 p1.2))), (4, (xi 0)), (7, (.d (dl eI p1.1 p1.2))), (8, (xi (p1.1.length : Int))), (9, (xi s1_5))]
noncomputable def z5l (p1 : (SL Int)) (s1_0 s1_5 : Int) : St := ⟨(zJy s1_0 p1 s1_5), ⟨[], []⟩, []⟩
noncomputable def z4x (r : (Int × Int)) (p1 : (SL Int)) : TM := [(0, (xi r.1)), (1, (.d (dl eI p1.1 p1.2))), (4, (xi 0)), (7, (.d (dl eI p1.1 p1.2))), (8, (xi (p1.1.length : Int))), (9, (xi r.2)), (10, (xb false))]
noncomputable def z4d (p1 : (SL Int)) (r : (Int × Int)) : St := ⟨(z4x r p1), ⟨[], []⟩, []⟩
noncomputable def zzl (p1 : (SL Int)) : (Int × Int) → Ex × St := fun r => ((.exit 0), z4d p1 r)
theorem z7k (k : Nat) (p1 : (SL Int)) (s1_0 s1_5 : Int) (x : (Int × Int) ⊕ (Int × Int)) (h : z9e k p1 s1_0 s1_5 = some x) : zD TE 81 (blk TE 81 0) (fun s : (Int × Int) => z5l p1 s.1 s.2) (zzl p1) (s1_0, s1_5) x := by
 unfold z9e at h
 refine zm h (fun h201 g1 => ?_) (fun h201 g1 => ?_)
 ·refine zi g1 (fun v202 h203 g2 => ?_)
  exact zqn ((if v202 > s1_0 then v202 else s1_0), (w64 (s1_5 + 1))) [] [(81, 2, 0, .q (xb true)), (81, 3, 0, .q (.d (.pin [(di v202)])))] [] g2 (ob (o_b h201) (ob (o_ia (e := eI) 1 h203 rfl) ob0)) (by kernel_rfl)
 ·exact zqo [(81, 2, 0, .q (xb false))] [] g1 (ob (o_b h201) ob0) (by kernel_rfl)
theorem zCh (k : Nat) (p0 : Int) (p1 : (SL Int)) (r : Int) (h : zKe k p0 p1 = some r) : zA TE (ev TE) 81 [(di p0), (dl eI p1.1 p1.2)] = some (zdi r) := by
 unfold zKe at h
 refine zi h (fun v1 h2 g1 => ?_)
 exact zy (g := zdi) g1 (zqc [(81, 1, 1, .q (xi (p1.1.length : Int)))] [(81, 0, (.nor, z4d p1 v1))] (ob (zq eI p1.1) (ob (zx (id := 0) (r' := (.nor, z4d p1 v1)) (zIb (z7k k p1) k _ _ h2) rfl) ob0)) (by kernel_rfl))
noncomputable def zmw (p0 : zb) (p1 : Int) (v7 : zt12) (v11 : Int) (v13 : zj) : TM := [(0, (.d (.agg (za p0)))), (1, (xi p1)), (zsp 2), (zsp 3), (4, (xi 0)), (5, (xi 0)), (zsp 6), (7, (xi 0)), (24, (xb false)), (9, (xi v7.2.1)), (10, (xb v7.2.2)), (33, (xb false)), (zsp 11), (12, (xi v11)), (13, (xi v13.Until))]
noncomputable def zsl (p0 : zb) (p1 : Int) (v7 : zt12) (v11 : Int) (v13 : zj) : St := ⟨(zmw p0 p1 v7 v11 v13), ⟨[(zc 2 (za p0)), (3, (.cells [(xi p1)])), (6, (.cells [(.d (dl eI p0.Far.1 p0.Far.2)), (xi p0.Step.Low), (xi p0.Step.High), (.d (dl zr p0.Pick.1 p0.Pick.2)), (xi p0.Carry), (.row 0 57 0)])), (11, (.cells [(xi (w64 ((zn 1 (p0.Slips.1.length : Int)) - 1))), (xi v7.2.1)])), (57, .nrow)], []⟩, []⟩
noncomputable def zOg (p0 : zb) (p1 : Int) (v7 : zt12) (v11 : Int) (v13 : zj) (r : Unit) : St := ⟨(zmw p0 p1 v7 v11 v13 ++ [(62, (xb false))]), ⟨[(zc 2 (za p0)), (3, (.cells [(xi p1)])), (6, (.cells [(.d (dl eI p0.Far.1 p0.Far.2)), (xi p0.Step.Low), (xi p0.Step.High), (.d (dl zr p0.Pick.1 p0.Pick.2)), (xi p0.Carry), (.row 0 57 0)])), (11, (.cells [(xi (w64 ((zn 1 (p0.Slips.1.length : Int)) - 1))), (xi v7.2.1)])), (57, .nrow)], []⟩, []⟩
noncomputable def zdl (p0 : zb) (p1 : Int) (v7 : zt12) (v11 : Int) (v13 : zj) : Unit → Ex × St := fun r => ((.exit 0), zOg p0 p1 v7 v11 v13 r)
theorem zzo (k : Nat) (p0 : zb) (p1 : Int) (v7 : zt12) (v11 : Int) (v13 : zj) (x : Unit ⊕ Unit) (h : zFg k p0 p1 v7 v11 v13 = some x) : zD TE 33 (blk TE 33 0) (fun s : Unit => zsl p0 p1 v7 v11 v13) (zdl p0 p1 v7 v11 v13) () x := by
 unfold zFg at h
 refine zm h (fun h201 g1 => ?_) (fun h201 g1 => ?_)
 ·cases g1
 ·exact zqo [(33, 10, 2, .q (xb false))] [] g1 (ob (o_b h201) ob0) (by kernel_rfl)
theorem zKo (k : Nat) (p0 : zb) (p1 : Int) (v7 : zt12) (v11 : Int) (v13 : zj) : ∀ (s : Unit) (x : Unit ⊕ Unit), (fun s => zFg k p0 p1 v7 v11 v13) s = some x → zD TE 33 (blk TE 33 0) (fun s : Unit => zsl p0 p1 v7 v11 v13) (zdl p0 p1 v7 v11 v13) s x := fun s x h => zzo k p0 p1 v7 v11 v13 x h
noncomputable def zPx (p0 : zb) (p1 : Int) (v7 : zt12) (r : (Int × Int × Bool)) (s2_14 s2_15 : Int) (v404 : ((SL (SL Int)) × Bool)) : TM := [(0, (.d (.agg (za p0)))), (1, (xi p1)), (zsp 2), (zsp 3), (4, (xi 0)), (5, (xi 0)), (zsp 6), (7, (xi 0)), (24, (xb false)), (9, (xi v7.2.1)), (10, (xb v7.2.2)), (33, (xb false)), (zsp 11), (12, (xi r.1)), (13, (xi r.2.1)), (62, (xb true)), (14, (xi (w64 ((w64 (s2_14 + s2_15)).tdiv 2)))), (16, (xb v404.2)), (80, (xb r.2.2))]
noncomputable def zRf (p0 : zb) (p1 : Int) (v7 : zt12) (s2_14 s2_15 : Int) (s2_30 : (List zj)) (v402 : zj) (v404 : ((SL (SL Int)) × Bool)) (cb : Bool) (r : (Int × Int × Bool)) : St := ⟨(zPx p0 p1 v7 r s2_14 s2_15 v404), ⟨[(zc 2 (za p0)), (3, (.cells [(xi p1)])), (6, (.cells [(.d (dl eI p0.Far.1 p0.Far.2)), (xi p0.Step.Low), (xi p0.Step.High), (.d (dl zr p0.Pick.1 p0.Pick.2)), (xi p0.Carry), (.row 0 57 (s2_30.set p1.toNat (⟨v402.Lines, (w64 ((w64 (s2_14 + s2_15)).tdiv 2))⟩ : zj)).length)])), (11, (.cells [(xi (w64 ((zn 1 (p0.Slips.1.length : Int)) - 1))), (xi v7.2.1)])), (57, (rowO false 2 zk (s2_30.set p1.toNat (⟨v402.Lines, (w64 ((w64 (s2_14 + s2_15)).tdiv 2))⟩ : zj)) true))], []⟩, []⟩
noncomputable def zRx (p0 : zb) (p1 : Int) (v7 : zt12) (s2_14 s2_15 : Int) (v404 : ((SL (SL Int)) × Bool)) (cb : Bool) : TM := [(0, (.d (.agg (za p0)))), (1, (xi p1)), (zsp 2), (zsp 3), (4, (xi 0)), (5, (xi 0)), (zsp 6), (7, (xi 0)), (24, (xb false)), (9, (xi v7.2.1)), (10, (xb v7.2.2)), (33, (xb false)), (zsp 11), (12, (xi s2_14)), (13, (xi s2_15)), (62, (xb true)), (14, (xi (w64 ((w64 (s2_14 + s2_15)).tdiv 2)))), (16, (xb v404.2)), (80, (xb cb))]
theorem zEo (k : Nat) (p0 : zb) (p1 : Int) (v7 : zt12) (s2_14 s2_15 : Int) (s2_30 : (List zj)) (v402 : zj) (v404 : ((SL (SL Int)) × Bool)) (cb : Bool) (r : (Int × Int × Bool)) (h : zWi k p0 p1 v7 s2_14 s2_15 s2_30 v402 v404 cb = some r) : ev TE 33 (cnd TE 33 80) ⟨(zRx p0 p1 v7 s2_14 s2_15 v404 cb), ⟨[(zc 2 (za p0)), (3, (.cells [(xi p1)])), (6, (.cells [(.d (dl eI p0.Far.1 p0.Far.2)), (xi p0.Step.Low), (xi p0.Step.High), (.d (dl zr p0.Pick.1 p0.Pick.2)), (xi p0.Carry), (.row 0 57 (s2_30.set p1.toNat (⟨v402.Lines, (w64 ((w64 (s2_14 + s2_15)).tdiv 2))⟩ : zj)).length)])), (11, (.cells [(xi (w64 ((zn 1 (p0.Slips.1.length : Int)) - 1))), (xi v7.2.1)])), (57, (rowO false 2 zk (s2_30.set p1.toNat (⟨v402.Lines, (w64 ((w64 (s2_14 + s2_15)).tdiv 2))⟩ : zj)) true))], []⟩, []⟩ = some (.nor, zRf p0 p1 v7 s2_14 s2_15 s2_30 v402 v404 cb r) := by
 unfold zWi at h
 refine zm h (fun h501 g1 => ?_) (fun h501 g1 => ?_)
 ·subst h501
  exact zw (g := fun r => (Ex.nor, zRf p0 p1 v7 s2_14 s2_15 s2_30 v402 v404 true r)) g1 (zqe [] [] ob0 (by kernel_rfl))
 ·subst h501
  exact zw (g := fun r => (Ex.nor, zRf p0 p1 v7 s2_14 s2_15 s2_30 v402 v404 false r)) g1 (zqe [] [] ob0 (by kernel_rfl))
noncomputable def zMy (p0 : zb) (p1 : Int) (v7 : zt12) (s2_14 s2_15 : Int) : TM := [(0, (.d (.agg (za p0)))), (1, (xi p1)), (zsp 2), (zsp 3), (4, (xi 0)), (5, (xi 0)), (zsp 6), (7, (xi 0)), (24, (xb false)), (9, (xi v7.2.1)), (10, (xb v7.2.2)), (33, (xb false)), (zsp 11), (12, (xi s2_14)), (13, (xi s2_15))]
noncomputable def z6o (p0 : zb) (p1 : Int) (v7 : zt12) (s2_14 s2_15 : Int) (s2_30 : (List zj)) : St := ⟨(zMy p0 p1 v7 s2_14 s2_15), ⟨[(zc 2 (za p0)), (3, (.cells [(xi p1)])), (6, (.cells [(.d (dl eI p0.Far.1 p0.Far.2)), (xi p0.Step.Low), (xi p0.Step.High), (.d (dl zr p0.Pick.1 p0.Pick.2)), (xi p0.Carry), (.row 0 57 s2_30.length)])), (11, (.cells [(xi (w64 ((zn 1 (p0.Slips.1.length : Int)) - 1))), (xi v7.2.1)])), (57, (rowO false 2 zk s2_30 true))], []⟩, []⟩
noncomputable def z7x (p0 : zb) (p1 : Int) (v7 : zt12) (r : (Int × Int × (List zj))) : TM := [(0, (.d (.agg (za p0)))), (1, (xi p1)), (zsp 2), (zsp 3), (4, (xi 0)), (5, (xi 0)), (zsp 6), (7, (xi 0)), (24, (xb false)), (9, (xi v7.2.1)), (10, (xb v7.2.2)), (33, (xb false)), (zsp 11), (12, (xi r.1)), (13, (xi r.2.1)), (62, (xb false))]
noncomputable def zbh (p0 : zb) (p1 : Int) (v7 : zt12) (r : (Int × Int × (List zj))) : St := ⟨(z7x p0 p1 v7 r), ⟨[(zc 2 (za p0)), (3, (.cells [(xi p1)])), (6, (.cells [(.d (dl eI p0.Far.1 p0.Far.2)), (xi p0.Step.Low), (xi p0.Step.High), (.d (dl zr p0.Pick.1 p0.Pick.2)), (xi p0.Carry), (.row 0 57 r.2.2.length)])), (11, (.cells [(xi (w64 ((zn 1 (p0.Slips.1.length : Int)) - 1))), (xi v7.2.1)])), (57, (rowO false 2 zk r.2.2 true))], []⟩, []⟩
noncomputable def zKp (p0 : zb) (p1 : Int) (v7 : zt12) : (Int × Int × (List zj)) → Ex × St := fun r => ((.exit 0), zbh p0 p1 v7 r)
theorem zeo (k : Nat) (p0 : zb) (p1 : Int) (v7 : zt12) (s2_14 s2_15 : Int) (s2_30 : (List zj)) (x : (Int × Int × (List zj)) ⊕ (Int × Int × (List zj))) (h : zZi k p0 p1 v7 s2_14 s2_15 s2_30 = some x) : zD TE 33 (blk TE 33 0) (fun s : (Int × Int × (List zj)) => z6o p0 p1 v7 s.1 s.2.1 s.2.2) (zKp p0 p1 v7) (s2_14, s2_15, s2_30) x := by
 unfold zZi at h
 refine zm h (fun h401 g1 => ?_) (fun h401 g1 => ?_)
 ·refine zi g1 (fun v402 h403 g2 => ?_)
  refine zi g2 (fun v404 h405 g3 => ?_)
  refine zi g3 (fun v406 h407 g4 => ?_)
  exact zqn (v406.1, v406.2.1, (s2_30.set p1.toNat (⟨v402.Lines, (w64 ((w64 (s2_14 + s2_15)).tdiv 2))⟩ : zj))) [57] [(33, 10, 2, .q (xb true)), (33, 12, 5, .q (.rp 0 57 s2_30.length p1.toNat 0)), (33, 12, 6, .q (.rp 0 57 s2_30.length p1.toNat 1)), (33, 12, 7, .rs (rowO false 2 zk (s2_30.set p1.toNat (⟨v402.Lines, (w64 ((w64 (s2_14 + s2_15)).tdiv 2))⟩ : zj)) true)), (33, 12, 999, .nm [] [(6, 5, (s2_30.set p1.toNat (⟨v402.Lines, (w64 ((w64 (s2_14 + s2_15)).tdiv 2))⟩ : zj)).length)]), (33, 13, 2, .cr [((dl zk (s2_30.set p1.toNat (⟨v402.Lines, (w64 ((w64 (s2_14 + s2_15)).tdiv 2))⟩ : zj)) (rcap false (s2_30.set p1.toNat (⟨v402.Lines, (w64 ((w64 (s2_14 + s2_15)).tdiv 2))⟩ : zj)))), (rowO false 2 zk (s2_30.set p1.toNat (⟨v402.Lines, (w64 ((w64 (s2_14 + s2_15)).tdiv 2))⟩ : zj)) false))] (.tup [(dl (eL eI) v404.1.1 v404.1.2), (db v404.2)]))] [(33, 2000080, (.nor, zRf p0 p1 v7 s2_14 s2_15 s2_30 v402 v404 v404.2 v406))] g4 (ob (o_b h401) (ob (zqa 26 32 0 57 p1 false 2 zk s2_30 true (by kernel_rfl) (by kernel_rfl) h403) (ob (zqf 52 (1, 1, false) 0 57 0 1 p1 false 2 zk s2_30 true (by kernel_rfl) (by decide) h403) (ob (o_rs (b := false) (z := 2) (e := zk) (l := s2_30) (o := 1) (n := 1) (ds := [(di (w64 ((w64 (s2_14 + s2_15)).tdiv 2)))]) (i := p1) (y' := (⟨v402.Lines, (w64 ((w64 (s2_14 + s2_15)).tdiv 2))⟩ : zj)) h403 (Nat.le_of_ble_eq_true rfl) rfl) (ob (show s2_30.length = (s2_30.set p1.toNat (⟨v402.Lines, (w64 ((w64 (s2_14 + s2_15)).tdiv 2))⟩ : zj)).length by simp) (ob (o_cr false 2 zk (s2_30.set p1.toNat (⟨v402.Lines, (w64 ((w64 (s2_14 + s2_15)).tdiv 2))⟩ : zj)) true 0 57) (ob (zO k (⟨(⟨p0.Far, p0.Step, p0.Pick, p0.Carry, ((s2_30.set p1.toNat (⟨v402.Lines, (w64 ((w64 (s2_14 + s2_15)).tdiv 2))⟩ : zj)), (rcap false (s2_30.set p1.toNat (⟨v402.Lines, (w64 ((w64 (s2_14 + s2_15)).tdiv 2))⟩ : zj))))⟩ : zb)⟩ : zd) (⟨(w64 ((zn 1 (p0.Slips.1.length : Int)) - 1)), v7.2.1⟩ : zp) _ h405) (ob (zEo k p0 p1 v7 s2_14 s2_15 s2_30 v402 v404 v404.2 _ h407) (ob (zMj false 2 zk (s2_30.set p1.toNat (⟨v402.Lines, (w64 ((w64 (s2_14 + s2_15)).tdiv 2))⟩ : zj)) true) ob0))))))))) (by kernel_rfl)
 ·exact zqo [(33, 10, 2, .q (xb false))] [] g1 (ob (o_b h401) ob0) (by kernel_rfl)
theorem zkr (k : Nat) (p0 : zb) (p1 : Int) (r : (Int × Int)) (h : zxm k p0 p1 = some r) : zA TE (ev TE) 33 [(.agg (za p0)), (di p1)] = some (zNe r) := by
 unfold zxm at h
 refine zi h (fun v1 h2 g1 => ?_)
 refine zm g1 (fun h3 g2 => ?_) (fun h3 g2 => ?_)
 ·exact zy (g := zNe) g2 (zqc [(52, 1, 1, .c (di v1)), (52, 2, 1, .q (xb true)), (33, 2, 1, .q (xb true))] [] (ob (zK k p0 _ h2) (ob (o_b h3) (ob (o_b h3) ob0))) (by kernel_rfl))
 ·refine zi g2 (fun v4 h5 g3 => ?_)
  have y1 := fun (d : D) (P : List Prop) (V : Ovs) (C : Cuts) (q : All P) h => (zqc ([(52, 1, 1, .c (di v1)), (52, 2, 1, .q (xb false)), (79, 1, 2, .c (db v4))] ++ V) C (ob (zK k p0 _ h2) (ob (o_b h3) (ob (z6 k (⟨p0⟩ : zd) p1 _ h5) q))) h : zA TE (ev TE) 33 [(.agg (za p0)), (di p1)] = some d)
  refine zm g3 (fun h6 g4 => ?_) (fun h6 g4 => ?_)
  ·exact zy (g := zNe) g4 (y1 _ _ [(52, 4, 4, .q (xb true))] [] (ob (o_b h6) ob0) (by kernel_rfl))
  ·refine zi g4 (fun v7 h8 g5 => ?_)
   have y2 := fun (d : _) (P : List Prop) (V : Ovs) (C : Cuts) (q : All P) h => y1 d _ ([(52, 4, 4, .q (xb false)), (33, 4, 1, .c (.tup [(dl (eL eI) v7.1.1 v7.1.2), (di v7.2.1), (db v7.2.2)]))] ++ V) C (ob (o_b h6) (ob (znf k (⟨p0⟩ : zd) _ h8) q)) h
   refine zm g5 (fun h9 g6 => ?_) (fun h9 g6 => ?_)
   ·exact zy (g := zNe) g6 (y2 _ _ [(33, 5, 1, .q (xb true))] [] (ob (o_b h9) ob0) (by kernel_rfl))
   ·refine zm g6 (fun h10 g7 => ?_) (fun h10 g7 => ?_)
    ·cases g7
    ·refine zi g7 (fun v11 h12 g8 => ?_)
     refine zi g8 (fun v13 h14 g9 => ?_)
     have y3 := fun (d : _) (P : List Prop) (V : Ovs) (C : Cuts) (q : All P) h => y2 d _ ([(33, 5, 1, .q (xb false)), (33, 7, 3, .q (xi (p0.Slips.1.length : Int))), (33, 7, 4, .q (xi (zn 1 (p0.Slips.1.length : Int)))), (33, 8, 4, .c (di v11)), (33, 8, 9, .q (.d (.pin [(dl zh v13.Lines.1 v13.Lines.2), (di v13.Until)])))] ++ V) C (ob (o_b h9) (ob (zq zk p0.Slips.1) (ob (zFb (x := 1) h10) (ob (zue k (⟨p0⟩ : zd) p1 _ h12) (ob (o_ia (e := zk) 2 h14 rfl) q))))) h
     refine zm g9 (fun h15 g10 => ?_) (fun h15 g10 => ?_)
     ·refine zi g10 (fun v16 h17 g11 => ?_)
      refine zi g11 (fun v18 h19 g12 => ?_)
      exact zy (g := zNe) g12 (y3 _ _ [(80, 1, 1, .q (xb true)), (33, 17, 2, .c (di v18))] [(33, 0, (.nor, zOg p0 p1 v7 v11 v13 v16))] (ob (o_b h15) (ob (zx (id := 0) (r' := (.nor, zOg p0 p1 v7 v11 v13 v16)) (zjg (zKo k p0 p1 v7 v11 v13) k _ _ h17) rfl) (ob (zCh k v11 ([0], .ex) _ h19) ob0))) (by kernel_rfl))
     ·refine zW g10 (fun h16 g11 => ?_)
      refine zi g11 (fun v17 h18 g12 => ?_)
      refine zi g12 (fun v19 h20 g13 => ?_)
      exact zy (g := zNe) g13 (y3 _ _ [(80, 1, 1, .q (xb false)), (80, 3, 2, .ns (p0.Slips.1.map zk) p0.Slips.1.length), (33, 17, 2, .c (di v19))] [(33, 0, (.nor, zbh p0 p1 v7 v17))] (ob (o_b h15) (ob (zUx p0.Slips.1 zk) (ob (o_ns (P := TE.P) (φ := fun _ _ => none) (T := 26) (q := (2, [(.sl [] .nil), (di 0)])) (c := p0.Slips.2) (e := zk) p0.Slips.1 (by kernel_rfl) (fun _ => rfl) h16) (ob (rfl : (([] : List (List D)).isEmpty || !(p0.Slips.1.map zk).isEmpty) = true) (ob (o_rh false 2 zk p0.Slips.1) (ob (zx (id := 0) (r' := (.nor, zbh p0 p1 v7 v17)) (zMl (zeo k p0 p1 v7) k _ _ h18) rfl) (ob (zCh k v17.1 ([0], .ex) _ h20) ob0))))))) (by kernel_rfl))
noncomputable def zXy (p0 p1 : (SL zo)) (s1_3 : Bool) (s1_4 : Int) (r : Bool) : TM := [(0, (.d (dl zr p0.1 p0.2))), (1, (.d (dl zr p1.1 p1.2))), (4, (xb false)), (5, (xb s1_3)), (6, (xi s1_4)), (18, (xb r))]
noncomputable def zxb (p0 p1 : (SL zo)) (s1_3 : Bool) (s1_4 : Int) (r : Bool) : St := ⟨(zXy p0 p1 s1_3 s1_4 r), ⟨[], []⟩, []⟩
noncomputable def zyw (p0 p1 : (SL zo)) (s1_3 : Bool) (s1_4 : Int) : TM := [(0, (.d (dl zr p0.1 p0.2))), (1, (.d (dl zr p1.1 p1.2))), (4, (xb false)), (5, (xb s1_3)), (6, (xi s1_4))]
theorem zoe (k : Nat) (p0 p1 : (SL zo)) (s1_3 : Bool) (s1_4 : Int) (r : Bool) (h : zod k p0 p1 s1_3 s1_4 = some r) : ev TE 27 (rgn TE 27 3) ⟨(zyw p0 p1 s1_3 s1_4), ⟨[], []⟩, []⟩ = some (.nor, zxb p0 p1 s1_3 s1_4 r) := by
 unfold zod at h
 refine zm h (fun h401 g1 => ?_) (fun h401 g1 => ?_)
 ·exact zw (g := fun r => (Ex.nor, zxb p0 p1 s1_3 s1_4 r)) g1 (zqe [(27, 3, 1, .q (xb true)), (27, 3, 4, .q (xi (p0.1.length : Int)))] [] (ob (o_b h401) (ob (zq zr p0.1) ob0)) (by kernel_rfl))
 ·exact zw (g := fun r => (Ex.nor, zxb p0 p1 s1_3 s1_4 r)) g1 (zqe [(27, 3, 1, .q (xb false))] [] (ob (o_b h401) ob0) (by kernel_rfl))
noncomputable def z7h (p0 p1 : (SL zo)) (s1_3 : Bool) (s1_4 : Int) : St := ⟨(zyw p0 p1 s1_3 s1_4), ⟨[], []⟩, []⟩
noncomputable def z2y (p0 p1 : (SL zo)) (r : zt3) : TM := [(0, (.d (dl zr p0.1 p0.2))), (1, (.d (dl zr p1.1 p1.2))), (4, (xb false)), (5, (xb r.1)), (6, (xi r.2)), (18, (xb false))]
noncomputable def zFc (p0 p1 : (SL zo)) (r : zt3) : St := ⟨(z2y p0 p1 r), ⟨[], []⟩, []⟩
noncomputable def z8h (p0 p1 : (SL zo)) : (Bool × Int) → Ex × St := fun r => ((.exit 0), zFc p0 p1 r)
theorem zSh (k : Nat) (p0 p1 : (SL zo)) (s1_3 : Bool) (s1_4 : Int) (x : (Bool × Int) ⊕ (Bool × Int)) (h : zjd k p0 p1 s1_3 s1_4 = some x) : zD TE 27 (blk TE 27 0) (fun s : (Bool × Int) => z7h p0 p1 s.1 s.2) (z8h p0 p1) (s1_3, s1_4) x := by
 unfold zjd at h
 refine zi h (fun v301 h302 g1 => ?_)
 refine zm g1 (fun h303 g2 => ?_) (fun h303 g2 => ?_)
 ·subst h303
  refine zi g2 (fun v304 h305 g3 => ?_)
  refine zi g3 (fun v306 h307 g4 => ?_)
  exact zqn (((v304.Low == v306.Low) && ((v304.High == v306.High) && true)), (w64 (s1_4 + 1))) [] [(27, 5, 2, .q (.d (.pin [(di v304.Low), (di v304.High)]))), (27, 5, 6, .q (.d (.pin [(di v306.Low), (di v306.High)])))] [(27, 1000003, (.nor, zxb p0 p1 s1_3 s1_4 true))] g4 (ob (zoe k p0 p1 s1_3 s1_4 _ h302) (ob (o_ia (e := zr) 2 h305 rfl) (ob (o_ia (e := zr) 2 h307 rfl) ob0))) (by kernel_rfl)
 ·subst h303
  exact zqo [] [(27, 1000003, (.nor, zxb p0 p1 s1_3 s1_4 false))] g2 (ob (zoe k p0 p1 s1_3 s1_4 _ h302) ob0) (by kernel_rfl)
theorem zEi (k : Nat) (p0 p1 : (SL zo)) (r : Bool) (h : zUd k p0 p1 = some r) : zA TE (ev TE) 27 [(dl zr p0.1 p0.2), (dl zr p1.1 p1.2)] = some (zAf r) := by
 unfold zUd at h
 refine zi h (fun v1 h2 g1 => ?_)
 exact zy (g := zAf) g1 (zqc [(27, 1, 1, .q (xi (p0.1.length : Int))), (27, 1, 3, .q (xi (p1.1.length : Int)))] [(27, 0, (.nor, zFc p0 p1 v1))] (ob (zq zr p0.1) (ob (zq zr p1.1) (ob (zx (id := 0) (r' := (.nor, zFc p0 p1 v1)) (zIb (zSh k p0 p1) k _ _ h2) rfl) ob0))) (by kernel_rfl))
noncomputable def z0x (p0 p1 : (SL Int)) (s1_3 : Bool) (s1_4 : Int) (r : Bool) : TM := [(0, (.d (dl eI p0.1 p0.2))), (1, (.d (dl eI p1.1 p1.2))), (4, (xb false)), (5, (xb s1_3)), (6, (xi s1_4)), (18, (xb r))]
noncomputable def zZb (p0 p1 : (SL Int)) (s1_3 : Bool) (s1_4 : Int) (r : Bool) : St := ⟨(z0x p0 p1 s1_3 s1_4 r), ⟨[], []⟩, []⟩
noncomputable def zjw (p0 p1 : (SL Int)) (s1_3 : Bool) (s1_4 : Int) : TM := [(0, (.d (dl eI p0.1 p0.2))), (1, (.d (dl eI p1.1 p1.2))), (4, (xb false)), (5, (xb s1_3)), (6, (xi s1_4))]
theorem zWf (k : Nat) (p0 p1 : (SL Int)) (s1_3 : Bool) (s1_4 : Int) (r : Bool) (h : zAe k p0 p1 s1_3 s1_4 = some r) : ev TE 32 (rgn TE 32 3) ⟨(zjw p0 p1 s1_3 s1_4), ⟨[], []⟩, []⟩ = some (.nor, zZb p0 p1 s1_3 s1_4 r) := by
 unfold zAe at h
 refine zm h (fun h401 g1 => ?_) (fun h401 g1 => ?_)
 ·exact zw (g := fun r => (Ex.nor, zZb p0 p1 s1_3 s1_4 r)) g1 (zqe [(32, 3, 1, .q (xb true)), (32, 3, 4, .q (xi (p0.1.length : Int)))] [] (ob (o_b h401) (ob (zq eI p0.1) ob0)) (by kernel_rfl))
 ·exact zw (g := fun r => (Ex.nor, zZb p0 p1 s1_3 s1_4 r)) g1 (zqe [(32, 3, 1, .q (xb false))] [] (ob (o_b h401) ob0) (by kernel_rfl))
noncomputable def zXj (p0 p1 : (SL Int)) (s1_3 : Bool) (s1_4 : Int) : St := ⟨(zjw p0 p1 s1_3 s1_4), ⟨[], []⟩, []⟩
noncomputable def z3x (p0 p1 : (SL Int)) (r : zt3) : TM := [(0, (.d (dl eI p0.1 p0.2))), (1, (.d (dl eI p1.1 p1.2))), (4, (xb false)), (5, (xb r.1)), (6, (xi r.2)), (18, (xb false))]
noncomputable def zxd (p0 p1 : (SL Int)) (r : zt3) : St := ⟨(z3x p0 p1 r), ⟨[], []⟩, []⟩
noncomputable def zdk (p0 p1 : (SL Int)) : (Bool × Int) → Ex × St := fun r => ((.exit 0), zxd p0 p1 r)
theorem zJj (k : Nat) (p0 p1 : (SL Int)) (s1_3 : Bool) (s1_4 : Int) (x : (Bool × Int) ⊕ (Bool × Int)) (h : zBe k p0 p1 s1_3 s1_4 = some x) : zD TE 32 (blk TE 32 0) (fun s : (Bool × Int) => zXj p0 p1 s.1 s.2) (zdk p0 p1) (s1_3, s1_4) x := by
 unfold zBe at h
 refine zi h (fun v301 h302 g1 => ?_)
 refine zm g1 (fun h303 g2 => ?_) (fun h303 g2 => ?_)
 ·subst h303
  refine zi g2 (fun v304 h305 g3 => ?_)
  refine zi g3 (fun v306 h307 g4 => ?_)
  exact zqn ((v304 == v306), (w64 (s1_4 + 1))) [] [(32, 5, 2, .q (.d (.pin [(di v304)]))), (32, 5, 6, .q (.d (.pin [(di v306)])))] [(32, 1000003, (.nor, zZb p0 p1 s1_3 s1_4 true))] g4 (ob (zWf k p0 p1 s1_3 s1_4 _ h302) (ob (o_ia (e := eI) 1 h305 rfl) (ob (o_ia (e := eI) 1 h307 rfl) ob0))) (by kernel_rfl)
 ·subst h303
  exact zqo [] [(32, 1000003, (.nor, zZb p0 p1 s1_3 s1_4 false))] g2 (ob (zWf k p0 p1 s1_3 s1_4 _ h302) ob0) (by kernel_rfl)
theorem zAg (k : Nat) (p0 p1 : (SL Int)) (r : Bool) (h : zKf k p0 p1 = some r) : zA TE (ev TE) 32 [(dl eI p0.1 p0.2), (dl eI p1.1 p1.2)] = some (zeh r) := by
 unfold zKf at h
 refine zi h (fun v1 h2 g1 => ?_)
 exact zy (g := zeh) g1 (zqc [(32, 1, 1, .q (xi (p0.1.length : Int))), (32, 1, 3, .q (xi (p1.1.length : Int)))] [(32, 0, (.nor, zxd p0 p1 v1))] (ob (zq eI p0.1) (ob (zq eI p1.1) (ob (zx (id := 0) (r' := (.nor, zxd p0 p1 v1)) (zIb (zJj k p0 p1) k _ _ h2) rfl) ob0))) (by kernel_rfl))
noncomputable def zKy (v3 : (Int × Int)) (v7 : (zo × Int)) (v11 : ((SL (SL zl)) × Int)) (v21 : zt3) (r : Bool) : TM := [(0, (xb false)), (1, (xi v3.1)), (2, (xi v3.2)), (zsp 3), (4, (xi v7.2)), (5, (.d (dl (eL zh) v11.1.1 v11.1.2))), (6, (xi v11.2)), (7, (xb v21.1)), (8, (xi v21.2)), (86, (xb r))]
noncomputable def zB (v3 : (Int × Int)) (v7 : (zo × Int)) (v11 : ((SL (SL zl)) × Int)) (v21 : zt3) (r : Bool) : St := ⟨(zKy v3 v7 v11 v21 r), ⟨[(3, (.cells [(xi v7.1.Low), (xi v7.1.High)]))], []⟩, []⟩
noncomputable def zlw (v3 : (Int × Int)) (v7 : (zo × Int)) (v11 : ((SL (SL zl)) × Int)) (v21 : zt3) : TM := [(0, (xb false)), (1, (xi v3.1)), (2, (xi v3.2)), (zsp 3), (4, (xi v7.2)), (5, (.d (dl (eL zh) v11.1.1 v11.1.2))), (6, (xi v11.2)), (7, (xb v21.1)), (8, (xi v21.2))]
theorem zuj (k : Nat) (v3 : (Int × Int)) (v7 : (zo × Int)) (v11 : ((SL (SL zl)) × Int)) (v21 : zt3) (r : Bool) (h : zJe k v3 v7 v11 v21 = some r) : ev TE 23 (rgn TE 23 5) ⟨(zlw v3 v7 v11 v21), ⟨[(3, (.cells [(xi v7.1.Low), (xi v7.1.High)]))], []⟩, []⟩ = some (.nor, zB v3 v7 v11 v21 r) := by
 unfold zJe at h
 refine zm h (fun h201 g1 => ?_) (fun h201 g1 => ?_)
 ·exact zw (g := fun r => (Ex.nor, zB v3 v7 v11 v21 r)) g1 (zqe [(23, 5, 2, .q (xb true))] [] (ob (o_b h201) ob0) (by kernel_rfl))
 ·have y1 := fun (d : Ex × St) (P : List Prop) (V : Ovs) (C : Cuts) (q : All P) h => (zqe ([(23, 5, 2, .q (xb false))] ++ V) C (ob (o_b h201) q) h : ev TE 23 (rgn TE 23 5) ⟨(zlw v3 v7 v11 v21), ⟨[(3, (.cells [(xi v7.1.Low), (xi v7.1.High)]))], []⟩, []⟩ = some d)
  refine zm g1 (fun h202 g2 => ?_) (fun h202 g2 => ?_)
  ·exact zw (g := fun r => (Ex.nor, zB v3 v7 v11 v21 r)) g2 (y1 _ _ [(23, 5, 6, .q (xb true))] [] (ob (o_b h202) ob0) (by kernel_rfl))
  ·have y2 := fun (d : _) (P : List Prop) (V : Ovs) (C : Cuts) (q : All P) h => y1 d _ ([(23, 5, 6, .q (xb false))] ++ V) C (ob (o_b h202) q) h
   refine zm g2 (fun h203 g3 => ?_) (fun h203 g3 => ?_)
   ·exact zw (g := fun r => (Ex.nor, zB v3 v7 v11 v21 r)) g3 (y2 _ _ [(23, 5, 10, .q (xb true))] [] (ob (o_b h203) ob0) (by kernel_rfl))
   ·have y3 := fun (d : _) (P : List Prop) (V : Ovs) (C : Cuts) (q : All P) h => y2 d _ ([(23, 5, 10, .q (xb false))] ++ V) C (ob (o_b h203) q) h
    refine zm g3 (fun h204 g4 => ?_) (fun h204 g4 => ?_)
    ·exact zw (g := fun r => (Ex.nor, zB v3 v7 v11 v21 r)) g4 (y3 _ _ [(23, 5, 14, .q (xb true))] [] (ob (o_b h204) ob0) (by kernel_rfl))
    ·have y4 := fun (d : _) (P : List Prop) (V : Ovs) (C : Cuts) (q : All P) h => y3 d _ ([(23, 5, 14, .q (xb false))] ++ V) C (ob (o_b h204) q) h
     refine zm g4 (fun h205 g5 => ?_) (fun h205 g5 => ?_)
     ·exact zw (g := fun r => (Ex.nor, zB v3 v7 v11 v21 r)) g5 (y4 _ _ [(23, 5, 18, .q (xb true))] [] (ob (o_b h205) ob0) (by kernel_rfl))
     ·refine zi g5 (fun v206 h207 g6 => ?_)
      have y5 := fun (d : _) (P : List Prop) (V : Ovs) (C : Cuts) (q : All P) h => y4 d _ ([(23, 5, 18, .q (xb false)), (23, 5, 20, .c (.agg [(di v206.Low), (di v206.High)]))] ++ V) C (ob (o_b h205) (ob (zlb k 140 252 _ h207) q)) h
      refine zm g6 (fun h208 g7 => ?_) (fun h208 g7 => ?_)
      ·exact zw (g := fun r => (Ex.nor, zB v3 v7 v11 v21 r)) g7 (y5 _ _ [(23, 5, 23, .q (xb true))] [] (ob (o_b h208) ob0) (by kernel_rfl))
      ·have y6 := fun (d : _) (P : List Prop) (V : Ovs) (C : Cuts) (q : All P) h => y5 d _ ([(23, 5, 23, .q (xb false)), (23, 5, 25, .q (xi (v11.1.1.length : Int)))] ++ V) C (ob (o_b h208) (ob (zq (eL zh) v11.1.1) q)) h
       refine zm g7 (fun h209 g8 => ?_) (fun h209 g8 => ?_)
       ·exact zw (g := fun r => (Ex.nor, zB v3 v7 v11 v21 r)) g8 (y6 _ _ [(23, 5, 28, .q (xb true))] [] (ob (o_b h209) ob0) (by kernel_rfl))
       ·refine zi g8 (fun v210 h211 g9 => ?_)
        have y7 := fun (d : _) (P : List Prop) (V : Ovs) (C : Cuts) (q : All P) h => y6 d _ ([(23, 5, 28, .q (xb false)), (23, 5, 30, .q (.d (.pin [(dl zh v210.1 v210.2)]))), (23, 5, 32, .q (xi (v210.1.length : Int)))] ++ V) C (ob (o_b h209) (ob (o_ia (e := (eL zh)) 1 h211 rfl) (ob (zq zh v210.1) q))) h
        refine zm g9 (fun h212 g10 => ?_) (fun h212 g10 => ?_)
        ·exact zw (g := fun r => (Ex.nor, zB v3 v7 v11 v21 r)) g10 (y7 _ _ [(23, 5, 35, .q (xb true))] [] (ob (o_b h212) ob0) (by kernel_rfl))
        ·refine zi g10 (fun v213 h214 g11 => ?_)
         refine zi g11 (fun v215 h216 g12 => ?_)
         refine zi g12 (fun v217 h218 g13 => ?_)
         have y8 := fun (d : _) (P : List Prop) (V : Ovs) (C : Cuts) (q : All P) h => y7 d _ ([(23, 5, 35, .q (xb false)), (23, 5, 37, .q (.d (.pin [(dl zh v213.1 v213.2)]))), (23, 5, 39, .q (.d (.pin [(di v215.Shelf), (di v215.Many)]))), (23, 5, 41, .c (.agg [(di v217.Shelf), (di v217.Many)]))] ++ V) C (ob (o_b h212) (ob (o_ia (e := (eL zh)) 1 h214 rfl) (ob (o_ia (e := zh) 2 h216 rfl) (ob (zab k 0 1 _ h218) q)))) h
         refine zm g13 (fun h219 g14 => ?_) (fun h219 g14 => ?_)
         ·exact zw (g := fun r => (Ex.nor, zB v3 v7 v11 v21 r)) g14 (y8 _ _ [(23, 5, 44, .q (xb true))] [] (ob (o_b h219) ob0) (by kernel_rfl))
         ·exact zw (g := fun r => (Ex.nor, zB v3 v7 v11 v21 r)) g14 (y8 _ _ [(23, 5, 44, .q (xb false))] [] (ob (o_b h219) ob0) (by kernel_rfl))
theorem zCe (k : Nat) (r : Bool) (h : zRb k = some r) : zA TE (ev TE) 23 [] = some (zZ r) := by
 unfold zRb at h
 refine zi h (fun v1 h2 g1 => ?_)
 refine zi g1 (fun v3 h4 g2 => ?_)
 refine zi g2 (fun v5 h6 g3 => ?_)
 refine zi g3 (fun v7 h8 g4 => ?_)
 refine zi g4 (fun v9 h10 g5 => ?_)
 refine zi g5 (fun v11 h12 g6 => ?_)
 refine zi g6 (fun v13 h14 g7 => ?_)
 refine zi g7 (fun v15 h16 g8 => ?_)
 refine zi g8 (fun v17 h18 g9 => ?_)
 refine zi g9 (fun v19 h20 g10 => ?_)
 refine zi g10 (fun v21 h22 g11 => ?_)
 refine zi g11 (fun v23 h24 g12 => ?_)
 have y1 := fun (d : D) (P : List Prop) (V : Ovs) (C : Cuts) (q : All P) h => (zqc ([(23, 1, 0, .c (.agg (za v1))), (23, 1, 1, .c (.tup [(di v3.1), (di v3.2)])), (23, 2, 0, .c (.agg (za v5))), (23, 2, 1, .c (.tup [(.agg [(di v7.1.Low), (di v7.1.High)]), (di v7.2)])), (23, 3, 0, .c (.agg (za v9))), (23, 3, 1, .c (.tup [(dl (eL zh) v11.1.1 v11.1.2), (di v11.2)])), (23, 4, 0, .c (.agg (za v13))), (23, 4, 1, .c (.agg [(di v15.Shelf), (di v15.Many)])), (23, 4, 2, .c (.agg [(di v17.Shelf), (di v17.Many)])), (23, 4, 4, .c (.agg [(di v19.Shelf), (di v19.Many)])), (23, 4, 7, .c (.tup [(db v21.1), (di v21.2)]))] ++ V) C (ob (zgb k _ h2) (ob (z5i k v1 3 _ h4) (ob (zgb k _ h6) (ob (z6i k v5 0 _ h8) (ob (zgb k _ h10) (ob (zhr k v9 2 _ h12) (ob (zgb k _ h14) (ob (zab k 0 1 _ h16) (ob (zab k 2 3 _ h18) (ob (zab k 0 1 _ h20) (ob (zBp k v13 0 ([([v15, v17], .ex), ([v19], .ex)], .ex) _ h22) (ob (zuj k v3 v7 v11 v21 _ h24) q)))))))))))) h : zA TE (ev TE) 23 [] = some d)
 refine zm g12 (fun h25 g13 => ?_) (fun h25 g13 => ?_)
 ·subst h25
  exact zy (g := zZ) g13 (y1 _ _ [] [(23, 1000005, (.nor, zB v3 v7 v11 v21 true))] ob0 (by kernel_rfl))
 ·subst h25
  refine zi g13 (fun v26 h27 g14 => ?_)
  refine zi g14 (fun v28 h29 g15 => ?_)
  refine zi g15 (fun v30 h31 g16 => ?_)
  refine zi g16 (fun v32 h33 g17 => ?_)
  refine zi g17 (fun v34 h35 g18 => ?_)
  refine zi g18 (fun v36 h37 g19 => ?_)
  refine zi g19 (fun v38 h39 g20 => ?_)
  refine zi g20 (fun v40 h41 g21 => ?_)
  have y2 := fun (d : _) (P : List Prop) (V : Ovs) (C : Cuts) (q : All P) h => y1 d _ ([(23, 7, 0, .c (.agg (za v26))), (23, 7, 4, .c (.tup [(dl zr v28.1.1 v28.1.2), (di v28.2)])), (23, 8, 0, .c (.agg (za v30))), (23, 8, 1, .c (.tup [(dl (eL eI) v32.1.1 v32.1.2), (di v32.2)])), (23, 9, 0, .c (.agg (za v34))), (23, 9, 1, .c (.tup [(dl eI v36.1.1 v36.1.2), (di v36.2)])), (23, 10, 0, .c (.agg (za v38))), (23, 10, 1, .c (.tup [(di v40.1), (di v40.2)]))] ++ V) C (ob (zgb k _ h27) (ob (zln k v26 ([([2, 1], .ex), ([0, 3], .ex)], .ex) _ h29) (ob (zgb k _ h31) (ob (zfm k v30 _ h33) (ob (zgb k _ h35) (ob (zNr k v34 1 _ h37) (ob (zgb k _ h39) (ob (zkr k v38 3 _ h41) q)))))))) h
  refine zm g21 (fun h42 g22 => ?_) (fun h42 g22 => ?_)
  ·have y3 := fun (d : _) (P : List Prop) (V : Ovs) (C : Cuts) (q : All P) h => y2 d _ ([(23, 11, 2, .q (xb true))] ++ V) C (ob (o_b h42) q) h
   refine zm g22 (fun h43 g23 => ?_) (fun h43 g23 => ?_)
   ·have y4 := fun (d : _) (P : List Prop) (V : Ovs) (C : Cuts) (q : All P) h => y3 d _ ([(23, 11, 6, .q (xb true))] ++ V) C (ob (o_b h43) q) h
    refine zm g23 (fun h44 g24 => ?_) (fun h44 g24 => ?_)
    ·refine zm g24 (fun h45 g25 => ?_) (fun h45 g25 => ?_)
     ·refine zi g25 (fun v46 h47 g26 => ?_)
      refine zi g26 (fun v48 h49 g27 => ?_)
      refine zi g27 (fun v50 h51 g28 => ?_)
      refine zi g28 (fun v52 h53 g29 => ?_)
      refine zi g29 (fun v54 h55 g30 => ?_)
      have y5 := fun (d : _) (P : List Prop) (V : Ovs) (C : Cuts) (q : All P) h => y4 d _ ([(23, 11, 10, .q (xb true)), (23, 11, 14, .q (xb true)), (23, 11, 16, .c (.agg [(di v46.Low), (di v46.High)])), (23, 11, 17, .c (.agg [(di v48.Low), (di v48.High)])), (23, 11, 18, .c (.agg [(di v50.Low), (di v50.High)])), (23, 11, 19, .c (.agg [(di v52.Low), (di v52.High)])), (23, 11, 21, .c (db v54))] ++ V) C (ob (o_b h44) (ob (o_b h45) (ob (zlb k 140 252 _ h47) (ob (zlb k 95 188 _ h49) (ob (zlb k 25 48 _ h51) (ob (zlb k 365 654 _ h53) (ob (zEi k v28.1 ([v46, v48, v50, v52], .ex) _ h55) q))))))) h
      refine zm g30 (fun h56 g31 => ?_) (fun h56 g31 => ?_)
      ·have y6 := fun (d : _) (P : List Prop) (V : Ovs) (C : Cuts) (q : All P) h => y5 d _ ([(23, 11, 23, .q (xb true)), (23, 11, 25, .q (xi (v32.1.1.length : Int)))] ++ V) C (ob (o_b h56) (ob (zq (eL eI) v32.1.1) q)) h
       refine zm g31 (fun h57 g32 => ?_) (fun h57 g32 => ?_)
       ·refine zi g32 (fun v58 h59 g33 => ?_)
        refine zm g33 (fun h60 g34 => ?_) (fun h60 g34 => ?_)
        ·exact zy (g := zZ) g34 (y6 _ _ [(23, 11, 28, .q (xb true)), (23, 11, 31, .c (db v58)), (23, 11, 33, .q (xb true))] [(23, 1000005, (.nor, zB v3 v7 v11 v21 false))] (ob (o_b h57) (ob (zAg k v36.1 ([0], .ex) _ h59) (ob (o_b h60) ob0))) (by kernel_rfl))
        ·exact zy (g := zZ) g34 (y6 _ _ [(23, 11, 28, .q (xb true)), (23, 11, 31, .c (db v58)), (23, 11, 33, .q (xb false))] [(23, 1000005, (.nor, zB v3 v7 v11 v21 false))] (ob (o_b h57) (ob (zAg k v36.1 ([0], .ex) _ h59) (ob (o_b h60) ob0))) (by kernel_rfl))
       ·exact zy (g := zZ) g32 (y6 _ _ [(23, 11, 28, .q (xb false))] [(23, 1000005, (.nor, zB v3 v7 v11 v21 false))] (ob (o_b h57) ob0) (by kernel_rfl))
      ·exact zy (g := zZ) g31 (y5 _ _ [(23, 11, 23, .q (xb false))] [(23, 1000005, (.nor, zB v3 v7 v11 v21 false))] (ob (o_b h56) ob0) (by kernel_rfl))
     ·exact zy (g := zZ) g25 (y4 _ _ [(23, 11, 10, .q (xb true)), (23, 11, 14, .q (xb false))] [(23, 1000005, (.nor, zB v3 v7 v11 v21 false))] (ob (o_b h44) (ob (o_b h45) ob0)) (by kernel_rfl))
    ·exact zy (g := zZ) g24 (y4 _ _ [(23, 11, 10, .q (xb false))] [(23, 1000005, (.nor, zB v3 v7 v11 v21 false))] (ob (o_b h44) ob0) (by kernel_rfl))
   ·exact zy (g := zZ) g23 (y3 _ _ [(23, 11, 6, .q (xb false))] [(23, 1000005, (.nor, zB v3 v7 v11 v21 false))] (ob (o_b h43) ob0) (by kernel_rfl))
  ·exact zy (g := zZ) g22 (y2 _ _ [(23, 11, 2, .q (xb false))] [(23, 1000005, (.nor, zB v3 v7 v11 v21 false))] (ob (o_b h42) ob0) (by kernel_rfl))
noncomputable def zWy (p0 p1 : Int) (r : zt1) : TM := [(0, (xi p0)), (1, (xi p1)), (4, (xi 0)), (7, (xb false)), (5, (xi r.1)), (12, (xb r.2))]
noncomputable def zTc (p0 p1 : Int) (cb : Bool) (r : zt1) : St := ⟨(zWy p0 p1 r), ⟨[], []⟩, []⟩
noncomputable def zXx (p0 p1 : Int) (cb : Bool) : TM := [(0, (xi p0)), (1, (xi p1)), (4, (xi 0)), (7, (xb false)), (5, (xi (p0.tmod p1))), (12, (xb cb))]
theorem zCk (k : Nat) (p0 p1 : Int) (cb : Bool) (r : zt1) (h : zxc k p0 p1 cb = some r) : ev TE 36 (cnd TE 36 12) ⟨(zXx p0 p1 cb), ⟨[], []⟩, []⟩ = some (.nor, zTc p0 p1 cb r) := by
 unfold zxc at h
 refine zm h (fun h201 g1 => ?_) (fun h201 g1 => ?_)
 ·subst h201
  exact zw (g := fun r => (Ex.nor, zTc p0 p1 true r)) g1 (zqe [] [] ob0 (by kernel_rfl))
 ·subst h201
  exact zw (g := fun r => (Ex.nor, zTc p0 p1 false r)) g1 (zqe [] [] ob0 (by kernel_rfl))
theorem zqh (k : Nat) (p0 p1 r : Int) (h : zCb k p0 p1 = some r) : zA TE (ev TE) 36 [(di p0), (di p1)] = some (zdf r) := by
 unfold zCb at h
 refine zm h (fun h1 g1 => ?_) (fun h1 g1 => ?_)
 ·exact zy (g := zdf) g1 (zqc [(36, 1, 1, .q (xb true))] [] (ob (o_b h1) ob0) (by kernel_rfl))
 ·refine zm g1 (fun h2 g2 => ?_) (fun h2 g2 => ?_)
  ·cases g2
  ·refine zi g2 (fun v3 h4 g3 => ?_)
   exact zy (g := zdf) g3 (zqc [(36, 1, 1, .q (xb false)), (36, 3, 2, .q (xi (p0.tmod p1)))] [(36, 2000012, (.nor, zTc p0 p1 (decide ((p0.tmod p1) < 0)) v3))] (ob (o_b h1) (ob (zzy (x := p0) .i64 h2) (ob (zCk k p0 p1 (decide ((p0.tmod p1) < 0)) _ h4) ob0))) (by kernel_rfl))
theorem zZe (k : Nat) (p0 : (SL Int)) (p1 r : Int) (h : z1b k p0 p1 = some r) : zA TE (ev TE) 82 [(dl eI p0.1 p0.2), (di p1)] = some (zlf r) := by
 unfold z1b at h
 refine zm h (fun h1 g1 => ?_) (fun h1 g1 => ?_)
 ·exact zy (g := zlf) g1 (zqc [(82, 1, 1, .q (xi (p0.1.length : Int))), (82, 1, 2, .q (xb true))] [] (ob (zq eI p0.1) (ob (o_b h1) ob0)) (by kernel_rfl))
 ·refine zi g1 (fun v2 h3 g2 => ?_)
  refine zi g2 (fun v4 h5 g3 => ?_)
  exact zy (g := zlf) g3 (zqc [(82, 1, 1, .q (xi (p0.1.length : Int))), (82, 1, 2, .q (xb false)), (82, 3, 3, .q (xi (p0.1.length : Int))), (82, 3, 4, .c (di v2)), (82, 3, 5, .q (.d (.pin [(di v4)])))] [] (ob (zq eI p0.1) (ob (o_b h1) (ob (zq eI p0.1) (ob (zqh k p1 (p0.1.length : Int) _ h3) (ob (o_ia (e := eI) 1 h5 rfl) ob0))))) (by kernel_rfl))
theorem zcf (k : Nat) (p0 : zo) (p1 r : Int) (h : zzb k p0 p1 = some r) : zA TE (ev TE) 49 [(.agg [(di p0.Low), (di p0.High)]), (di p1)] = some (zZd r) := by
 unfold zzb at h
 refine zm h (fun h1 g1 => ?_) (fun h1 g1 => ?_)
 ·exact zy (g := zZd) g1 (zqc [(49, 1, 4, .q (xb true))] [] (ob (o_b h1) ob0) (by kernel_rfl))
 ·refine zm g1 (fun h2 g2 => ?_) (fun h2 g2 => ?_)
  ·exact zy (g := zZd) g2 (zqc [(49, 1, 4, .q (xb false)), (49, 4, 1, .q (xb true))] [] (ob (o_b h1) (ob (o_b h2) ob0)) (by kernel_rfl))
  ·refine zi g2 (fun v3 h4 g3 => ?_)
   exact zy (g := zZd) g3 (zqc [(49, 1, 4, .q (xb false)), (49, 4, 1, .q (xb false)), (49, 6, 4, .c (di v3))] [] (ob (o_b h1) (ob (o_b h2) (ob (zqh k p1 (w64 ((w64 (p0.High - p0.Low)) + 1)) _ h4) ob0))) (by kernel_rfl))
noncomputable def zLy (p0 : zb) (p1 p2 : Int) (p3 : (SL Int)) (s1_10 s1_11 s1_12 : Int) (r : Bool) : TM := [(0, (.d (.agg (za p0)))), (1, (xi p1)), (2, (xi p2)), (3, (.d (dl eI p3.1 p3.2))), (zsp 4), (8, (xi 0)), (9, (xi s1_10)), (10, (xi s1_11)), (11, (xi s1_12)), (22, (xb r))]
noncomputable def z0b (p0 : zb) (p1 p2 : Int) (p3 : (SL Int)) (s1_10 s1_11 s1_12 : Int) (r : Bool) : St := ⟨(zLy p0 p1 p2 p3 s1_10 s1_11 s1_12 r), ⟨[(zc 4 (za p0))], []⟩, []⟩
noncomputable def zuw (p0 : zb) (p1 p2 : Int) (p3 : (SL Int)) (s1_10 s1_11 s1_12 : Int) : TM := [(0, (.d (.agg (za p0)))), (1, (xi p1)), (2, (xi p2)), (3, (.d (dl eI p3.1 p3.2))), (zsp 4), (8, (xi 0)), (9, (xi s1_10)), (10, (xi s1_11)), (11, (xi s1_12))]
theorem zTf (k : Nat) (p0 : zb) (p1 p2 : Int) (p3 : (SL Int)) (s1_10 s1_11 s1_12 : Int) (r : Bool) (h : zMb k p0 p1 p2 p3 s1_10 s1_11 s1_12 = some r) : ev TE 40 (rgn TE 40 3) ⟨(zuw p0 p1 p2 p3 s1_10 s1_11 s1_12), ⟨[(zc 4 (za p0))], []⟩, []⟩ = some (.nor, z0b p0 p1 p2 p3 s1_10 s1_11 s1_12 r) := by
 unfold zMb at h
 refine zm h (fun h401 g1 => ?_) (fun h401 g1 => ?_)
 ·exact zw (g := fun r => (Ex.nor, z0b p0 p1 p2 p3 s1_10 s1_11 s1_12 r)) g1 (zqe [(40, 3, 3, .q (xb true))] [] (ob (o_b h401) ob0) (by kernel_rfl))
 ·exact zw (g := fun r => (Ex.nor, z0b p0 p1 p2 p3 s1_10 s1_11 s1_12 r)) g1 (zqe [(40, 3, 3, .q (xb false))] [] (ob (o_b h401) ob0) (by kernel_rfl))
noncomputable def zXk (p0 : zb) (p1 p2 : Int) (p3 : (SL Int)) (s1_10 s1_11 s1_12 : Int) : St := ⟨(zuw p0 p1 p2 p3 s1_10 s1_11 s1_12), ⟨[(zc 4 (za p0))], []⟩, []⟩
noncomputable def zFy (p0 : zb) (p1 p2 : Int) (p3 : (SL Int)) (r : zt11) : TM := [(0, (.d (.agg (za p0)))), (1, (xi p1)), (2, (xi p2)), (3, (.d (dl eI p3.1 p3.2))), (zsp 4), (8, (xi 0)), (9, (xi r.1)), (10, (xi r.2.1)), (11, (xi r.2.2)), (22, (xb false))]
noncomputable def zzd (p0 : zb) (p1 p2 : Int) (p3 : (SL Int)) (r : zt11) : St := ⟨(zFy p0 p1 p2 p3 r), ⟨[(zc 4 (za p0))], []⟩, []⟩
noncomputable def zak (p0 : zb) (p1 p2 : Int) (p3 : (SL Int)) : (Int × Int × Int) → Ex × St := fun r => ((.exit 0), zzd p0 p1 p2 p3 r)
theorem zqj (k : Nat) (p0 : zb) (p1 p2 : Int) (p3 : (SL Int)) (s1_10 s1_11 s1_12 : Int) (x : (Int × Int × Int) ⊕ (Int × Int × Int)) (h : zrb k p0 p1 p2 p3 s1_10 s1_11 s1_12 = some x) : zD TE 40 (blk TE 40 0) (fun s : (Int × Int × Int) => zXk p0 p1 p2 p3 s.1 s.2.1 s.2.2) (zak p0 p1 p2 p3) (s1_10, s1_11, s1_12) x := by
 unfold zrb at h
 refine zi h (fun v301 h302 g1 => ?_)
 refine zm g1 (fun h303 g2 => ?_) (fun h303 g2 => ?_)
 ·subst h303
  refine zi g2 (fun v304 h305 g3 => ?_)
  refine zi g3 (fun v306 h307 g4 => ?_)
  exact zqn ((w64 (s1_10 + v306)), (w64 (s1_11 + 1)), (w64 (s1_12 + 1))) [] [(40, 6, 5, .c (di v304)), (40, 6, 6, .c (di v306))] [(40, 1000003, (.nor, z0b p0 p1 p2 p3 s1_10 s1_11 s1_12 true))] g4 (ob (zTf k p0 p1 p2 p3 s1_10 s1_11 s1_12 _ h302) (ob (zZe k p3 (w64 (s1_11 + 1)) _ h305) (ob (zcf k p0.Step v304 _ h307) ob0))) (by kernel_rfl)
 ·subst h303
  exact zqo [] [(40, 1000003, (.nor, z0b p0 p1 p2 p3 s1_10 s1_11 s1_12 false))] g2 (ob (zTf k p0 p1 p2 p3 s1_10 s1_11 s1_12 _ h302) ob0) (by kernel_rfl)
noncomputable def zQx (p0 : zb) (p1 p2 : Int) (p3 : (SL Int)) (r : zt1) (v1 : zt11) : TM := [(0, (.d (.agg (za p0)))), (1, (xi p1)), (2, (xi p2)), (3, (.d (dl eI p3.1 p3.2))), (zsp 4), (8, (xi 0)), (9, (xi r.1)), (10, (xi v1.2.1)), (11, (xi v1.2.2)), (22, (xb false)), (36, (xb r.2))]
noncomputable def zEc (p0 : zb) (p1 p2 : Int) (p3 : (SL Int)) (v1 : zt11) (cb : Bool) (r : zt1) : St := ⟨(zQx p0 p1 p2 p3 r v1), ⟨[(zc 4 (za p0))], []⟩, []⟩
noncomputable def zSy (p0 : zb) (p1 p2 : Int) (p3 : (SL Int)) (v1 : zt11) (cb : Bool) : TM := [(0, (.d (.agg (za p0)))), (1, (xi p1)), (2, (xi p2)), (3, (.d (dl eI p3.1 p3.2))), (zsp 4), (8, (xi 0)), (9, (xi v1.1)), (10, (xi v1.2.1)), (11, (xi v1.2.2)), (22, (xb false)), (36, (xb cb))]
theorem zLj (k : Nat) (p0 : zb) (p1 p2 : Int) (p3 : (SL Int)) (v1 : zt11) (cb : Bool) (r : zt1) (h : zmc k p0 p1 p2 p3 v1 cb = some r) : ev TE 40 (cnd TE 40 36) ⟨(zSy p0 p1 p2 p3 v1 cb), ⟨[(zc 4 (za p0))], []⟩, []⟩ = some (.nor, zEc p0 p1 p2 p3 v1 cb r) := by
 unfold zmc at h
 refine zm h (fun h501 g1 => ?_) (fun h501 g1 => ?_)
 ·subst h501
  refine zi g1 (fun v502 h503 g2 => ?_)
  refine zi g2 (fun v504 h505 g3 => ?_)
  exact zw (g := fun r => (Ex.nor, zEc p0 p1 p2 p3 v1 true r)) g3 (zqe [(40, 8, 7, .c (di v502)), (40, 8, 8, .c (di v504))] [] (ob (zZe k p3 p1 _ h503) (ob (zcf k p0.Step v502 _ h505) ob0)) (by kernel_rfl))
 ·subst h501
  exact zw (g := fun r => (Ex.nor, zEc p0 p1 p2 p3 v1 false r)) g1 (zqe [] [] ob0 (by kernel_rfl))
noncomputable def zAy (p0 : zb) (p1 p2 : Int) (p3 : (SL Int)) (s7_10 s7_11 : Int) (v1 : zt11) (v3 : zt1) (v5 : zj) (s5_16 s7_18 : Int) : TM := [(0, (.d (.agg (za p0)))), (1, (xi p1)), (2, (xi p2)), (3, (.d (dl eI p3.1 p3.2))), (zsp 4), (8, (xi 0)), (9, (xi s7_10)), (10, (xi s7_11)), (11, (xi v1.2.2)), (22, (xb false)), (36, (xb v3.2)), (12, (.d (dl zh v5.Lines.1 v5.Lines.2))), (13, (xi s5_16)), (57, (xb true)), (14, (xi s7_18))]
noncomputable def zbk (p0 : zb) (p1 p2 : Int) (p3 : (SL Int)) (v1 : zt11) (v3 : zt1) (v5 : zj) (s5_16 s7_10 s7_11 s7_18 : Int) : St := ⟨(zAy p0 p1 p2 p3 s7_10 s7_11 v1 v3 v5 s5_16 s7_18), ⟨[(zc 4 (za p0))], []⟩, []⟩
noncomputable def zWx (p0 : zb) (p1 p2 : Int) (p3 : (SL Int)) (r v1 : zt11) (v3 : zt1) (v5 : zj) (s5_16 : Int) : TM := [(0, (.d (.agg (za p0)))), (1, (xi p1)), (2, (xi p2)), (3, (.d (dl eI p3.1 p3.2))), (zsp 4), (8, (xi 0)), (9, (xi r.1)), (10, (xi r.2.1)), (11, (xi v1.2.2)), (22, (xb false)), (36, (xb v3.2)), (12, (.d (dl zh v5.Lines.1 v5.Lines.2))), (13, (xi s5_16)), (57, (xb true)), (14, (xi r.2.2)), (66, (xb false))]
noncomputable def zGd (p0 : zb) (p1 p2 : Int) (p3 : (SL Int)) (v1 : zt11) (v3 : zt1) (v5 : zj) (s5_16 : Int) (r : zt11) : St := ⟨(zWx p0 p1 p2 p3 r v1 v3 v5 s5_16), ⟨[(zc 4 (za p0))], []⟩, []⟩
noncomputable def zkk (p0 : zb) (p1 p2 : Int) (p3 : (SL Int)) (v1 : zt11) (v3 : zt1) (v5 : zj) (s5_16 : Int) : (Int × Int × Int) → Ex × St := fun r => ((.exit 4), zGd p0 p1 p2 p3 v1 v3 v5 s5_16 r)
theorem zBj (k : Nat) (p0 : zb) (p1 p2 : Int) (p3 : (SL Int)) (v1 : zt11) (v3 : zt1) (v5 : zj) (s5_16 s7_10 s7_11 s7_18 : Int) (x : (Int × Int × Int) ⊕ (Int × Int × Int)) (h : zoc k p0 p1 p2 p3 v1 v3 v5 s5_16 s7_10 s7_11 s7_18 = some x) : zD TE 40 (blk TE 40 4) (fun s : (Int × Int × Int) => zbk p0 p1 p2 p3 v1 v3 v5 s5_16 s.1 s.2.1 s.2.2) (zkk p0 p1 p2 p3 v1 v3 v5 s5_16) (s7_10, s7_11, s7_18) x := by
 unfold zoc at h
 refine zi h (fun v801 h802 g1 => ?_)
 refine zm g1 (fun h803 g2 => ?_) (fun h803 g2 => ?_)
 ·refine zi g2 (fun v804 h805 g3 => ?_)
  refine zi g3 (fun v806 h807 g4 => ?_)
  refine zi g4 (fun v808 h809 g5 => ?_)
  refine zi g5 (fun v810 h811 g6 => ?_)
  exact zqn ((w64 (s7_10 + v810)), (w64 (s7_11 + 1)), (w64 (s7_18 + 1))) [] [(40, 14, 3, .q (.d (.pin [(di v801.Shelf), (di v801.Many)]))), (40, 14, 6, .q (xb true)), (40, 17, 5, .q (.d (.pin [(di v804.Shelf), (di v804.Many)]))), (40, 17, 8, .q (.d (.pin [(di v806.Low), (di v806.High)]))), (40, 17, 12, .c (di v808)), (40, 17, 13, .c (di v810))] [] g6 (ob (o_ia (e := zh) 2 h802 rfl) (ob (o_b h803) (ob (o_ia (e := zh) 2 h805 rfl) (ob (o_ia (e := zr) 2 h807 rfl) (ob (zZe k p3 (w64 (s7_11 + 1)) _ h809) (ob (zcf k v806 v808 _ h811) ob0)))))) (by kernel_rfl)
 ·exact zqo [(40, 14, 3, .q (.d (.pin [(di v801.Shelf), (di v801.Many)]))), (40, 14, 6, .q (xb false))] [] g2 (ob (o_ia (e := zh) 2 h802 rfl) (ob (o_b h803) ob0)) (by kernel_rfl)
noncomputable def z8x (p0 : zb) (p1 p2 : Int) (p3 : (SL Int)) (s5_10 s5_11 : Int) (v1 : zt11) (v3 : zt1) (v5 : zj) (s5_16 : Int) : TM := [(0, (.d (.agg (za p0)))), (1, (xi p1)), (2, (xi p2)), (3, (.d (dl eI p3.1 p3.2))), (zsp 4), (8, (xi 0)), (9, (xi s5_10)), (10, (xi s5_11)), (11, (xi v1.2.2)), (22, (xb false)), (36, (xb v3.2)), (12, (.d (dl zh v5.Lines.1 v5.Lines.2))), (13, (xi s5_16))]
noncomputable def zQk (p0 : zb) (p1 p2 : Int) (p3 : (SL Int)) (v1 : zt11) (v3 : zt1) (v5 : zj) (s5_10 s5_11 s5_16 : Int) : St := ⟨(z8x p0 p1 p2 p3 s5_10 s5_11 v1 v3 v5 s5_16), ⟨[(zc 4 (za p0))], []⟩, []⟩
noncomputable def zgy (p0 : zb) (p1 p2 : Int) (p3 : (SL Int)) (r v1 : zt11) (v3 : zt1) (v5 : zj) : TM := [(0, (.d (.agg (za p0)))), (1, (xi p1)), (2, (xi p2)), (3, (.d (dl eI p3.1 p3.2))), (zsp 4), (8, (xi 0)), (9, (xi r.1)), (10, (xi r.2.1)), (11, (xi v1.2.2)), (22, (xb false)), (36, (xb v3.2)), (12, (.d (dl zh v5.Lines.1 v5.Lines.2))), (13, (xi r.2.2)), (57, (xb false))]
noncomputable def zAd (p0 : zb) (p1 p2 : Int) (p3 : (SL Int)) (v1 : zt11) (v3 : zt1) (v5 : zj) (r : zt11) : St := ⟨(zgy p0 p1 p2 p3 r v1 v3 v5), ⟨[(zc 4 (za p0))], []⟩, []⟩
noncomputable def zFk (p0 : zb) (p1 p2 : Int) (p3 : (SL Int)) (v1 : zt11) (v3 : zt1) (v5 : zj) : (Int × Int × Int) → Ex × St := fun r => ((.exit 2), zAd p0 p1 p2 p3 v1 v3 v5 r)
theorem zpj (k : Nat) (p0 : zb) (p1 p2 : Int) (p3 : (SL Int)) (v1 : zt11) (v3 : zt1) (v5 : zj) (s5_10 s5_11 s5_16 : Int) (x : (Int × Int × Int) ⊕ (Int × Int × Int)) (h : zOb k p0 p1 p2 p3 v1 v3 v5 s5_10 s5_11 s5_16 = some x) : zD TE 40 (blk TE 40 2) (fun s : (Int × Int × Int) => zQk p0 p1 p2 p3 v1 v3 v5 s.1 s.2.1 s.2.2) (zFk p0 p1 p2 p3 v1 v3 v5) (s5_10, s5_11, s5_16) x := by
 unfold zOb at h
 refine zm h (fun h701 g1 => ?_) (fun h701 g1 => ?_)
 ·refine zi g1 (fun v702 h703 g2 => ?_)
  exact zqn (v702.1, v702.2.1, (w64 (s5_16 + 1))) [] [(40, 11, 2, .q (xi (v5.Lines.1.length : Int))), (40, 11, 3, .q (xb true))] [(40, 4, (.nor, zGd p0 p1 p2 p3 v1 v3 v5 s5_16 v702))] g2 (ob (zq zh v5.Lines.1) (ob (o_b h701) (ob (zx (id := 4) (r' := (.nor, zGd p0 p1 p2 p3 v1 v3 v5 s5_16 v702)) (zMl (zBj k p0 p1 p2 p3 v1 v3 v5 s5_16) k _ _ h703) rfl) ob0))) (by kernel_rfl)
 ·exact zqo [(40, 11, 2, .q (xi (v5.Lines.1.length : Int))), (40, 11, 3, .q (xb false))] [] g1 (ob (zq zh v5.Lines.1) (ob (o_b h701) ob0)) (by kernel_rfl)
theorem zxg (k : Nat) (p0 : zb) (p1 p2 : Int) (p3 : (SL Int)) (r : Int) (h : zYc k p0 p1 p2 p3 = some r) : zA TE (ev TE) 40 [(.agg (za p0)), (di p1), (di p2), (dl eI p3.1 p3.2)] = some (zfh r) := by
 unfold zYc at h
 refine zi h (fun v1 h2 g1 => ?_)
 refine zi g1 (fun v3 h4 g2 => ?_)
 refine zi g2 (fun v5 h6 g3 => ?_)
 refine zi g3 (fun v7 h8 g4 => ?_)
 exact zy (g := zfh) g4 (zqc [(40, 9, 3, .q (.d (.pin [(dl zh v5.Lines.1 v5.Lines.2), (di v5.Until)])))] [(40, 0, (.nor, zzd p0 p1 p2 p3 v1)), (40, 2000036, (.nor, zEc p0 p1 p2 p3 v1 (decide (p2 > 2000)) v3)), (40, 2, (.nor, zAd p0 p1 p2 p3 v1 v3 v5 v7))] (ob (zx (id := 0) (r' := (.nor, zzd p0 p1 p2 p3 v1)) (zMl (zqj k p0 p1 p2 p3) k _ _ h2) rfl) (ob (zLj k p0 p1 p2 p3 v1 (decide (p2 > 2000)) _ h4) (ob (o_ia (e := zk) 2 h6 rfl) (ob (zx (id := 2) (r' := (.nor, zAd p0 p1 p2 p3 v1 v3 v5 v7)) (zMl (zpj k p0 p1 p2 p3 v1 v3 v5) k _ _ h8) rfl) ob0)))) (by kernel_rfl))
theorem zIc (k : Nat) (p0 : zo) (p1 : Int) (r : Bool) (h : zud k p0 p1 = some r) : zA TE (ev TE) 41 [(.agg [(di p0.Low), (di p0.High)]), (di p1)] = some (zci r) := by
 unfold zud at h
 refine zi h (fun v1 h2 g1 => ?_)
 exact zy (g := zci) g1 (zqc [(41, 1, 5, .c (db v1))] [] (ob (zG k p1 p0.Low p0.High _ h2) ob0) (by kernel_rfl))
noncomputable def zYy (p0 : zb) (p1 : (SL Int)) (v1 : zt8) (v7 : zt9) (r : Bool) : TM := [(0, (.d (.agg (za p0)))), (1, (.d (dl eI p1.1 p1.2))), (zsp 2), (4, (xb false)), (5, (.d (dl (eL eI) v1.1.1 v1.1.2))), (6, (xi v1.2)), (26, (xb false)), (38, (xb false)), (7, (.d (dl zr v7.1.1 v7.1.2))), (8, (xi v7.2)), (70, (xb r))]
noncomputable def zV (p0 : zb) (p1 : (SL Int)) (v1 : zt8) (v7 : zt9) (r : Bool) : St := ⟨(zYy p0 p1 v1 v7 r), ⟨[(zc 2 (za p0))], []⟩, []⟩
noncomputable def z5h (p0 : zb) (p1 : (SL Int)) (v1 : zt8) (v7 : zt9) : TM := [(0, (.d (.agg (za p0)))), (1, (.d (dl eI p1.1 p1.2))), (zsp 2), (4, (xb false)), (5, (.d (dl (eL eI) v1.1.1 v1.1.2))), (6, (xi v1.2)), (26, (xb false)), (38, (xb false)), (7, (.d (dl zr v7.1.1 v7.1.2))), (8, (xi v7.2))]
theorem zqi (k : Nat) (p0 : zb) (p1 : (SL Int)) (v1 : zt8) (v7 : zt9) (r : Bool) (h : zAc k p0 p1 v1 v7 = some r) : ev TE 7 (rgn TE 7 7) ⟨(z5h p0 p1 v1 v7), ⟨[(zc 2 (za p0))], []⟩, []⟩ = some (.nor, zV p0 p1 v1 v7 r) := by
 unfold zAc at h
 refine zm h (fun h201 g1 => ?_) (fun h201 g1 => ?_)
 ·exact zw (g := fun r => (Ex.nor, zV p0 p1 v1 v7 r)) g1 (zqe [(7, 7, 2, .q (xb true))] [] (ob (o_b h201) ob0) (by kernel_rfl))
 ·refine zm g1 (fun h202 g2 => ?_) (fun h202 g2 => ?_)
  ·exact zw (g := fun r => (Ex.nor, zV p0 p1 v1 v7 r)) g2 (zqe [(7, 7, 2, .q (xb false)), (7, 7, 4, .q (xi (v7.1.1.length : Int))), (7, 7, 7, .q (xi (p0.Slips.1.length : Int))), (7, 7, 10, .q (xb true))] [] (ob (o_b h201) (ob (zq zr v7.1.1) (ob (zq zk p0.Slips.1) (ob (o_b h202) ob0)))) (by kernel_rfl))
  ·refine zi g2 (fun v203 h204 g3 => ?_)
   exact zw (g := fun r => (Ex.nor, zV p0 p1 v1 v7 r)) g3 (zqe [(7, 7, 2, .q (xb false)), (7, 7, 4, .q (xi (v7.1.1.length : Int))), (7, 7, 7, .q (xi (p0.Slips.1.length : Int))), (7, 7, 10, .q (xb false)), (7, 7, 12, .q (xi (v1.1.1.length : Int))), (7, 7, 13, .c (db v203))] [] (ob (o_b h201) (ob (zq zr v7.1.1) (ob (zq zk p0.Slips.1) (ob (o_b h202) (ob (zq (eL eI) v1.1.1) (ob (zG k (v1.1.1.length : Int) 1 5 _ h204) ob0)))))) (by kernel_rfl))
noncomputable def zMx (p0 : zb) (p1 : (SL Int)) (v1 : zt8) (v7 : zt9) (s6_15 v806 s2_16 s6_18 v815 s6_19 : Int) (v811 : (Int × Int)) (v813 : (zo × Int)) (r : Bool) : TM := z5h p0 p1 v1 v7 ++ [(70, (xb false)), (9, (xi (or64 s6_15 (zn 1 v806)))), (10, (xi s2_16)), (74, (xb true)), (11, (xi (w64 (s6_18 + v815)))), (12, (xi s6_19)), (83, (xb true)), (13, (xi v806)), (99, (xb false)), (14, (xi v811.1)), (15, (xi v811.2)), (zsp 16), (17, (xi v813.2)), (18, (xi v815)), (154, (xb r))]
noncomputable def zX (p0 : zb) (p1 : (SL Int)) (v1 : zt8) (v7 : zt9) (s2_16 s6_15 s6_18 s6_19 v806 : Int) (v811 : (Int × Int)) (v813 : (zo × Int)) (v815 : Int) (r : Bool) : St := ⟨(zMx p0 p1 v1 v7 s6_15 v806 s2_16 s6_18 v815 s6_19 v811 v813 r), ⟨[(zc 2 (za p0)), (16, (.cells [(xi v813.1.Low), (xi v813.1.High)]))], []⟩, []⟩
noncomputable def zOx (p0 : zb) (p1 : (SL Int)) (v1 : zt8) (v7 : zt9) (s6_15 v806 s2_16 s6_18 v815 s6_19 : Int) (v811 : (Int × Int)) (v813 : (zo × Int)) : TM := z5h p0 p1 v1 v7 ++ [(70, (xb false)), (9, (xi (or64 s6_15 (zn 1 v806)))), (10, (xi s2_16)), (74, (xb true)), (11, (xi (w64 (s6_18 + v815)))), (12, (xi s6_19)), (83, (xb true)), (13, (xi v806)), (99, (xb false)), (14, (xi v811.1)), (15, (xi v811.2)), (zsp 16), (17, (xi v813.2)), (18, (xi v815))]
theorem zVe (k : Nat) (p0 : zb) (p1 : (SL Int)) (v1 : zt8) (v7 : zt9) (s2_16 s6_15 s6_18 s6_19 v806 : Int) (v811 : (Int × Int)) (v813 : (zo × Int)) (v815 : Int) (r : Bool) (h : zBc k p0 p1 v1 v7 s2_16 s6_15 s6_18 s6_19 v806 v811 v813 v815 = some r) : ev TE 7 (rgn TE 7 24) ⟨(zOx p0 p1 v1 v7 s6_15 v806 s2_16 s6_18 v815 s6_19 v811 v813), ⟨[(zc 2 (za p0)), (16, (.cells [(xi v813.1.Low), (xi v813.1.High)]))], []⟩, []⟩ = some (.nor, zX p0 p1 v1 v7 s2_16 s6_15 s6_18 s6_19 v806 v811 v813 v815 r) := by
 unfold zBc at h
 refine zm h (fun h901 g1 => ?_) (fun h901 g1 => ?_)
 ·exact zw (g := fun r => (Ex.nor, zX p0 p1 v1 v7 s2_16 s6_15 s6_18 s6_19 v806 v811 v813 v815 r)) g1 (zqe [(7, 24, 2, .q (xb true))] [] (ob (o_b h901) ob0) (by kernel_rfl))
 ·refine zm g1 (fun h902 g2 => ?_) (fun h902 g2 => ?_)
  ·exact zw (g := fun r => (Ex.nor, zX p0 p1 v1 v7 s2_16 s6_15 s6_18 s6_19 v806 v811 v813 v815 r)) g2 (zqe [(7, 24, 2, .q (xb false)), (7, 24, 6, .q (xb true))] [] (ob (o_b h901) (ob (o_b h902) ob0)) (by kernel_rfl))
  ·refine zi g2 (fun v903 h904 g3 => ?_)
   refine zm g3 (fun h905 g4 => ?_) (fun h905 g4 => ?_)
   ·exact zw (g := fun r => (Ex.nor, zX p0 p1 v1 v7 s2_16 s6_15 s6_18 s6_19 v806 v811 v813 v815 r)) g4 (zqe [(7, 24, 2, .q (xb false)), (7, 24, 6, .q (xb false)), (7, 24, 9, .c (db v903)), (7, 24, 12, .q (xb true))] [] (ob (o_b h901) (ob (o_b h902) (ob (zIc k v813.1 v815 _ h904) (ob (o_b h905) ob0)))) (by kernel_rfl))
   ·refine zi g4 (fun v906 h907 g5 => ?_)
    refine zi g5 (fun v908 h909 g6 => ?_)
    refine zm g6 (fun h910 g7 => ?_) (fun h910 g7 => ?_)
    ·exact zw (g := fun r => (Ex.nor, zX p0 p1 v1 v7 s2_16 s6_15 s6_18 s6_19 v806 v811 v813 v815 r)) g7 (zqe [(7, 24, 2, .q (xb false)), (7, 24, 6, .q (xb false)), (7, 24, 9, .c (db v903)), (7, 24, 12, .q (xb false)), (7, 24, 15, .q (.d (.pin [(di v906.Low), (di v906.High)]))), (7, 24, 18, .c (db v908)), (7, 24, 21, .q (xb true))] [] (ob (o_b h901) (ob (o_b h902) (ob (zIc k v813.1 v815 _ h904) (ob (o_b h905) (ob (o_ia (e := zr) 2 h907 rfl) (ob (zIc k v906 (w64 (s6_18 + v815)) _ h909) (ob (o_b h910) ob0))))))) (by kernel_rfl))
    ·refine zi g7 (fun v911 h912 g8 => ?_)
     exact zw (g := fun r => (Ex.nor, zX p0 p1 v1 v7 s2_16 s6_15 s6_18 s6_19 v806 v811 v813 v815 r)) g8 (zqe [(7, 24, 2, .q (xb false)), (7, 24, 6, .q (xb false)), (7, 24, 9, .c (db v903)), (7, 24, 12, .q (xb false)), (7, 24, 15, .q (.d (.pin [(di v906.Low), (di v906.High)]))), (7, 24, 18, .c (db v908)), (7, 24, 21, .q (xb false)), (7, 24, 26, .q (.d (.pin [(dl zh v911.Lines.1 v911.Lines.2), (di v911.Until)])))] [] (ob (o_b h901) (ob (o_b h902) (ob (zIc k v813.1 v815 _ h904) (ob (o_b h905) (ob (o_ia (e := zr) 2 h907 rfl) (ob (zIc k v906 (w64 (s6_18 + v815)) _ h909) (ob (o_b h910) (ob (o_ia (e := zk) 2 h912 rfl) ob0)))))))) (by kernel_rfl))
noncomputable def zwy (p0 : zb) (p1 : (SL Int)) (v1 : zt8) (v7 : zt9) (s6_15 s2_16 s6_18 s6_19 : Int) : TM := z5h p0 p1 v1 v7 ++ [(70, (xb false)), (9, (xi s6_15)), (10, (xi s2_16)), (74, (xb true)), (11, (xi s6_18)), (12, (xi s6_19))]
noncomputable def zPi (p0 : zb) (p1 : (SL Int)) (v1 : zt8) (v7 : zt9) (s2_16 s6_15 s6_18 s6_19 : Int) : St := ⟨(zwy p0 p1 v1 v7 s6_15 s2_16 s6_18 s6_19), ⟨[(zc 2 (za p0))], []⟩, []⟩
noncomputable def zTy (p0 : zb) (p1 : (SL Int)) (v1 : zt8) (v7 : zt9) (r : (Int × Int × Int × Int)) (s2_16 : Int) : TM := z5h p0 p1 v1 v7 ++ [(70, (xb false)), (9, (xi r.1)), (10, (xi s2_16)), (74, (xb true)), (11, (xi r.2.1)), (12, (xi r.2.2.1)), (83, (xb true)), (13, (xi r.2.2.2)), (99, (xb true))]
noncomputable def zad (p0 : zb) (p1 : (SL Int)) (v1 : zt8) (v7 : zt9) (s2_16 : Int) (r : (Int × Int × Int × Int)) : St := ⟨(zTy p0 p1 v1 v7 r s2_16), ⟨[(zc 2 (za p0))], []⟩, []⟩
noncomputable def zay (p0 : zb) (p1 : (SL Int)) (v1 : zt8) (v7 : zt9) (r : (Int × Int × Int × Int × Int × Int × Int × Int × Int × Int)) (s2_16 : Int) : TM := z5h p0 p1 v1 v7 ++ [(70, (xb false)), (9, (xi r.1)), (10, (xi s2_16)), (74, (xb true)), (11, (xi r.2.1)), (12, (xi r.2.2.1)), (83, (xb true)), (13, (xi r.2.2.2.1)), (99, (xb false)), (14, (xi r.2.2.2.2.1)), (15, (xi r.2.2.2.2.2.1)), (zsp 16), (17, (xi r.2.2.2.2.2.2.1)), (18, (xi r.2.2.2.2.2.2.2.1)), (154, (xb true))]
noncomputable def z9c (p0 : zb) (p1 : (SL Int)) (v1 : zt8) (v7 : zt9) (s2_16 : Int) (r : (Int × Int × Int × Int × Int × Int × Int × Int × Int × Int)) : St := ⟨(zay p0 p1 v1 v7 r s2_16), ⟨[(zc 2 (za p0)), (16, (.cells [(xi r.2.2.2.2.2.2.2.2.1), (xi r.2.2.2.2.2.2.2.2.2)]))], []⟩, []⟩
noncomputable def zTx (p0 : zb) (p1 : (SL Int)) (v1 : zt8) (v7 : zt9) (r : zt11) (s2_16 : Int) : TM := z5h p0 p1 v1 v7 ++ [(70, (xb false)), (9, (xi r.1)), (10, (xi s2_16)), (74, (xb true)), (11, (xi r.2.1)), (12, (xi r.2.2)), (83, (xb false))]
noncomputable def z5c (p0 : zb) (p1 : (SL Int)) (v1 : zt8) (v7 : zt9) (s2_16 : Int) (r : zt11) : St := ⟨(zTx p0 p1 v1 v7 r s2_16), ⟨[(zc 2 (za p0))], []⟩, []⟩
noncomputable def zQi (p0 : zb) (p1 : (SL Int)) (v1 : zt8) (v7 : zt9) (s2_16 : Int) : ((Int × Int × Int × Int) ⊕ ((Int × Int × Int × Int × Int × Int × Int × Int × Int × Int) ⊕ (Int × Int × Int))) → Ex × St := Sum.elim (fun r => (.ret, zad p0 p1 v1 v7 s2_16 r)) (Sum.elim (fun r => (.ret, z9c p0 p1 v1 v7 s2_16 r)) (fun r => ((.exit 2), z5c p0 p1 v1 v7 s2_16 r)))
theorem z7c (k : Nat) (p0 : zb) (p1 : (SL Int)) (v1 : zt8) (v7 : zt9) (s2_16 s6_15 s6_18 s6_19 : Int) (x : (Int × Int × Int) ⊕ ((Int × Int × Int × Int) ⊕ ((Int × Int × Int × Int × Int × Int × Int × Int × Int × Int) ⊕ (Int × Int × Int)))) (h : zwb k p0 p1 v1 v7 s2_16 s6_15 s6_18 s6_19 = some x) : zD TE 7 (blk TE 7 2) (fun s : (Int × Int × Int) => zPi p0 p1 v1 v7 s2_16 s.1 s.2.1 s.2.2) (zQi p0 p1 v1 v7 s2_16) (s6_15, s6_18, s6_19) x := by
 unfold zwb at h
 refine zi h (fun v801 h802 g1 => ?_)
 refine zm g1 (fun h803 g2 => ?_) (fun h803 g2 => ?_)
 ·refine zi g2 (fun v804 h805 g3 => ?_)
  refine zi g3 (fun v806 h807 g4 => ?_)
  refine zi g4 (fun v808 h809 g5 => ?_)
  refine zm g5 (fun h810 g6 => ?_) (fun h810 g6 => ?_)
  ·exact zqo [(7, 15, 3, .q (.d (.pin [(dl eI v801.1 v801.2)]))), (7, 15, 5, .q (xi (v801.1.length : Int))), (7, 15, 6, .q (xb true)), (7, 17, 2, .q (.d (.pin [(dl eI v804.1 v804.2)]))), (7, 17, 5, .q (.d (.pin [(di v806)]))), (7, 18, 3, .q (xi (p0.Slips.1.length : Int))), (7, 18, 5, .c (db v808)), (7, 18, 6, .q (xb true))] [] g6 (ob (o_ia (e := (eL eI)) 1 h802 rfl) (ob (zq eI v801.1) (ob (o_b h803) (ob (o_ia (e := (eL eI)) 1 h805 rfl) (ob (o_ia (e := eI) 1 h807 rfl) (ob (zq zk p0.Slips.1) (ob (zG k v806 0 (w64 ((p0.Slips.1.length : Int) - 1)) _ h809) (ob (o_b h810) ob0)))))))) (by kernel_rfl)
  ·refine zi g6 (fun v811 h812 g7 => ?_)
   refine zi g7 (fun v813 h814 g8 => ?_)
   refine zi g8 (fun v815 h816 g9 => ?_)
   refine zm g9 (fun h817 g10 => ?_) (fun h817 g10 => ?_)
   ·cases g10
   ·refine zi g10 (fun v818 h819 g11 => ?_)
    refine zm g11 (fun h820 g12 => ?_) (fun h820 g12 => ?_)
    ·subst h820
     exact zqo [(7, 15, 3, .q (.d (.pin [(dl eI v801.1 v801.2)]))), (7, 15, 5, .q (xi (v801.1.length : Int))), (7, 15, 6, .q (xb true)), (7, 17, 2, .q (.d (.pin [(dl eI v804.1 v804.2)]))), (7, 17, 5, .q (.d (.pin [(di v806)]))), (7, 18, 3, .q (xi (p0.Slips.1.length : Int))), (7, 18, 5, .c (db v808)), (7, 18, 6, .q (xb false)), (7, 20, 2, .c (.tup [(di v811.1), (di v811.2)])), (7, 21, 2, .c (.tup [(.agg [(di v813.1.Low), (di v813.1.High)]), (di v813.2)])), (7, 22, 4, .c (di v815)), (7, 23, 5, .q (xi (zn 1 v806)))] [(7, 1000024, (.nor, zX p0 p1 v1 v7 s2_16 s6_15 s6_18 s6_19 v806 v811 v813 v815 true))] g12 (ob (o_ia (e := (eL eI)) 1 h802 rfl) (ob (zq eI v801.1) (ob (o_b h803) (ob (o_ia (e := (eL eI)) 1 h805 rfl) (ob (o_ia (e := eI) 1 h807 rfl) (ob (zq zk p0.Slips.1) (ob (zG k v806 0 (w64 ((p0.Slips.1.length : Int) - 1)) _ h809) (ob (o_b h810) (ob (z5i k p0 v806 _ h812) (ob (z6i k p0 v806 _ h814) (ob (zxg k p0 v806 v811.1 p1 _ h816) (ob (zFb (x := 1) h817) (ob (zVe k p0 p1 v1 v7 s2_16 s6_15 s6_18 s6_19 v806 v811 v813 v815 _ h819) ob0))))))))))))) (by kernel_rfl)
    ·subst h820
     exact zqn ((or64 s6_15 (zn 1 v806)), (w64 (s6_18 + v815)), (w64 (s6_19 + 1))) [] [(7, 15, 3, .q (.d (.pin [(dl eI v801.1 v801.2)]))), (7, 15, 5, .q (xi (v801.1.length : Int))), (7, 15, 6, .q (xb true)), (7, 17, 2, .q (.d (.pin [(dl eI v804.1 v804.2)]))), (7, 17, 5, .q (.d (.pin [(di v806)]))), (7, 18, 3, .q (xi (p0.Slips.1.length : Int))), (7, 18, 5, .c (db v808)), (7, 18, 6, .q (xb false)), (7, 20, 2, .c (.tup [(di v811.1), (di v811.2)])), (7, 21, 2, .c (.tup [(.agg [(di v813.1.Low), (di v813.1.High)]), (di v813.2)])), (7, 22, 4, .c (di v815)), (7, 23, 5, .q (xi (zn 1 v806)))] [(7, 1000024, (.nor, zX p0 p1 v1 v7 s2_16 s6_15 s6_18 s6_19 v806 v811 v813 v815 false))] g12 (ob (o_ia (e := (eL eI)) 1 h802 rfl) (ob (zq eI v801.1) (ob (o_b h803) (ob (o_ia (e := (eL eI)) 1 h805 rfl) (ob (o_ia (e := eI) 1 h807 rfl) (ob (zq zk p0.Slips.1) (ob (zG k v806 0 (w64 ((p0.Slips.1.length : Int) - 1)) _ h809) (ob (o_b h810) (ob (z5i k p0 v806 _ h812) (ob (z6i k p0 v806 _ h814) (ob (zxg k p0 v806 v811.1 p1 _ h816) (ob (zFb (x := 1) h817) (ob (zVe k p0 p1 v1 v7 s2_16 s6_15 s6_18 s6_19 v806 v811 v813 v815 _ h819) ob0))))))))))))) (by kernel_rfl)
 ·exact zqo [(7, 15, 3, .q (.d (.pin [(dl eI v801.1 v801.2)]))), (7, 15, 5, .q (xi (v801.1.length : Int))), (7, 15, 6, .q (xb false))] [] g2 (ob (o_ia (e := (eL eI)) 1 h802 rfl) (ob (zq eI v801.1) (ob (o_b h803) ob0))) (by kernel_rfl)
noncomputable def zNi (p0 : zb) (p1 : (SL Int)) (v1 : zt8) (v7 : zt9) (s2_15 s2_16 : Int) : St := ⟨(z5h p0 p1 v1 v7 ++ [(70, (xb false)), (9, (xi s2_15)), (10, (xi s2_16))]), ⟨[(zc 2 (za p0))], []⟩, []⟩
noncomputable def z1x (p0 : zb) (p1 : (SL Int)) (v1 : zt8) (v7 : zt9) (r : (Int × Int × Int × Int × Int)) : TM := z5h p0 p1 v1 v7 ++ [(70, (xb false)), (9, (xi r.1)), (10, (xi r.2.1)), (74, (xb true)), (11, (xi r.2.2.1)), (12, (xi r.2.2.2.1)), (83, (xb true)), (13, (xi r.2.2.2.2)), (99, (xb true))]
noncomputable def z8c (p0 : zb) (p1 : (SL Int)) (v1 : zt8) (v7 : zt9) (r : (Int × Int × Int × Int × Int)) : St := ⟨(z1x p0 p1 v1 v7 r), ⟨[(zc 2 (za p0))], []⟩, []⟩
noncomputable def zcy (p0 : zb) (p1 : (SL Int)) (v1 : zt8) (v7 : zt9) (r : (Int × Int × Int × Int × Int × Int × Int × Int × Int × Int × Int)) : TM := z5h p0 p1 v1 v7 ++ [(70, (xb false)), (9, (xi r.1)), (10, (xi r.2.1)), (74, (xb true)), (11, (xi r.2.2.1)), (12, (xi r.2.2.2.1)), (83, (xb true)), (13, (xi r.2.2.2.2.1)), (99, (xb false)), (14, (xi r.2.2.2.2.2.1)), (15, (xi r.2.2.2.2.2.2.1)), (zsp 16), (17, (xi r.2.2.2.2.2.2.2.1)), (18, (xi r.2.2.2.2.2.2.2.2.1)), (154, (xb true))]
noncomputable def z4c (p0 : zb) (p1 : (SL Int)) (v1 : zt8) (v7 : zt9) (r : (Int × Int × Int × Int × Int × Int × Int × Int × Int × Int × Int)) : St := ⟨(zcy p0 p1 v1 v7 r), ⟨[(zc 2 (za p0)), (16, (.cells [(xi r.2.2.2.2.2.2.2.2.2.1), (xi r.2.2.2.2.2.2.2.2.2.2)]))], []⟩, []⟩
noncomputable def z6b (p0 : zb) (p1 : (SL Int)) (v1 : zt8) (v7 : zt9) (r : (Int × Int)) : St := ⟨(z5h p0 p1 v1 v7 ++ [(70, (xb false)), (9, (xi r.1)), (10, (xi r.2)), (74, (xb false))]), ⟨[(zc 2 (za p0))], []⟩, []⟩
noncomputable def zKi (p0 : zb) (p1 : (SL Int)) (v1 : zt8) (v7 : zt9) : ((Int × Int × Int × Int × Int) ⊕ ((Int × Int × Int × Int × Int × Int × Int × Int × Int × Int × Int) ⊕ (Int × Int))) → Ex × St := Sum.elim (fun r => (.ret, z8c p0 p1 v1 v7 r)) (Sum.elim (fun r => (.ret, z4c p0 p1 v1 v7 r)) (fun r => ((.exit 0), z6b p0 p1 v1 v7 r)))
theorem z3c (k : Nat) (p0 : zb) (p1 : (SL Int)) (v1 : zt8) (v7 : zt9) (s2_15 s2_16 : Int) (x : (Int × Int) ⊕ ((Int × Int × Int × Int × Int) ⊕ ((Int × Int × Int × Int × Int × Int × Int × Int × Int × Int × Int) ⊕ (Int × Int)))) (h : zVb k p0 p1 v1 v7 s2_15 s2_16 = some x) : zD TE 7 (blk TE 7 0) (fun s : (Int × Int) => zNi p0 p1 v1 v7 s.1 s.2) (zKi p0 p1 v1 v7) (s2_15, s2_16) x := by
 unfold zVb at h
 refine zm h (fun h601 g1 => ?_) (fun h601 g1 => ?_)
 ·refine zi g1 (fun v602 h603 g2 => ?_)
  refine zSb g2 (fun v605 hh g3_0 => ?_) (fun w2_0 hh g3_0 => ?_)
  ·subst hh
   exact zqo [(7, 11, 2, .q (xi (v1.1.1.length : Int))), (7, 11, 3, .q (xb true))] [(7, 2, (.ret, zad p0 p1 v1 v7 s2_16 v605))] g3_0 (ob (zq (eL eI) v1.1.1) (ob (o_b h601) (ob (zx (id := 2) (r' := (.ret, zad p0 p1 v1 v7 s2_16 v605)) (zMl (z7c k p0 p1 v1 v7 s2_16) k _ _ h603) rfl) ob0))) (by kernel_rfl)
  ·subst hh
   refine zSb g3_0 (fun v605 hh g3_1 => ?_) (fun v605 hh g3_1 => ?_)
   ·subst hh
    exact zqo [(7, 11, 2, .q (xi (v1.1.1.length : Int))), (7, 11, 3, .q (xb true))] [(7, 2, (.ret, z9c p0 p1 v1 v7 s2_16 v605))] g3_1 (ob (zq (eL eI) v1.1.1) (ob (o_b h601) (ob (zx (id := 2) (r' := (.ret, z9c p0 p1 v1 v7 s2_16 v605)) (zMl (z7c k p0 p1 v1 v7 s2_16) k _ _ h603) rfl) ob0))) (by kernel_rfl)
   ·subst hh
    exact zqn (v605.1, (w64 (s2_16 + 1))) [] [(7, 11, 2, .q (xi (v1.1.1.length : Int))), (7, 11, 3, .q (xb true))] [(7, 2, (.nor, z5c p0 p1 v1 v7 s2_16 v605))] g3_1 (ob (zq (eL eI) v1.1.1) (ob (o_b h601) (ob (zx (id := 2) (r' := (.nor, z5c p0 p1 v1 v7 s2_16 v605)) (zMl (z7c k p0 p1 v1 v7 s2_16) k _ _ h603) rfl) ob0))) (by kernel_rfl)
 ·exact zqo [(7, 11, 2, .q (xi (v1.1.1.length : Int))), (7, 11, 3, .q (xb false))] [] g1 (ob (zq (eL eI) v1.1.1) (ob (o_b h601) ob0)) (by kernel_rfl)
theorem ztj (k : Nat) (p0 : zb) (p1 : (SL Int)) (r : Bool) (h : zPb k p0 p1 = some r) : zA TE (ev TE) 7 [(.agg (za p0)), (dl eI p1.1 p1.2)] = some (zJ r) := by
 unfold zPb at h
 refine zi h (fun v1 h2 g1 => ?_)
 refine zi g1 (fun v3 h4 g2 => ?_)
 have y1 := fun (d : D) (P : List Prop) (V : Ovs) (C : Cuts) (q : All P) h => (zqc ([(7, 1, 1, .c (.tup [(dl (eL eI) v1.1.1 v1.1.2), (di v1.2)])), (7, 2, 1, .c (db v3))] ++ V) C (ob (zfm k p0 _ h2) (ob (zPl k p0 _ h4) q)) h : zA TE (ev TE) 7 [(.agg (za p0)), (dl eI p1.1 p1.2)] = some d)
 refine zm g2 (fun h5 g3 => ?_) (fun h5 g3 => ?_)
 ·refine zm g3 (fun h6 g4 => ?_) (fun h6 g4 => ?_)
  ·refine zm g4 (fun h7 g5 => ?_) (fun h7 g5 => ?_)
   ·refine zi g5 (fun v8 h9 g6 => ?_)
    exact zy (g := zJ) g6 (y1 _ _ [(7, 2, 2, .q (xb true)), (7, 3, 2, .q (xb true)), (7, 3, 4, .q (xi (v1.1.1.length : Int))), (7, 3, 7, .q (xb true)), (7, 3, 8, .c (db v8))] [] (ob (o_b h5) (ob (o_b h6) (ob (zq (eL eI) v1.1.1) (ob (o_b h7) (ob (zCe k _ h9) ob0))))) (by kernel_rfl))
   ·exact zy (g := zJ) g5 (y1 _ _ [(7, 2, 2, .q (xb true)), (7, 3, 2, .q (xb true)), (7, 3, 4, .q (xi (v1.1.1.length : Int))), (7, 3, 7, .q (xb false))] [] (ob (o_b h5) (ob (o_b h6) (ob (zq (eL eI) v1.1.1) (ob (o_b h7) ob0)))) (by kernel_rfl))
  ·exact zy (g := zJ) g4 (y1 _ _ [(7, 2, 2, .q (xb true)), (7, 3, 2, .q (xb false))] [] (ob (o_b h5) (ob (o_b h6) ob0)) (by kernel_rfl))
 ·have y2 := fun (d : _) (P : List Prop) (V : Ovs) (C : Cuts) (q : All P) h => y1 d _ ([(7, 2, 2, .q (xb false))] ++ V) C (ob (o_b h5) q) h
  refine zm g3 (fun h6 g4 => ?_) (fun h6 g4 => ?_)
  ·refine zm g4 (fun h7 g5 => ?_) (fun h7 g5 => ?_)
   ·refine zm g5 (fun h8 g6 => ?_) (fun h8 g6 => ?_)
    ·refine zi g6 (fun v9 h10 g7 => ?_)
     exact zy (g := zJ) g7 (y2 _ _ [(7, 4, 1, .q (xb true)), (7, 5, 2, .q (xb true)), (7, 5, 4, .q (xi (v1.1.1.length : Int))), (7, 5, 7, .q (xb true)), (7, 5, 8, .c (db v9))] [] (ob (o_b h6) (ob (o_b h7) (ob (zq (eL eI) v1.1.1) (ob (o_b h8) (ob (zCe k _ h10) ob0))))) (by kernel_rfl))
    ·exact zy (g := zJ) g6 (y2 _ _ [(7, 4, 1, .q (xb true)), (7, 5, 2, .q (xb true)), (7, 5, 4, .q (xi (v1.1.1.length : Int))), (7, 5, 7, .q (xb false))] [] (ob (o_b h6) (ob (o_b h7) (ob (zq (eL eI) v1.1.1) (ob (o_b h8) ob0)))) (by kernel_rfl))
   ·exact zy (g := zJ) g5 (y2 _ _ [(7, 4, 1, .q (xb true)), (7, 5, 2, .q (xb false))] [] (ob (o_b h6) (ob (o_b h7) ob0)) (by kernel_rfl))
  ·refine zi g4 (fun v7 h8 g5 => ?_)
   refine zi g5 (fun v9 h10 g6 => ?_)
   have y3 := fun (d : _) (P : List Prop) (V : Ovs) (C : Cuts) (q : All P) h => y2 d _ ([(7, 4, 1, .q (xb false)), (7, 6, 2, .c (.tup [(dl zr v7.1.1 v7.1.2), (di v7.2)]))] ++ V) C (ob (o_b h6) (ob (zln k p0 v1.1 _ h8) (ob (zqi k p0 p1 v1 v7 _ h10) q))) h
   refine zm g6 (fun h11 g7 => ?_) (fun h11 g7 => ?_)
   ·subst h11
    exact zy (g := zJ) g7 (y3 _ _ [] [(7, 1000007, (.nor, zV p0 p1 v1 v7 true))] ob0 (by kernel_rfl))
   ·subst h11
    refine zi g7 (fun v12 h13 g8 => ?_)
    refine zSb g8 (fun v15 hh g9_0 => ?_) (fun w8_0 hh g9_0 => ?_)
    ·subst hh
     exact zy (g := zJ) g9_0 (y3 _ _ [] [(7, 1000007, (.nor, zV p0 p1 v1 v7 false)), (7, 0, (.ret, z8c p0 p1 v1 v7 v15))] (ob (zx (id := 0) (r' := (.ret, z8c p0 p1 v1 v7 v15)) (zIb (z3c k p0 p1 v1 v7) k _ _ h13) rfl) ob0) (by kernel_rfl))
    ·subst hh
     refine zSb g9_0 (fun v15 hh g9_1 => ?_) (fun v15 hh g9_1 => ?_)
     ·subst hh
      exact zy (g := zJ) g9_1 (y3 _ _ [] [(7, 1000007, (.nor, zV p0 p1 v1 v7 false)), (7, 0, (.ret, z4c p0 p1 v1 v7 v15))] (ob (zx (id := 0) (r' := (.ret, z4c p0 p1 v1 v7 v15)) (zIb (z3c k p0 p1 v1 v7) k _ _ h13) rfl) ob0) (by kernel_rfl))
     ·subst hh
      have y4 := fun (d : _) (P : List Prop) (V : Ovs) (C : Cuts) (q : All P) h => y3 d _ ([(7, 26, 3, .q (xi (p0.Slips.1.length : Int))), (7, 26, 4, .q (xi (zn 1 (p0.Slips.1.length : Int))))] ++ V) C (ob (zx (id := 0) (r' := (.nor, z6b p0 p1 v1 v7 v15)) (zIb (z3c k p0 p1 v1 v7) k _ _ h13) rfl) (ob (zq zk p0.Slips.1) q)) h
      refine zm g9_1 (fun h16 g10 => ?_) (fun h16 g10 => ?_)
      ·cases g10
      ·refine zm g10 (fun h17 g11 => ?_) (fun h17 g11 => ?_)
       ·refine zi g11 (fun v18 h19 g12 => ?_)
        exact zy (g := zJ) g12 (y4 _ _ [(7, 26, 7, .q (xb true)), (7, 26, 8, .c (db v18))] [(7, 1000007, (.nor, zV p0 p1 v1 v7 false)), (7, 0, (.nor, z6b p0 p1 v1 v7 v15))] (ob (zFb (x := 1) h16) (ob (o_b h17) (ob (zCe k _ h19) ob0))) (by kernel_rfl))
       ·exact zy (g := zJ) g11 (y4 _ _ [(7, 26, 7, .q (xb false))] [(7, 1000007, (.nor, zV p0 p1 v1 v7 false)), (7, 0, (.nor, z6b p0 p1 v1 v7 v15))] (ob (zFb (x := 1) h16) (ob (o_b h17) ob0)) (by kernel_rfl))
end Go.AM

namespace Go.AM
open Go
def Ok {α : Type} (o : Option α) (Q : α → Prop) : Prop := ∃ a, o = some a ∧ Q a
section
variable {α β : Type}
theorem Ok.pure {a : α} {Q : α → Prop} (h : Q a) : Ok (some a) Q := ⟨a, rfl, h⟩
theorem Ok.bind {o : Option α} {g : α → Option β} {P : α → Prop} {Q : β → Prop} (h : Ok o P) (hg : ∀ a, P a → Ok (g a) Q) : Ok (o.bind g) Q := by
 obtain ⟨a, rfl, ha⟩ := h
 exact hg a ha
theorem Ok.mono {o : Option α} {P Q : α → Prop} (h : Ok o P) (hq : ∀ a, P a → Q a) : Ok o Q := by
 obtain ⟨a, ha, hp⟩ := h
 exact ⟨a, ha, hq a hp⟩
theorem Ok.cond {b : Bool} {x y : Option α} {Q : α → Prop} (ht : b = true → Ok x Q) (hf : b = false → Ok y Q) : Ok (cond b x y) Q := by
 cases b
 ·exact hf rfl
 ·exact ht rfl
theorem Ok.eq {o : Option α} {a : α} (h : Ok o (· = a)) : o = some a := by
 obtain ⟨b, hb, rfl⟩ := h
 exact hb
theorem Ok.imp {o : Option α} {a : α} {Q : α → Prop} (h : Ok o Q) (ho : o = some a) : Q a := by
 obtain ⟨b, hb, hq⟩ := h
 rw [ho] at hb; cases hb; exact hq
theorem Ok.iter {S R : Type} {f : S → Option (S ⊕ R)} {Q : R → Prop} (I : Nat → S → Prop) (n : Nat)
  (h : ∀ j s, j ≤ n → I j s → Ok (f s) (fun x => match x with
   | .inl s' => j < n ∧ I (j + 1) s'
   | .inr r => Q r)) {k : Nat} {s : S} (h0 : I 0 s) (hk : n < k) : Ok (Go.AM.iter f k s) Q := by
 suffices ∀ m j s, j + m = n → I j s → ∀ k, m < k → Ok (Go.AM.iter f k s) Q from this n 0 s (by omega) h0 k hk
 intro m
 induction m with
 | zero =>
  intro j s hj hi k hk
  obtain ⟨k, rfl⟩ : ∃ k', k = k' + 1 := ⟨k - 1, by omega⟩
  obtain ⟨x, hx, hq⟩ := h j s (by omega) hi
  cases x with
  | inl s' => exact absurd hq.1 (by omega)
  | inr r => exact ⟨r, by simp [Go.AM.iter, hx], hq⟩
 | succ m ih =>
  intro j s hj hi k hk
  obtain ⟨k, rfl⟩ : ∃ k', k = k' + 1 := ⟨k - 1, by omega⟩
  obtain ⟨x, hx, hq⟩ := h j s (by omega) hi
  cases x with
  | inl s' =>
   obtain ⟨r, hr, hq'⟩ := ih (j + 1) s' (by omega) hq.2 k (by omega)
   exact ⟨r, by simp [Go.AM.iter, hx, hr], hq'⟩
  | inr r => exact ⟨r, by simp [Go.AM.iter, hx], hq⟩
def Goes {S R : Type} (I : S → Prop) (Q : R → Prop) : S ⊕ R → Prop
 | .inl s => I s
 | .inr r => Q r
theorem Ok.count {S R : Type} {f : S → Option (S ⊕ R)} {Q : R → Prop} (n : Nat) (I : Nat → S → Prop)
  (next : ∀ j s, j < n → I j s → Ok (f s) (Goes (I (j + 1)) Q))
  (last : ∀ s, I n s → Ok (f s) (Goes (fun _ => False) Q)) {k : Nat} {s : S} (h0 : I 0 s) (hk : n < k) : Ok (Go.AM.iter f k s) Q := by
 refine Ok.iter I n (fun j s hj hi => ?_) h0 hk
 by_cases h : j < n
 ·refine (next j s h hi).mono fun x hx => ?_
  cases x with
  | inl s' => exact ⟨h, hx⟩
  | inr r => exact hx
 ·obtain rfl : j = n := by omega
  refine (last s hi).mono fun x hx => ?_
  cases x with
  | inl s' => exact hx.elim
  | inr r => exact hx
end
theorem zR {n : Int} (h1 : -9223372036854775808 ≤ n) (h2 : n ≤ 9223372036854775807) : w64 n = n := by
 have hd : w64 n = if n % 18446744073709551616 ≥ 9223372036854775808 then n % 18446744073709551616 - 18446744073709551616 else n % 18446744073709551616 := by
  show IntKind.wrap .i64 n = _
  have e : IntKind.wrap .i64 n = if (true && decide (n % 18446744073709551616 ≥ 9223372036854775808)) = true then n % 18446744073709551616 - 18446744073709551616 else n % 18446744073709551616 := rfl
  rw [e]
  simp
 rw [hd]
 split <;> omega
theorem zlx {α : Type} {l : List α} {i : Int} (h0 : 0 ≤ i) (h : i.toNat < l.length) : idx l i = some l[i.toNat] := by
 simp [idx, h0, List.getElem?_eq_getElem h]
theorem zAb {α : Type} {l : List α} {i : Nat} (h : i < l.length) : idx l (i : Int) = some l[i] := by
 simp [idx, List.getElem?_eq_getElem h]
theorem zPq {n : Nat} (h : n ≤ 62) : zn 1 (n : Int) = 2 ^ n := by
 unfold zn
 have hm : min (n : Int).toNat 64 = n := by omega
 rw [hm, Int.one_mul, zR]
 ·have : (0 : Int) < 2 ^ n := Int.pow_pos (by omega)
  omega
 ·have h2 : (2 : Nat) ^ n ≤ 2 ^ 62 := Nat.pow_le_pow_right (by omega) h
  have h3 : ((2 ^ n : Nat) : Int) ≤ ((2 ^ 62 : Nat) : Int) := by exact_mod_cast h2
  have h4 : ((2 ^ n : Nat) : Int) = (2 : Int) ^ n := by push_cast; rfl
  rw [← h4]; omega
theorem zCu {x i : Nat} (hi : i < 64) (hx : x < 2 ^ 63) : (zfd (zwj (x : Int) (i : Int)) 1 == 1) = x.testBit i := by
 have hm : min (i : Int).toNat 64 = i := by omega
 have hs : zwj (x : Int) (i : Int) = ((x >>> i : Nat) : Int) := by
  unfold zwj
  rw [hm, Nat.shiftRight_eq_div_pow]
  have : (2 : Int) ^ i = ((2 ^ i : Nat) : Int) := by push_cast; rfl
  rw [this, ← Int.ofNat_fdiv]
 have hle : x >>> i < 2 ^ 63 := by
  rw [Nat.shiftRight_eq_div_pow]
  exact Nat.lt_of_le_of_lt (Nat.div_le_self _ _) hx
 rw [hs]
 unfold zfd
 have hb : (BitVec.ofInt 64 ((x >>> i : Nat) : Int) &&& BitVec.ofInt 64 1).toNat = (x >>> i) % 2 := by
  rw [BitVec.toNat_and, BitVec.ofInt_natCast, BitVec.toNat_ofNat]
  have : (BitVec.ofInt 64 1).toNat = 1 := by decide
  rw [this, Nat.and_one_is_mod]
  omega
 rw [hb, zR (by omega) (by omega), Nat.testBit_eq_decide_div_mod_eq, Nat.shiftRight_eq_div_pow]
 generalize x / 2 ^ i % 2 = y at *
 cases h : decide (y = 1) <;> simp at h ⊢ <;> omega
def dif (x y : Nat) : Nat := x &&& (2 ^ 64 - 1 - y)
theorem zUq {x y : Nat} (hx : x < 2 ^ 63) (hy : y < 2 ^ 63) : zcb (x : Int) (y : Int) = ((dif x y : Nat) : Int) ∧ dif x y < 2 ^ 63 ∧ dif x y ≤ x ∧ ∀ i, (dif x y).testBit i = (x.testBit i && !y.testBit i) := by
 unfold dif
 have hb : (BitVec.ofInt 64 (x : Int) &&& ~~~ BitVec.ofInt 64 (y : Int)).toNat = x &&& (2 ^ 64 - 1 - y) := by
  rw [BitVec.toNat_and, BitVec.toNat_not, BitVec.ofInt_natCast, BitVec.ofInt_natCast, BitVec.toNat_ofNat, BitVec.toNat_ofNat, Nat.mod_eq_of_lt (by omega), Nat.mod_eq_of_lt (by omega)]
 refine ⟨?_, ?_, ?_, ?_⟩
 ·unfold zcb
  rw [hb, zR]
  ·omega
  ·have : x &&& (2 ^ 64 - 1 - y) ≤ x := Nat.and_le_left
   omega
 ·exact Nat.lt_of_le_of_lt Nat.and_le_left hx
 ·exact Nat.and_le_left
 ·intro i
  rw [Nat.testBit_and]
  have h1 : 2 ^ 64 - 1 - y = 2 ^ 64 - (y + 1) := by omega
  rw [h1, Nat.testBit_two_pow_sub_succ (by omega)]
  cases hxi : x.testBit i with
  | false => simp
  | true =>
   have : i < 63 := by
    apply Classical.byContradiction
    intro hn
    have : x < 2 ^ i := Nat.lt_of_lt_of_le hx (Nat.pow_le_pow_right (by omega) (by omega))
    rw [Nat.testBit_lt_two_pow this] at hxi
    cases hxi
   simp; omega
open Classical in
theorem zfs {κ ν : Type} {q : κ → κ → Bool} (hq : ∀ a b, q a b = true ↔ a = b) (k k' : κ) (v : ν) : ∀ m, zS q k' (mset q k v m) = if k' = k then some v else zS q k' m
 | [] => by
  simp only [mset, zS]
  by_cases h : k' = k
  ·rw [(hq k' k).2 h, if_pos h]; rfl
  ·have : q k' k = false := by cases hb : q k' k; rfl; exact absurd ((hq _ _).1 hb) h
   rw [this, if_neg h]; rfl
 | p :: t => by
  have ih := zfs hq k k' v t
  simp only [mset]
  cases hk : q k p.1 with
  | true =>
   have hk' := (hq _ _).1 hk
   simp only [cond_true, zS]
   by_cases h : k' = k
   ·rw [if_pos h, h, hk]; rfl
   ·have : q k' p.1 = false := by cases hb : q k' p.1; rfl; exact absurd ((hq _ _).1 hb) (by rw [← hk']; exact h)
    rw [this, if_neg h]; rfl
  | false =>
   simp only [cond_false, zS]
   cases hp : q k' p.1 with
   | true =>
    by_cases h : k' = k
    ·rw [h, hk] at hp; cases hp
    ·rw [if_neg h]; rfl
   | false => exact ih
end Go.AM
set_option linter.unusedVariables false
namespace Go.AM
open Go
theorem zTd (c x : Bool) : cond c (some x) (some false) = some (c && x) := by cases c <;> rfl
theorem zub {j n : Nat} (h : j < n) (hn : n < 9223372036854775808) : w64 ((j : Int) + 1) = ((j + 1 : Nat) : Int) := by
 rw [zR (by omega) (by omega)]; push_cast; rfl
theorem zpm {n : Nat} (hn : n < 9223372036854775808) : w64 ((n : Int) - 1) = (n : Int) - 1 := zR (by omega) (by omega)
theorem zic {α : Type} {j : Nat} {l : List α} (h : j < l.length) : decide ((j : Int) < (l.length : Int)) = true := by simp; omega
theorem zne {α : Type} {l : List α} : decide ((l.length : Int) < (l.length : Int)) = false := by simp
theorem Ok.everyI {α : Type} {f : Bool × Int → Option ((Bool × Int) ⊕ (Bool × Int))} (l : List α) (p : Nat → α → Prop)
  (next : ∀ acc (j : Nat) (h : j < l.length), Ok (f (acc, (j : Int))) (fun x => ∃ r, x = .inl (r, ((j + 1 : Nat) : Int)) ∧ (r = true ↔ acc = true ∧ p j l[j])))
  (last : ∀ acc, f (acc, (l.length : Int)) = some (.inr (acc, (l.length : Int)))) {k : Nat} {acc : Bool} (hk : l.length < k) :
  Ok (Go.AM.iter f k (acc, 0)) (fun r => r.1 = true ↔ acc = true ∧ ∀ j (h : j < l.length), p j l[j]) := by
 refine Ok.count l.length (fun j s => s.2 = (j : Int) ∧ (s.1 = true ↔ acc = true ∧ ∀ i (h : i < l.length), i < j → p i l[i])) ?_ ?_ ⟨rfl, by simp⟩ hk
 ·rintro j ⟨a, i⟩ hj ⟨hi, ha⟩
  obtain rfl : i = (j : Int) := hi
  refine (next a j hj).mono ?_
  rintro x ⟨r, rfl, hr⟩
  refine ⟨rfl, hr.trans ?_⟩
  rw [ha]
  constructor
  ·rintro ⟨⟨h1, h2⟩, h3⟩
   refine ⟨h1, fun i h hij => ?_⟩
   by_cases e : i = j
   ·subst e; exact h3
   ·exact h2 i h (by omega)
  ·rintro ⟨h1, h2⟩
   exact ⟨⟨h1, fun i h hij => h2 i h (by omega)⟩, h2 j hj (by omega)⟩
 ·rintro ⟨a, i⟩ ⟨hi, ha⟩
  obtain rfl : i = (l.length : Int) := hi
  rw [last a]
  refine Ok.pure ?_
  show a = true ↔ _
  rw [ha]
  exact ⟨fun h => ⟨h.1, fun i hi => h.2 i hi hi⟩, fun h => ⟨h.1, fun i hi _ => h.2 i hi⟩⟩
theorem Ok.everyWI {α : Type} {f : Bool × Int → Option ((Bool × Int) ⊕ (Bool × Int))} (l : List α) (p : Nat → α → Prop)
  (next : ∀ (j : Nat) (h : j < l.length), (∀ i (h : i < l.length), i < j → p i l[i]) → Ok (f (true, (j : Int))) (fun x => ∃ r, x = .inl (r, ((j + 1 : Nat) : Int)) ∧ (r = true ↔ p j l[j])))
  (out : ∀ i, f (false, i) = some (.inr (false, i)))
  (last : f (true, (l.length : Int)) = some (.inr (true, (l.length : Int)))) {k : Nat} {acc : Bool} (hk : l.length < k) :
  Ok (Go.AM.iter f k (acc, 0)) (fun r => r.1 = true ↔ acc = true ∧ ∀ j (h : j < l.length), p j l[j]) := by
 refine Ok.count l.length (fun j s => s.2 = (j : Int) ∧ (s.1 = true ↔ acc = true ∧ ∀ i (h : i < l.length), i < j → p i l[i])) ?_ ?_ ⟨rfl, by simp⟩ hk
 ·rintro j ⟨a, i⟩ hj ⟨hi, ha⟩
  obtain rfl : i = (j : Int) := hi
  cases a with
  | false =>
   rw [out]
   refine Ok.pure ?_
   constructor
   ·intro h; cases h
   ·rintro ⟨h1, h2⟩
    exact ha.2 ⟨h1, fun i h _ => h2 i h⟩
  | true =>
   obtain ⟨h1, h2⟩ := ha.1 rfl
   refine (next j hj h2).mono ?_
   rintro x ⟨r, rfl, hr⟩
   refine ⟨rfl, hr.trans ?_⟩
   constructor
   ·intro h3
    refine ⟨h1, fun i h hij => ?_⟩
    by_cases e : i = j
    ·subst e; exact h3
    ·exact h2 i h (by omega)
   ·rintro ⟨_, h3⟩
    exact h3 j hj (by omega)
 ·rintro ⟨a, i⟩ ⟨hi, ha⟩
  obtain rfl : i = (l.length : Int) := hi
  have fin : a = true ↔ acc = true ∧ ∀ j (h : j < l.length), p j l[j] := ⟨fun h => ⟨(ha.1 h).1, fun j hj => (ha.1 h).2 j hj hj⟩, fun h => ha.2 ⟨h.1, fun j hj _ => h.2 j hj⟩⟩
  cases a with
  | false => rw [out]; exact Ok.pure fin
  | true => rw [last]; exact Ok.pure fin
def ex (f : Nat → Nat) : Nat → List Nat
 | 0 => []
 | m + 1 => List.replicate (f m) m ++ ex f m
def hi (f : Nat → Nat) (m : Nat) : Nat → List Nat
 | 0 => []
 | d + 1 => List.replicate (f (m + d)) (m + d) ++ hi f m d
theorem zls (f : Nat → Nat) (m : Nat) : ∀ d, hi f m (d + 1) = hi f (m + 1) d ++ List.replicate (f m) m
 | 0 => by simp [hi]
 | d + 1 => by
  have ih := zls f m d
  rw [hi, ih, hi]
  have : m + 1 + d = m + (d + 1) := by omega
  rw [this, List.append_assoc]
theorem zMo {f g : Nat → Nat} {m : Nat} : ∀ {d}, (∀ j, m ≤ j → j < m + d → f j = g j) → hi f m d = hi g m d
 | 0, _ => rfl
 | d + 1, h => by
  rw [hi, hi, h (m + d) (by omega) (by omega), zMo fun j h1 h2 => h j h1 (by omega)]
theorem zct (f : Nat → Nat) : ∀ n, hi f 0 n = ex f n
 | 0 => rfl
 | n + 1 => by rw [hi, ex, zct f n]; simp
theorem z5p {f : Nat → Nat} : ∀ {n}, ex f n = [] ↔ ∀ j, j < n → f j = 0
 | 0 => by simp [ex]
 | n + 1 => by
  rw [ex, List.append_eq_nil_iff, z5p, List.replicate_eq_nil_iff]
  constructor
  ·rintro ⟨h1, h2⟩ j hj
   by_cases e : j = n
   ·rw [e]; exact h1
   ·exact h2 j (by omega)
  ·intro h
   exact ⟨h n (by omega), fun j hj => h j (by omega)⟩
theorem zvu {f : Nat → Nat} {x : Nat} : ∀ {n}, x ∈ ex f n → x < n ∧ 0 < f x
 | 0, h => by simp [ex] at h
 | n + 1, h => by
  rw [ex, List.mem_append, List.mem_replicate] at h
  rcases h with ⟨h1, rfl⟩ | h
  ·exact ⟨by omega, by omega⟩
  ·have := zvu h
   exact ⟨by omega, this.2⟩
theorem zmn {f : Nat → Nat} {b : Nat} : ∀ {n}, (∀ j, j < n → f j ≤ b) → (ex f n).length ≤ b * n
 | 0, _ => by simp [ex]
 | n + 1, h => by
  have := zmn (n := n) fun j hj => h j (by omega)
  have := h n (by omega)
  rw [ex, List.length_append, List.length_replicate, Nat.mul_succ]
  omega
theorem z4v (r c m : Nat) (t : List Nat) : (List.replicate c m ++ t).drop r = List.replicate (c - r) m ++ t.drop (r - c) := by
 rw [List.drop_append, List.drop_replicate, List.length_replicate]
theorem zGv (r c m : Nat) (t : List Nat) : (List.replicate c m ++ t).take r = List.replicate (min r c) m ++ t.take (r - c) := by
 rw [List.take_append, List.take_replicate, List.length_replicate]
def topF (b : Nat → Nat) (far : Nat → Int) : Nat → Int
 | 0 => 0
 | j + 1 => if 0 < b j then far j else topF b far j
theorem zst {b : Nat → Nat} {far : Nat → Int} {x : Nat} {t : List Nat} : ∀ {n}, ex b n = x :: t → topF b far n = far x
 | 0, h => by simp [ex] at h
 | n + 1, h => by
  rw [ex] at h
  rw [topF]
  by_cases hb : 0 < b n
  ·rw [if_pos hb]
   obtain ⟨c, hc⟩ : ∃ c, b n = c + 1 := ⟨b n - 1, by omega⟩
   rw [hc, List.replicate_succ, List.cons_append] at h
   injection h with h1 h2
   rw [h1]
  ·rw [if_neg hb]
   have : b n = 0 := by omega
   rw [this] at h
   exact zst (by simpa using h)
def wk (C : Nat) (far : Nat → Int) : Nat → List Nat → Int
 | _, [] => 0
 | 0, x :: t => 2 * far x + wk C far (C - 1) t
 | r + 1, _ :: t => wk C far r t
theorem zrt (C : Nat) (far : Nat → Int) : ∀ (r : Nat) (l : List Nat), wk C far r l = wk C far 0 (l.drop r)
 | 0, _ => by simp
 | r + 1, [] => by simp [wk]
 | r + 1, x :: t => by rw [wk, List.drop_succ_cons, zrt C far r t]
theorem zJw {C : Nat} (hC : 0 < C) (far : Nat → Int) (x : Nat) (t : List Nat) : wk C far 0 (x :: t) = 2 * far x + wk C far 0 ((x :: t).drop C) := by
 rw [wk, zrt C far (C - 1) t]
 obtain ⟨c, rfl⟩ : ∃ c, C = c + 1 := ⟨C - 1, by omega⟩
 simp
theorem z5m {C : Nat} {far : Nat → Int} {b : Int} (hb : 0 ≤ b) : ∀ (l : List Nat) (r : Nat), (∀ x ∈ l, 0 ≤ far x ∧ far x ≤ b) → 0 ≤ wk C far r l ∧ wk C far r l ≤ 2 * b * l.length
 | [], r, _ => by cases r <;> simp [wk]
 | x :: t, 0, h => by
  have := z5m (C := C) hb t (C - 1) fun y hy => h y (by simp [hy])
  have hx := h x (by simp)
  rw [wk, List.length_cons]
  push_cast
  rw [Int.mul_add]
  omega
 | x :: t, r + 1, h => by
  have := z5m (C := C) hb t r fun y hy => h y (by simp [hy])
  rw [wk, List.length_cons]
  push_cast
  rw [Int.mul_add]
  omega
end Go.AM
set_option linter.unusedVariables false
namespace Go.AM
open Go
abbrev nF (f : zb) : Nat := f.Far.1.length
abbrev nS (f : zb) : Nat := f.Slips.1.length
def fr (f : zb) (i : Nat) : Int := (f.Far.1[i]?).getD 0
theorem z9x {f : zb} {i : Nat} (h : i < nF f) : f.Far.1[i] = fr f i := by
 unfold fr
 rw [List.getElem?_eq_getElem h]; rfl
theorem zJn {f : zb} {i : Nat} (h : i < nF f) : idx f.Far.1 (i : Int) = some (fr f i) := by rw [zAb h, z9x h]
def frB (f : zb) : Nat → Int
 | 0 => 0
 | i + 1 => fr f i
def sh (l : List zl) (i : Nat) : Int := ((l[i]?).map (·.Shelf)).getD 0
def shB (l : List zl) : Nat → Int
 | 0 => -1
 | i + 1 => sh l i
theorem zkl {l : List zl} {i : Nat} (h : i < l.length) : l[i].Shelf = sh l i := by
 unfold sh
 rw [List.getElem?_eq_getElem h]; rfl
def z2b (lo hi : Int) (s : zo) : Prop := lo ≤ s.Low ∧ s.Low ≤ s.High ∧ s.High ≤ hi
def z6e (n : Nat) (l : List zl) : Prop := ∀ j (h : j < l.length), (shB l j + 1 ≤ l[j].Shelf ∧ l[j].Shelf ≤ (n : Int) - 1) ∧ (1 ≤ l[j].Many ∧ l[j].Many ≤ 20)
def zni (n : Nat) (s : zj) : Prop := ((0 ≤ s.Until ∧ s.Until ≤ 100000) ∧ 0 < s.Lines.1.length) ∧ z6e n s.Lines.1
structure Fine (f : zb) : Prop where
 nfar : 1 ≤ nF f ∧ nF f ≤ 12
 npick : f.Pick.1.length = nF f
 step : z2b 1 10 f.Step
 carry : 1 ≤ f.Carry ∧ f.Carry ≤ 20
 nslips : nS f ≤ 9
 far : ∀ i, i < nF f → frB f i ≤ fr f i ∧ fr f i ≤ 500
 pick : ∀ i (h : i < f.Pick.1.length), z2b 0 300 f.Pick.1[i]
 slips : ∀ i (h : i < nS f), zni (nF f) f.Slips.1[i]
structure zLb (f : zb) : Prop where
 far : nF f < 9223372036854775808
 pick : f.Pick.1.length < 9223372036854775808
 slips : nS f < 9223372036854775808
 lines : ∀ s ∈ f.Slips.1, s.Lines.1.length < 9223372036854775808
structure Fuel (k : Nat) (f : zb) : Prop where
 k0 : 5000 < k
 far : nF f < k
 pick : f.Pick.1.length < k
 slips : nS f < k
 lines : ∀ s ∈ f.Slips.1, s.Lines.1.length < k
theorem zhh (k : Nat) (a b c : Int) : znb k a b c = some (decide (b ≤ a) && decide (a ≤ c)) := by
 simp only [znb, zTd]
theorem z9g (k : Nat) (a b c : Int) : zN k a b c = some (decide (b ≤ a) && decide (a ≤ c)) := by
 simp only [zN, zTd]
theorem zdr (k : Nat) (s : zo) (a b : Int) : zEf k s a b = some (decide (a ≤ s.Low) && (decide (s.Low ≤ s.High) && decide (s.High ≤ b))) := by
 simp only [zEf, zTd]
theorem zYq (k : Nat) (s : zo) (a b : Int) : zGb k s a b = some (decide (a ≤ s.Low) && (decide (s.Low ≤ s.High) && decide (s.High ≤ b))) := by
 simp only [zGb, zTd]
theorem z9v (k : Nat) (f : zb) : Ok (zBf k f) (fun r => r = true ↔ (1 ≤ nF f ∧ nF f ≤ 12) ∧ f.Pick.1.length = nF f ∧ z2b 1 10 f.Step ∧ (1 ≤ f.Carry ∧ f.Carry ≤ 20) ∧ nS f ≤ 9) := by
 simp only [zBf, zhh, zdr, Option.bind_some, zTd]
 refine Ok.pure ?_
 simp only [Bool.and_eq_true, decide_eq_true_eq, beq_iff_eq, nF, nS, z2b]
 omega
theorem zWv {k : Nat} {f : zb} (hs : zLb f) (hk : Fuel k f) (acc : Bool) : Ok (iter (fun s => zhe k f s.1 s.2.1 s.2.2) k (acc, 0, 0)) (fun r => r.1 = true ↔ acc = true ∧ ∀ i, i < nF f → frB f i ≤ fr f i ∧ fr f i ≤ 500) := by
 refine Ok.count (nF f) (fun j s => s.2.2 = (j : Int) ∧ s.2.1 = frB f j ∧ (s.1 = true ↔ acc = true ∧ ∀ i, i < j → frB f i ≤ fr f i ∧ fr f i ≤ 500)) ?_ ?_ ⟨rfl, rfl, by simp⟩ hk.far
 ·rintro j ⟨a, d, i⟩ hj ⟨hi, hd, ha⟩
  obtain rfl : i = (j : Int) := hi
  obtain rfl : d = frB f j := hd
  simp only [zhe, zJg, zic hj, cond_true, zJn hj, zhh, Option.bind_some, zTd, zub hj hs.far]
  refine Ok.pure ⟨rfl, rfl, ?_⟩
  simp only [Bool.and_eq_true, decide_eq_true_eq]
  have ha' : a = true ↔ acc = true ∧ ∀ i, i < j → frB f i ≤ fr f i ∧ fr f i ≤ 500 := ha
  rw [ha']
  constructor
  ·rintro ⟨⟨h1, h2⟩, h3⟩
   refine ⟨h1, fun i hij => ?_⟩
   by_cases e : i = j
   ·subst e; exact h3
   ·exact h2 i (by omega)
  ·rintro ⟨h1, h2⟩
   exact ⟨⟨h1, fun i hij => h2 i (by omega)⟩, h2 j (by omega)⟩
 ·rintro ⟨a, d, i⟩ ⟨hi, hd, ha⟩
  obtain rfl : i = (nF f : Int) := hi
  simp only [zhe, zne, cond_false]
  exact Ok.pure ha
theorem zDv {k : Nat} {f : zb} (hs : zLb f) (hk : Fuel k f) (v : Bool × Int × Int) (acc : Bool) : Ok (iter (fun s => zfe k f v s.1 s.2) k (acc, 0)) (fun r => r.1 = true ↔ acc = true ∧ ∀ i (h : i < f.Pick.1.length), z2b 0 300 f.Pick.1[i]) := by
 refine Ok.everyI f.Pick.1 (fun _ s => z2b 0 300 s) (fun a j hj => ?_) (fun a => by simp [zfe]) hk.pick
 simp only [zfe, zKg, zic hj, cond_true, zAb hj, zdr, Option.bind_some, zTd]
 refine Ok.pure ⟨_, by rw [zub hj hs.pick], ?_⟩
 simp only [Bool.and_eq_true, decide_eq_true_eq, z2b]
theorem zrq {l : List zl} : ∀ {j}, j ≤ l.length → (∀ i (h : i < l.length), i < j → shB l i + 1 ≤ l[i].Shelf) → -1 ≤ shB l j
 | 0, _, _ => by simp [shB]
 | j + 1, hj, h => by
  have ih := zrq (j := j) (by omega) fun i hi hij => h i hi (by omega)
  have := h j (by omega) (by omega)
  rw [zkl (by omega)] at this
  simp only [shB]
  omega
theorem zJo {n : Nat} {l : List zl} (h : z6e n l) : ∀ i, i < l.length → (i : Int) ≤ sh l i
 | 0, hi => by
  have := (h 0 hi).1.1
  rw [zkl hi] at this
  simpa [shB] using this
 | i + 1, hi => by
  have ih := zJo h i (by omega)
  have := (h (i + 1) hi).1.1
  rw [zkl hi] at this
  simp only [shB] at this
  push_cast
  omega
theorem zBi {n : Nat} {l : List zl} (h : z6e n l) : l.length ≤ n := by
 cases hl : l.length with
 | zero => omega
 | succ m =>
  have h1 := zJo h m (by omega)
  have h2 := (h m (by omega)).1.2
  rw [zkl (by omega)] at h2
  omega
theorem zuu {k : Nat} {f : zb} (hs : zLb f) (v3 : Bool × Int × Int) (v5 : Bool × Int) (i0 : Int) (s : zj) (hl : s.Lines.1.length < 9223372036854775808) (hlk : s.Lines.1.length < k) (acc : Bool) (hn : acc = true → nF f ≤ 12) :
  Ok (iter (fun t => zOd k f v3 v5 i0 s t.1 t.2.1 t.2.2) k (acc, (-1), 0)) (fun r => r.1 = true ↔ acc = true ∧ z6e (nF f) s.Lines.1) := by
 let P := fun i (h : i < s.Lines.1.length) => (shB s.Lines.1 i + 1 ≤ s.Lines.1[i].Shelf ∧ s.Lines.1[i].Shelf ≤ (nF f : Int) - 1) ∧ (1 ≤ s.Lines.1[i].Many ∧ s.Lines.1[i].Many ≤ 20)
 refine Ok.count s.Lines.1.length (fun j t => t.2.2 = (j : Int) ∧ t.2.1 = shB s.Lines.1 j ∧ (t.1 = true ↔ acc = true ∧ ∀ i (h : i < s.Lines.1.length), i < j → P i h)) ?_ ?_ ⟨rfl, rfl, by simp⟩ hlk
 ·rintro j ⟨a, d, i⟩ hj ⟨hi, hd, ha⟩
  obtain rfl : i = (j : Int) := hi
  obtain rfl : d = shB s.Lines.1 j := hd
  simp only [zOd, zcg, zic hj, cond_true, zAb hj, zhh, Option.bind_some, zTd, zub hj hl, zpm hs.far]
  refine Ok.pure ⟨rfl, by rw [zkl hj]; rfl, ?_⟩
  simp only [Bool.and_eq_true, decide_eq_true_eq]
  cases a with
  | false =>
   constructor
   ·rintro ⟨h, _⟩; cases h
   ·rintro ⟨h1, h2⟩
    exact absurd (ha.2 ⟨h1, fun i h hij => h2 i h (by omega)⟩) (by simp)
  | true =>
   obtain ⟨h1, h2⟩ := ha.1 rfl
   have hw : w64 (shB s.Lines.1 j + 1) = shB s.Lines.1 j + 1 := by
    have hlow := zrq (l := s.Lines.1) (j := j) (by omega) fun i hi hij => (h2 i hi hij).1.1
    have hn := hn h1
    have hup : shB s.Lines.1 j ≤ 12 := by
     cases j with
     | zero => simp [shB]
     | succ j =>
      have := (h2 j (by omega) (by omega)).1.2
      rw [zkl (by omega)] at this
      simp only [shB]
      have : ((nF f : Nat) : Int) ≤ 12 := by exact_mod_cast hn
      omega
    exact zR (by omega) (by omega)
   rw [hw]
   constructor
   ·rintro ⟨_, h3⟩
    refine ⟨h1, fun i h hij => ?_⟩
    by_cases e : i = j
    ·subst e; exact h3
    ·exact h2 i h (by omega)
   ·rintro ⟨_, h3⟩
    exact ⟨rfl, h3 j hj (by omega)⟩
 ·rintro ⟨a, d, i⟩ ⟨hi, hd, ha⟩
  obtain rfl : i = (s.Lines.1.length : Int) := hi
  simp only [zOd, zne, cond_false]
  refine Ok.pure ?_
  show a = true ↔ _
  have ha' : a = true ↔ acc = true ∧ ∀ i (h : i < s.Lines.1.length), i < s.Lines.1.length → P i h := ha
  rw [ha']
  exact ⟨fun h => ⟨h.1, fun i hi => h.2 i hi hi⟩, fun h => ⟨h.1, fun i hi _ => h.2 i hi⟩⟩
theorem zbw {k : Nat} {f : zb} (hs : zLb f) (hk : Fuel k f) (v3 : Bool × Int × Int) (v5 : Bool × Int) (acc : Bool) (hn : acc = true → nF f ≤ 12) : Ok (iter (fun s => zde k f v3 v5 s.1 s.2) k (acc, 0)) (fun r => r.1 = true ↔ acc = true ∧ ∀ i (h : i < nS f), zni (nF f) f.Slips.1[i]) := by
 refine Ok.count (nS f) (fun j s => s.2 = (j : Int) ∧ (s.1 = true ↔ acc = true ∧ ∀ i (h : i < nS f), i < j → zni (nF f) f.Slips.1[i])) ?_ ?_ ⟨rfl, by simp⟩ hk.slips
 ·rintro j ⟨a, i⟩ hj ⟨hi, ha⟩
  obtain rfl : i = (j : Int) := hi
  have hm := List.getElem_mem hj
  simp only [zde, zng, zic hj, cond_true, zAb hj, zhh, Option.bind_some, zTd]
  refine Ok.bind (zuu hs v3 v5 _ _ (hs.lines _ hm) (hk.lines _ hm) _ fun h => ?_) fun r hr => ?_
  ·simp only [Bool.and_eq_true] at h
   exact hn (ha.1 h.1).1
  ·refine Ok.pure ⟨by rw [zub hj hs.slips], ?_⟩
   show r.1 = true ↔ _
   rw [hr]
   simp only [Bool.and_eq_true, decide_eq_true_eq]
   have ha' : a = true ↔ acc = true ∧ ∀ i (h : i < nS f), i < j → zni (nF f) f.Slips.1[i] := ha
   rw [ha']
   constructor
   ·rintro ⟨⟨⟨h1, h5⟩, h2, h3⟩, h4⟩
    refine ⟨h1, fun i h hij => ?_⟩
    by_cases e : i = j
    ·subst e; exact ⟨⟨h2, by omega⟩, h4⟩
    ·exact h5 i h (by omega)
   ·rintro ⟨h1, h2⟩
    obtain ⟨⟨h3, h4⟩, h5⟩ := h2 j hj (by omega)
    exact ⟨⟨⟨h1, fun i h hij => h2 i h (by omega)⟩, h3, by omega⟩, h5⟩
 ·rintro ⟨a, i⟩ ⟨hi, ha⟩
  obtain rfl : i = (nS f : Int) := hi
  simp only [zde, zne, cond_false]
  refine Ok.pure ?_
  show a = true ↔ _
  have ha' : a = true ↔ acc = true ∧ ∀ i (h : i < nS f), i < nS f → zni (nF f) f.Slips.1[i] := ha
  rw [ha']
  exact ⟨fun h => ⟨h.1, fun i hi => h.2 i hi hi⟩, fun h => ⟨h.1, fun i hi _ => h.2 i hi⟩⟩
open Classical in
theorem zjk {k : Nat} {f : zb} (hs : zLb f) (hk : Fuel k f) : Ok (z3b k f) (fun r => r = if Fine f then 0 else 30) := by
 unfold z3b
 refine Ok.bind (z9v k f) fun v1 h1 => ?_
 refine Ok.bind (zWv hs hk v1) fun v3 h3 => ?_
 refine Ok.bind (zDv hs hk v3 v3.1) fun v5 h5 => ?_
 refine Ok.bind (zbw hs hk v3 v5 v5.1 fun h => ?_) fun v7 h7 => ?_
 ·exact (h1.1 (h3.1 (h5.1 h).1).1).1.2
 have fin : v7.1 = true ↔ Fine f := by
  rw [h7, h5, h3, h1]
  exact ⟨fun h => ⟨h.1.1.1.1, h.1.1.1.2.1, h.1.1.1.2.2.1, h.1.1.1.2.2.2.1, h.1.1.1.2.2.2.2, h.1.1.2, h.1.2, h.2⟩, fun h => ⟨⟨⟨⟨h.nfar, h.npick, h.step, h.carry, h.nslips⟩, h.far⟩, h.pick⟩, h.slips⟩⟩
 refine Ok.cond (fun hb => Ok.pure ?_) (fun hb => Ok.pure ?_)
 ·rw [if_neg]
  intro hF
  rw [fin.2 hF] at hb
  cases hb
 ·rw [if_pos (fin.1 (by simpa using hb))]
theorem z0r {f : zb} (h : Fine f) : ∀ i, i < nF f → 0 ≤ fr f i
 | 0, hi => by have := (h.far 0 hi).1; simpa [frB] using this
 | i + 1, hi => by
  have := (h.far (i + 1) hi).1
  have ih := z0r h i (by omega)
  simp only [frB] at this
  omega
theorem zjv {k : Nat} {f : zb} (hs : zLb f) (hk : Fuel k f) : Ok (zZc k f) (fun r => r = true ↔ Fine f) := by
 obtain ⟨c, hc, hc'⟩ := zjk hs hk
 unfold zZc zcd
 rw [hc]
 simp only [Option.bind_some]
 by_cases hF : Fine f
 ·rw [if_pos hF] at hc'
  subst hc'
  have t : (((0 : Int) == 0) && ((decide ((1 : Int) ≤ (f.Far.1.length : Int)) && decide ((f.Far.1.length : Int) ≤ 12)) && (((f.Pick.1.length : Int) == (f.Far.1.length : Int)) && ((decide (1 ≤ f.Step.Low) && (decide (f.Step.Low ≤ f.Step.High) && decide (f.Step.High ≤ 10))) && ((decide (1 ≤ f.Carry) && decide (f.Carry ≤ 20)) && decide ((f.Slips.1.length : Int) ≤ 9)))))) = true := by
   have h1 := hF.nfar
   have h2 := hF.npick
   have h3 := hF.step
   have h4 := hF.carry
   have h5 := hF.nslips
   simp only [z2b, nF, nS] at h1 h2 h3 h4 h5
   simp only [Bool.and_eq_true, decide_eq_true_eq, beq_iff_eq]
   exact ⟨trivial, ⟨by omega, by omega⟩, by omega, h3, h4, by omega⟩
  simp only [z9g, zYq, Option.bind_some, zTd, t]
  refine Ok.bind (P := fun r : Bool × Int => r.1 = true) ?_ fun v3 h3 => ?_
  ·refine (Ok.everyWI f.Far.1 (fun i _ => i < nF f) (fun j hj hp => ?_) (fun i => by simp [zhb, zsb]) (by simp [zhb, zsb]) hk.far).mono fun r hr => hr.2 ⟨rfl, fun j hj => hj⟩
   have hpj : j < f.Pick.1.length := by have := hF.npick; simp only [nF] at this; omega
   have hp := hF.pick j hpj
   have hf := hF.far j hj
   have h0 := z0r hF j hj
   simp only [zhb, zsb, zed, cond_true, zic hj, Option.bind_some, zJn hj, z9g, zYq, zAb hpj, zub hj hs.far]
   have e1 : (decide (0 ≤ fr f j) && decide (fr f j ≤ 500)) = true := by simp; omega
   have e2 : (decide (0 ≤ f.Pick.1[j].Low) && (decide (f.Pick.1[j].Low ≤ f.Pick.1[j].High) && decide (f.Pick.1[j].High ≤ 300))) = true := by
    simp only [Bool.and_eq_true, decide_eq_true_eq]; exact hp
   simp only [e1, e2, cond_true]
   cases j with
   | zero => exact Ok.pure ⟨true, rfl, by simp; exact hj⟩
   | succ j =>
    have e3 : (((j + 1 : Nat) : Int) == 0) = false := by simp; omega
    have e4 : w64 (((j + 1 : Nat) : Int) - 1) = (j : Int) := by
     have := hF.nfar.2
     have hj' : j + 1 < nF f := hj
     rw [zR (by omega) (by omega)]; omega
    have e5 : decide (fr f j ≤ fr f (j + 1)) = true := by simpa [frB] using hf.1
    simp only [e3, e4, cond_false, zJn (show j < nF f by have hj' : j + 1 < nF f := hj; omega), Option.bind_some, e5, cond_true]
    exact Ok.pure ⟨true, rfl, by simp; exact hj⟩
  ·refine Ok.bind (P := fun r : Bool × Int => r.1 = true) ?_ fun v5 h5 => Ok.pure ⟨fun _ => hF, fun _ => h5⟩
   rw [h3]
   refine (Ok.everyWI f.Slips.1 (fun i _ => i < nS f) (fun j hj hp => ?_) (fun i => by simp [zeb, zob]) (by simp [zeb, zob]) hk.slips).mono fun r hr => hr.2 ⟨rfl, fun j hj => hj⟩
   obtain ⟨⟨hu, hl⟩, hlines⟩ := hF.slips j hj
   have hm := List.getElem_mem hj
   simp only [zeb, zob, zSc, cond_true, zic hj, Option.bind_some, zAb hj, z9g, zTd, zub hj hs.slips]
   have e1 : ((decide (0 ≤ f.Slips.1[j].Until) && decide (f.Slips.1[j].Until ≤ 100000)) && (decide ((1 : Int) ≤ (f.Slips.1[j].Lines.1.length : Int)) && decide ((f.Slips.1[j].Lines.1.length : Int) ≤ (f.Far.1.length : Int)))) = true := by
    have := zBi hlines
    simp only [Bool.and_eq_true, decide_eq_true_eq]
    simp only [nF] at this
    omega
   rw [e1]
   refine Ok.bind (P := fun r : Bool × Int => r.1 = true) ?_ fun r hr => Ok.pure ⟨true, by rw [hr], by simp; exact hj⟩
   refine (Ok.everyWI f.Slips.1[j].Lines.1 (fun i _ => i < f.Slips.1[j].Lines.1.length) (fun i hi hp => ?_) (fun i => by simp [zEb, zDb]) (by simp [zEb, zDb]) (hk.lines _ hm)).mono fun r hr => hr.2 ⟨rfl, fun j hj => hj⟩
   have hli := hlines i hi
   have h0 := zrq (l := f.Slips.1[j].Lines.1) (j := i) (by omega) fun i hi _ => (hlines i hi).1.1
   simp only [zEb, zDb, zWc, cond_true, zic hi, Option.bind_some, zAb hi, z9g, zpm hs.far, zub hi (hs.lines _ hm)]
   have e2 : (decide (0 ≤ f.Slips.1[j].Lines.1[i].Shelf) && decide (f.Slips.1[j].Lines.1[i].Shelf ≤ (f.Far.1.length : Int) - 1)) = true := by
    have := hli.1
    simp only [Bool.and_eq_true, decide_eq_true_eq]
    simp only [nF] at this
    omega
   have e3 : (decide (1 ≤ f.Slips.1[j].Lines.1[i].Many) && decide (f.Slips.1[j].Lines.1[i].Many ≤ 20)) = true := by
    simp only [Bool.and_eq_true, decide_eq_true_eq]; exact hli.2
   simp only [e2, e3, cond_true]
   cases i with
   | zero => exact Ok.pure ⟨true, rfl, by simp; exact hi⟩
   | succ i =>
    have e4 : (((i + 1 : Nat) : Int) == 0) = false := by simp; omega
    have e5 : w64 (((i + 1 : Nat) : Int) - 1) = (i : Int) := by
     have := hs.lines _ hm
     rw [zR (by omega) (by omega)]; omega
    have e6 : decide (f.Slips.1[j].Lines.1[i].Shelf < f.Slips.1[j].Lines.1[i + 1].Shelf) = true := by
     have := hli.1.1
     simp only [shB] at this
     rw [← zkl (by omega)] at this
     simp; omega
    simp only [e4, e5, cond_false, zAb (show i < f.Slips.1[j].Lines.1.length by omega), Option.bind_some, e6]
    exact Ok.pure ⟨true, rfl, by simp; exact hi⟩
 ·rw [if_neg hF] at hc'
  subst hc'
  have t : ((30 : Int) == 0) = false := by decide
  simp only [t, cond_false, Option.bind_some]
  obtain ⟨k, rfl⟩ : ∃ k', k = k' + 1 := ⟨k - 1, by have := hk.k0; omega⟩
  have o1 : iter (fun s => zhb (k + 1) f s.1 s.2) (k + 1) (false, 0) = some (false, 0) := by simp [iter, zhb, zsb]
  rw [o1]
  simp only [Option.bind_some]
  have o2 : iter (fun s => zeb (k + 1) f (false, 0) s.1 s.2) (k + 1) (false, 0) = some (false, 0) := by simp [iter, zeb, zob]
  rw [o2]
  exact Ok.pure ⟨fun h => (by cases h), fun h => absurd h hF⟩
end Go.AM
set_option linter.unusedVariables false
namespace Go.AM
open Go
theorem zcq (f g : Nat → Int) : ∀ n i, eqI f g i n = true ↔ ∀ j, i ≤ j → j < i + n → f j = g j
 | 0, i => by simp [eqI]; omega
 | n + 1, i => by
  simp only [eqI, Bool.and_eq_true, zcq f g n (i + 1), beq_iff_eq]
  constructor
  ·rintro ⟨h0, h⟩ j h1 h2
   by_cases hj : j = i
   ·rw [hj]; exact h0
   ·exact h j (by omega) (by omega)
  ·intro h
   exact ⟨h i (by omega) (by omega), fun j h1 h2 => h j (by omega) (by omega)⟩
def put1 (g : Nat → Nat) (x : zl) : Nat → Nat := fun j => if j = x.Shelf.toNat then x.Many.toNat else g j
def pc (l : List zl) : Nat → Nat := l.foldl put1 fun _ => 0
theorem zot (l : List zl) (x : zl) : pc (l ++ [x]) = put1 (pc l) x := by simp [pc]
def slp (f : zb) (i : Nat) : zj := (f.Slips.1[i]?).getD ⟨([], .nil), 0⟩
theorem zjn {f : zb} {i : Nat} (h : i < nS f) : f.Slips.1[i] = slp f i := by
 unfold slp
 rw [List.getElem?_eq_getElem h]; rfl
theorem zmh {f : zb} {i : Nat} (h : i < nS f) : idx f.Slips.1 (i : Int) = some (slp f i) := by rw [zAb h, zjn h]
theorem zhf {f : zb} (hF : Fine f) {i : Nat} (h : i < nS f) : zni (nF f) (slp f i) := by
 have := hF.slips i h
 rwa [zjn h] at this
abbrev lns (f : zb) (i : Nat) : List zl := (slp f i).Lines.1
theorem zQj {n : Nat} {l : List zl} (h : z6e n l) {i : Nat} (hi : i < l.length) : 0 ≤ l[i].Shelf ∧ l[i].Shelf < n := by
 have h1 := zJo h i hi
 rw [← zkl hi] at h1
 have := (h i hi).1.2
 omega
theorem zBu {n : Nat} {l : List zl} (h : z6e n l) : (∀ j, pc l j ≤ 20) ∧ ∀ j, n ≤ j → pc l j = 0 := by
 have key : ∀ m, m ≤ l.length → (∀ j, pc (l.take m) j ≤ 20) ∧ ∀ j, n ≤ j → pc (l.take m) j = 0 := by
  intro m
  induction m with
  | zero => intro _; simp [pc]
  | succ m ih =>
   intro hm
   obtain ⟨h1, h2⟩ := ih (by omega)
   rw [List.take_succ_eq_append_getElem (by omega), zot]
   have hl := h m (by omega)
   have hs := zQj h (i := m) (by omega)
   refine ⟨fun j => ?_, fun j hj => ?_⟩
   ·unfold put1
    split
    ·omega
    ·exact h1 j
   ·unfold put1
    rw [if_neg (by omega)]
    exact h2 j hj
 have := key l.length (Nat.le_refl _)
 rwa [List.take_length] at this
theorem z2u {k : Nat} {f : zb} (hs : zLb f) (hk : Fuel k f) (hF : Fine f) {i : Nat} (hi : i < nS f) : Ok (zbc k ⟨f⟩ (i : Int)) (fun g => ∀ j, g j = ((pc (lns f i) j : Nat) : Int)) := by
 unfold zbc
 have hm := List.getElem_mem hi
 rw [zjn hi] at hm
 have hfine := zhf hF hi
 simp only [zmh hi, Option.bind_some]
 refine Ok.bind (P := fun v : Int × (Nat → Int) => ∀ j, v.2 j = ((pc (lns f i) j : Nat) : Int)) ?_ fun v hv => Ok.pure hv
 refine Ok.count (lns f i).length (fun j s => s.1 = (j : Int) ∧ ∀ t, s.2 t = ((pc ((lns f i).take j) t : Nat) : Int)) ?_ ?_ ⟨rfl, by simp [pc]⟩ (hk.lines _ hm)
 ·rintro j ⟨a, g⟩ hj ⟨ha, hg⟩
  obtain rfl : a = (j : Int) := ha
  have hl : (shB (lns f i) j + 1 ≤ (lns f i)[j].Shelf ∧ _) ∧ (1 ≤ (lns f i)[j].Many ∧ (lns f i)[j].Many ≤ 20) := hfine.2 j hj
  have hsh : 0 ≤ (lns f i)[j].Shelf ∧ (lns f i)[j].Shelf < nF f := zQj hfine.2 hj
  have hn := hF.nfar.2
  simp only [zMc, zic hj, cond_true, zAb hj, Option.bind_some]
  have e : (decide (0 ≤ (lns f i)[j].Shelf) && decide ((lns f i)[j].Shelf < 12)) = true := by
   simp only [Bool.and_eq_true, decide_eq_true_eq]; omega
  rw [e, cond_true]
  refine Ok.pure ⟨zub hj (hs.lines _ hm), fun t => ?_⟩
  rw [List.take_succ_eq_append_getElem hj, zot]
  simp only [upd, put1]
  have hg' := hg t
  simp only at hg'
  split
  ·omega
  ·exact hg'
 ·rintro ⟨a, g⟩ ⟨ha, hg⟩
  obtain rfl : a = ((lns f i).length : Int) := ha
  simp only [zMc, zne, cond_false]
  refine Ok.pure fun t => ?_
  have := hg t
  rwa [List.take_length] at this
def zfc (f : zb) (i : Nat) : Int := wk f.Carry.toNat (fr f) 0 (ex (pc (lns f i)) (nF f))
theorem zLx {f : zb} (hF : Fine f) {i : Nat} (h : i < nF f) : 0 ≤ fr f i ∧ fr f i ≤ 500 := ⟨z0r hF i h, (hF.far i h).2⟩
theorem zhs {f : zb} (hF : Fine f) {g : Nat → Nat} : ∀ x ∈ ex g (nF f), 0 ≤ fr f x ∧ fr f x ≤ 500 := fun x hx => zLx hF (zvu hx).1
theorem z1m {f : zb} (hF : Fine f) {i : Nat} (hi : i < nS f) : 0 ≤ zfc f i ∧ zfc f i ≤ 240000 := by
 have h1 := zBu (zhf hF hi).2
 have h2 := zmn (f := pc (lns f i)) (b := 20) (n := nF f) fun j _ => h1.1 j
 have h3 := z5m (C := f.Carry.toNat) (b := 500) (by omega) (ex (pc (lns f i)) (nF f)) 0 (zhs hF)
 have h4 := hF.nfar.2
 unfold zfc
 have : ((ex (pc (lns f i)) (nF f)).length : Int) ≤ 240 := by
  have : 20 * nF f ≤ 240 := by omega
  omega
 omega
theorem zCt (k : Nat) : zRe k = some fun _ => 0 := rfl
theorem z0v {k : Nat} {f : zb} (hk : Fuel k f) (hF : Fine f) (i : Int) (v1 : (SL Int) × Int × Int × (SL zo) × Int × (SL zj) × Int) (n : Int) {g : Nat → Int} {lf : Nat → Nat} (hg : ∀ t, t < 12 → g t = ((lf t : Nat) : Int)) (h20 : ∀ t, lf t ≤ 20) :
  Ok (iter (fun s => zgc k ⟨f⟩ i v1 n s.1 s.2.1 s.2.2.1 s.2.2.2) k (f.Carry, (nF f : Int) - 1, g, fun _ => 0)) (fun r => ∃ a b : Nat → Nat, (∀ t, t < 12 → r.2.2.1 t = ((a t : Nat) : Int)) ∧ (∀ t, t < 12 → r.2.2.2 t = ((b t : Nat) : Int)) ∧
   ex a (nF f) = (ex lf (nF f)).drop f.Carry.toNat ∧ ex b (nF f) = (ex lf (nF f)).take f.Carry.toNat ∧ (∀ t, nF f ≤ t → a t = lf t) ∧ (∀ t, a t ≤ lf t) ∧ ∀ t, nF f ≤ t → b t = 0) := by
 have hC := hF.carry
 refine Ok.count (nF f) (fun j s => ∃ m r : Nat, m + j = nF f ∧ s.2.1 = (m : Int) - 1 ∧ s.1 = (r : Int) ∧ r ≤ 20 ∧ ∃ a b : Nat → Nat, (∀ t, t < 12 → s.2.2.1 t = ((a t : Nat) : Int)) ∧ (∀ t, t < 12 → s.2.2.2 t = ((b t : Nat) : Int)) ∧
   (∀ t, t < m → a t = lf t ∧ b t = 0) ∧ (ex lf (nF f)).drop f.Carry.toNat = hi a m j ++ (ex lf m).drop r ∧ (ex lf (nF f)).take f.Carry.toNat = hi b m j ++ (ex lf m).take r ∧ (∀ t, nF f ≤ t → a t = lf t) ∧ (∀ t, a t ≤ lf t) ∧ ∀ t, nF f ≤ t → b t = 0) ?_ ?_ ?_ hk.far
 ·rintro j ⟨s1, s2, s3, s4⟩ hj ⟨m, r, hm, h2, h1, hr, a, b, ha, hb, hlow, hd, ht, hx, hle, hy⟩
  obtain ⟨m, rfl⟩ : ∃ m', m = m' + 1 := ⟨m - 1, by omega⟩
  have hn := hF.nfar.2
  obtain rfl : s2 = (m : Int) := by simp only at h2; omega
  obtain rfl : s1 = (r : Int) := h1
  simp only [zgc]
  have e1 : decide ((m : Int) ≥ 0) = true := by simp
  have e2 : decide ((m : Int) < 12) = true := by simp; omega
  have e3 : s3 m = ((lf m : Nat) : Int) := by
   have := ha m (by omega)
   simp only at this
   rw [this, (hlow m (by omega)).1]
  have e4 : (if s3 m < (r : Int) then s3 m else (r : Int)) = ((min r (lf m) : Nat) : Int) := by
   rw [e3]
   split <;> omega
  have hb20 := h20 m
  simp only [e1, e2, Bool.and_self, cond_true, Int.toNat_natCast, e4]
  rw [e3, zR (by omega) (by omega), zR (by omega) (by omega), zR (by omega) (by omega)]
  refine Ok.pure ⟨m, r - min r (lf m), by omega, rfl, by show _ = _; omega, by omega, fun t => if t = m then lf m - r else a t, fun t => if t = m then min r (lf m) else b t, fun t ht => ?_, fun t ht => ?_, fun t ht => ?_, ?_, ?_, fun t ht => ?_, fun t => ?_, fun t ht => ?_⟩
  ·simp only [upd]
   split
   ·omega
   ·exact ha t ht
  ·simp only [upd]
   split
   ·rfl
   ·exact hb t ht
  ·dsimp only
   rw [if_neg (by omega), if_neg (by omega)]
   exact hlow t (by omega)
  ·rw [hd, zls, ex, z4v, ← List.append_assoc]
   rw [if_pos rfl]
   have : r - min r (lf m) = r - lf m := by omega
   rw [this, zMo (g := a) (m := m + 1) (fun t h1 h2 => if_neg (by omega))]
  ·rw [ht, zls, ex, zGv, ← List.append_assoc]
   rw [if_pos rfl]
   have : r - min r (lf m) = r - lf m := by omega
   rw [this, zMo (g := b) (m := m + 1) (fun t h1 h2 => if_neg (by omega))]
  ·dsimp only; rw [if_neg (by omega)]; exact hx t ht
  ·dsimp only
   split
   ·rename_i e; subst e; omega
   ·exact hle t
  ·dsimp only; rw [if_neg (by omega)]; exact hy t ht
 ·rintro ⟨s1, s2, s3, s4⟩ ⟨m, r, hm, h2, h1, hr, a, b, ha, hb, hlow, hd, ht, hx, hle, hy⟩
  obtain rfl : m = 0 := by omega
  obtain rfl : s2 = -1 := by simp only at h2; omega
  simp only [zgc]
  have e1 : decide ((-1 : Int) ≥ 0) = false := by decide
  rw [e1, cond_false]
  rw [zct] at hd ht
  simp only [ex, List.drop_nil, List.take_nil, List.append_nil] at hd ht
  exact Ok.pure ⟨a, b, ha, hb, hd.symm, ht.symm, hx, hle, hy⟩
 ·refine ⟨nF f, f.Carry.toNat, by omega, rfl, by show f.Carry = _; omega, by omega, lf, fun _ => 0, hg, fun _ _ => rfl, fun t _ => ⟨rfl, rfl⟩, by simp [hi], by simp [hi], fun _ _ => rfl, fun _ => Nat.le_refl _, fun _ _ => rfl⟩
theorem zYv {k : Nat} {f : zb} (hs : zLb f) (hk : Fuel k f) (hF : Fine f) (i : Int) (v1 : (SL Int) × Int × Int × (SL zo) × Int × (SL zj) × Int) (n : Int) (v : Int × Int × (Nat → Int) × (Nat → Int)) {b : Nat → Nat} (hb : ∀ t, t < 12 → v.2.2.2 t = ((b t : Nat) : Int)) :
  Ok (iter (fun s => zhc k ⟨f⟩ i v1 n v s.1 s.2) k (0, 0)) (fun r => r.1 = topF b (fr f) (nF f)) := by
 have hn := hF.nfar.2
 refine Ok.count (nF f) (fun j s => s.2 = (j : Int) ∧ s.1 = topF b (fr f) j) ?_ ?_ ⟨rfl, rfl⟩ hk.far
 ·rintro j ⟨s1, s2⟩ hj ⟨h2, h1⟩
  obtain rfl : s2 = (j : Int) := h2
  obtain rfl : s1 = _ := h1
  simp only [zhc, z1d, zic hj, cond_true, Int.toNat_natCast]
  have e2 : (decide (0 ≤ (j : Int)) && decide ((j : Int) < 12)) = true := by simp; omega
  have e3 : decide (v.2.2.2 j > 0) = decide (0 < b j) := by
   rw [hb j (by omega)]
   simp
  rw [e2, cond_true, e3, zJn hj]
  simp only [Option.bind_some]
  cases hbj : decide (0 < b j) with
  | true =>
   simp only [cond_true, Option.bind_some]
   refine Ok.pure ⟨zub hj hs.far, ?_⟩
   show fr f j = _
   rw [topF, if_pos (by simpa using hbj)]
  | false =>
   simp only [cond_false, Option.bind_some]
   refine Ok.pure ⟨zub hj hs.far, ?_⟩
   show topF b (fr f) j = _
   rw [topF, if_neg (by simpa using hbj)]
 ·rintro ⟨s1, s2⟩ ⟨h2, h1⟩
  obtain rfl : s2 = (nF f : Int) := h2
  simp only [zhc, zne, cond_false]
  exact Ok.pure h1
theorem zCo {k : Nat} {f : zb} (hs : zLb f) (hk : Fuel k f) (hF : Fine f) {i : Nat} (hi : i < nS f) : Ok (zsc k ⟨f⟩ (i : Int)) (fun r => r = zfc f i) := by
 unfold zsc zYd
 simp only [Option.bind_some]
 refine Ok.bind (z2u hs hk hF hi) fun g hg => ?_
 have hpc := zBu (zhf hF hi).2
 have hW := z1m hF hi
 have hlen : (ex (pc (lns f i)) (nF f)).length ≤ 240 := by
  have := zmn (f := pc (lns f i)) (b := 20) (n := nF f) fun j _ => hpc.1 j
  have := hF.nfar.2
  omega
 have hC := hF.carry
 refine Ok.bind (P := fun v : (Nat → Int) × Int => v.2 = zfc f i) ?_ fun v hv => Ok.pure hv
 refine Ok.iter (fun j s => ∃ lf : Nat → Nat, (∀ t, t < 12 → s.1 t = ((lf t : Nat) : Int)) ∧ (∀ t, lf t ≤ 20) ∧ (∀ t, nF f ≤ t → lf t = 0) ∧ 0 ≤ s.2 ∧ s.2 + wk f.Carry.toNat (fr f) 0 (ex lf (nF f)) = zfc f i ∧ (ex lf (nF f)).length + j ≤ 240) 240 ?_ ⟨pc (lns f i), fun t _ => hg t, hpc.1, hpc.2, Int.le_refl _, by simp [zfc], by omega⟩ (by have := hk.k0; omega)
 rintro j ⟨s1, s2⟩ hj ⟨lf, h1, h20, hz, h0, hw, hl⟩
 simp only [z2d, zCt, Option.bind_some]
 refine Ok.cond (fun hb => ?_) (fun hb => ?_)
 ·have hne : ex lf (nF f) ≠ [] := by
   intro he
   have hall := z5p.1 he
   have : eqI s1 (fun _ => 0) 0 12 = true := (zcq _ _ 12 0).2 fun t _ ht => by
    have := h1 t (by omega)
    simp only at this
    rw [this]
    by_cases e : t < nF f
    ·rw [hall t e]; rfl
    ·rw [hz t (by omega)]; rfl
   rw [this] at hb
   cases hb
  rw [zpm hs.far]
  refine Ok.bind (z0v hk hF _ _ _ h1 h20) fun v ⟨a, b, ha, hb', hd, ht, hx, hle, hy⟩ => ?_
  refine Ok.bind (zYv hs hk hF _ _ _ _ hb') fun w hw' => ?_
  rw [hw']
  obtain ⟨x, t, hxt⟩ : ∃ x t, ex lf (nF f) = x :: t := by
   cases h : ex lf (nF f) with
   | nil => exact absurd h hne
   | cons x t => exact ⟨x, t, rfl⟩
  have htop : topF b (fr f) (nF f) = fr f x := by
   obtain ⟨c, hc⟩ : ∃ c, f.Carry.toNat = c + 1 := ⟨f.Carry.toNat - 1, by omega⟩
   refine zst (t := t.take c) ?_
   rw [ht, hxt, hc, List.take_succ_cons]
  have hfx : 0 ≤ fr f x ∧ fr f x ≤ 500 := zhs hF x (by rw [hxt]; simp)
  rw [htop]
  have hcons := zJw (C := f.Carry.toNat) (by omega) (fr f) x t
  rw [← hxt, ← hd] at hcons
  have hwa := z5m (C := f.Carry.toNat) (b := 500) (by omega) (ex a (nF f)) 0 (zhs hF)
  have hw : s2 + wk f.Carry.toNat (fr f) 0 (ex lf (nF f)) = zfc f i := hw
  have h0 : 0 ≤ s2 := h0
  rw [zR (n := 2 * fr f x) (by omega) (by omega), zR (by omega) (by omega)]
  refine Ok.pure ⟨?_, a, ha, fun t => by have := hle t; have := h20 t; omega, fun t ht => by rw [hx t ht]; exact hz t ht, by show 0 ≤ s2 + _; omega, by show s2 + 2 * fr f x + _ = _; omega, ?_⟩
  ·rw [hxt] at hl; simp at hl; omega
  ·rw [hd, List.length_drop]
   rw [hxt] at hl ⊢
   simp only [List.length_cons] at hl ⊢
   omega
 ·refine Ok.pure ?_
  have hall : eqI s1 (fun _ => 0) 0 12 = true := by simpa using hb
  have hall := (zcq _ _ 12 0).1 hall
  have he : ex lf (nF f) = [] := z5p.2 fun t ht => by
   have hn := hF.nfar.2
   have e1 := h1 t (by omega)
   have e2 := hall t (by omega) (by omega)
   simp only at e1 e2
   rw [e1] at e2
   omega
  have hw : s2 + wk f.Carry.toNat (fr f) 0 (ex lf (nF f)) = zfc f i := hw
  rw [he] at hw
  simp only [wk] at hw
  show s2 = _
  omega
end Go.AM
set_option linter.unusedVariables false
namespace Go.AM
open Go
def pk (f : zb) (i : Nat) : zo := (f.Pick.1[i]?).getD ⟨0, 0⟩
theorem zxw {f : zb} {i : Nat} (h : i < f.Pick.1.length) : f.Pick.1[i] = pk f i := by
 unfold pk
 rw [List.getElem?_eq_getElem h]; rfl
theorem zIn {f : zb} (hF : Fine f) {i : Nat} (h : i < nF f) : z2b 0 300 (pk f i) := by
 have hp : i < f.Pick.1.length := by rw [hF.npick]; exact h
 have := hF.pick i hp
 rwa [zxw hp] at this
theorem zIr {f : zb} (hF : Fine f) {n : Int} (h : 0 ≤ n ∧ n < nF f) : idx f.Pick.1 n = some (pk f n.toNat) := by
 have hp : n.toNat < f.Pick.1.length := by rw [hF.npick]; omega
 rw [zlx h.1 hp, zxw hp]
def pks (f : zb) (v : zo → Int) (l : List zl) : Int := (l.map fun x => x.Many * v (pk f x.Shelf.toNat)).sum
theorem z1j (f : zb) (v : zo → Int) (l : List zl) (x : zl) : pks f v (l ++ [x]) = pks f v l + x.Many * v (pk f x.Shelf.toNat) := by simp [pks, List.sum_append]
def zuc (f : zb) (i : Nat) (v : zo → Int) : Int := zfc f i * v f.Step + pks f v (lns f i)
theorem zYf {a b x y : Int} (ha : 0 ≤ a) (hax : a ≤ x) (hb : 0 ≤ b) (hby : b ≤ y) : 0 ≤ a * b ∧ a * b ≤ x * y :=
 ⟨Int.mul_nonneg ha hb, Int.mul_le_mul hax hby hb (by omega)⟩
theorem zsm {f : zb} (hF : Fine f) {v : zo → Int} (hv : ∀ s, z2b 0 300 s → 0 ≤ v s ∧ v s ≤ 300) {l : List zl} (hl : z6e (nF f) l) : ∀ j, j ≤ l.length → 0 ≤ pks f v (l.take j) ∧ pks f v (l.take j) ≤ 6000 * j
 | 0, _ => by simp [pks]
 | j + 1, hj => by
  have ih := zsm hF hv hl j (by omega)
  have h1 := zQj hl (i := j) (by omega)
  have h2 := (hl j (by omega)).2
  have h3 := hv _ (zIn hF (i := l[j].Shelf.toNat) (by omega))
  have h4 := zYf (a := l[j].Many) (b := v (pk f l[j].Shelf.toNat)) (x := 20) (y := 300) (by omega) h2.2 h3.1 h3.2
  rw [List.take_succ_eq_append_getElem (by omega), z1j]
  push_cast
  omega
theorem zAj {f : zb} (hF : Fine f) {v : zo → Int} (hv : ∀ s, z2b 0 300 s → 0 ≤ v s ∧ v s ≤ 300) (hv' : 0 ≤ v f.Step ∧ v f.Step ≤ 10) {i : Nat} (hi : i < nS f) : (0 ≤ zfc f i * v f.Step ∧ zfc f i * v f.Step ≤ 2400000) ∧ 0 ≤ zuc f i v ∧ zuc f i v ≤ 2472000 := by
 have h1 := z1m hF hi
 have h2 := zYf h1.1 h1.2 hv'.1 hv'.2
 have h3 := zsm hF hv (zhf hF hi).2 (lns f i).length (Nat.le_refl _)
 have h4 := zBi (zhf hF hi).2
 have h5 := hF.nfar.2
 rw [List.take_length] at h3
 have h6 : ((lns f i).length : Int) ≤ 12 := by
  have : (lns f i).length ≤ nF f := h4
  omega
 unfold zuc
 omega
theorem zMn : ∀ s, z2b 0 300 s → 0 ≤ s.Low ∧ s.Low ≤ 300 := fun s h => ⟨h.1, by have := h.2; omega⟩
theorem zvm : ∀ s, z2b 0 300 s → 0 ≤ s.High ∧ s.High ≤ 300 := fun s h => ⟨by have := h.1; have := h.2.1; omega, h.2.2⟩
theorem zOk {f : zb} (hF : Fine f) : 0 ≤ f.Step.Low ∧ f.Step.Low ≤ 10 := by have := hF.step; unfold z2b at this; omega
theorem zUi {f : zb} (hF : Fine f) : 0 ≤ f.Step.High ∧ f.Step.High ≤ 10 := by have := hF.step; unfold z2b at this; omega
theorem z2r {k : Nat} {f : zb} (hs : zLb f) (hk : Fuel k f) (hF : Fine f) {i : Nat} (hi : i < nS f) : Ok (z2c k ⟨f⟩ (i : Int)) (fun r => r = zuc f i (·.Low)) := by
 unfold z2c zpf
 have hm := List.getElem_mem hi
 rw [zjn hi] at hm
 have hfine := zhf hF hi
 have hin := zAj hF zMn (zOk hF) hi
 refine Ok.bind (P := fun r => r = zuc f i (·.Low)) (Ok.bind (zCo hs hk hF hi) fun st hst => ?_) fun r hr => Ok.pure hr
 subst hst
 simp only [zvc, Option.bind_some, zmh hi]
 rw [zR (by omega) (by omega)]
 refine Ok.bind (P := fun v : Int × Int => v.1 = zuc f i (·.Low)) ?_ fun v hv => Ok.pure hv
 refine Ok.count (lns f i).length (fun j s => s.2 = (j : Int) ∧ s.1 = zfc f i * f.Step.Low + pks f (·.Low) ((lns f i).take j)) ?_ ?_ ⟨rfl, by simp [pks]⟩ (hk.lines _ hm)
 ·rintro j ⟨a, b⟩ hj ⟨hb, ha⟩
  obtain rfl : b = (j : Int) := hb
  obtain rfl : a = _ := ha
  have h1 := zQj hfine.2 hj
  have h2 := (hfine.2 j hj).2
  have h3 := zMn _ (zIn hF (i := (lns f i)[j].Shelf.toNat) (by show (slp f i).Lines.1[j].Shelf.toNat < _; omega))
  have h4 := zYf (a := (lns f i)[j].Many) (b := (pk f (lns f i)[j].Shelf.toNat).Low) (x := 20) (y := 300) (by show 0 ≤ (slp f i).Lines.1[j].Many; omega) h2.2 h3.1 h3.2
  have h5 := zsm hF zMn hfine.2 j (Nat.le_of_lt hj)
  have h6 := zBi hfine.2
  have h7 := hF.nfar.2
  have h8 : (j : Int) ≤ 12 := by
   have : j < (slp f i).Lines.1.length := hj
   omega
  simp only [zXc, zic hj, cond_true, zAb hj, Option.bind_some, zvc]
  rw [zIr hF h1]
  simp only [Option.bind_some]
  have h5' : 0 ≤ pks f (fun x => x.Low) (List.take j (lns f i)) ∧ pks f (fun x => x.Low) (List.take j (lns f i)) ≤ 6000 * j := h5
  rw [zR (n := (lns f i)[j].Many * (pk f (lns f i)[j].Shelf.toNat).Low) (by omega) (by omega), zR (by omega) (by omega)]
  refine Ok.pure ⟨zub hj (hs.lines _ hm), ?_⟩
  rw [List.take_succ_eq_append_getElem hj, z1j]
  show _ + _ = _
  omega
 ·rintro ⟨a, b⟩ ⟨hb, ha⟩
  obtain rfl : b = ((lns f i).length : Int) := hb
  simp only [zXc, zne, cond_false]
  rw [List.take_length] at ha
  exact Ok.pure ha
theorem zvq {k : Nat} {f : zb} (hs : zLb f) (hk : Fuel k f) (hF : Fine f) {i : Nat} (hi : i < nS f) : Ok (zcc k ⟨f⟩ (i : Int)) (fun r => r = zuc f i (·.High)) := by
 unfold zcc z0d
 have hm := List.getElem_mem hi
 rw [zjn hi] at hm
 have hfine := zhf hF hi
 have hin := zAj hF zvm (zUi hF) hi
 refine Ok.bind (P := fun r => r = zuc f i (·.High)) (Ok.bind (zCo hs hk hF hi) fun st hst => ?_) fun r hr => Ok.pure hr
 subst hst
 simp only [zNc, Option.bind_some, zmh hi]
 rw [zR (by omega) (by omega)]
 refine Ok.bind (P := fun v : Int × Int => v.1 = zuc f i (·.High)) ?_ fun v hv => Ok.pure hv
 refine Ok.count (lns f i).length (fun j s => s.2 = (j : Int) ∧ s.1 = zfc f i * f.Step.High + pks f (·.High) ((lns f i).take j)) ?_ ?_ ⟨rfl, by simp [pks]⟩ (hk.lines _ hm)
 ·rintro j ⟨a, b⟩ hj ⟨hb, ha⟩
  obtain rfl : b = (j : Int) := hb
  obtain rfl : a = _ := ha
  have h1 := zQj hfine.2 hj
  have h2 := (hfine.2 j hj).2
  have h3 := zvm _ (zIn hF (i := (lns f i)[j].Shelf.toNat) (by show (slp f i).Lines.1[j].Shelf.toNat < _; omega))
  have h4 := zYf (a := (lns f i)[j].Many) (b := (pk f (lns f i)[j].Shelf.toNat).High) (x := 20) (y := 300) (by show 0 ≤ (slp f i).Lines.1[j].Many; omega) h2.2 h3.1 h3.2
  have h5 := zsm hF zvm hfine.2 j (Nat.le_of_lt hj)
  have h6 := zBi hfine.2
  have h7 := hF.nfar.2
  have h8 : (j : Int) ≤ 12 := by
   have : j < (slp f i).Lines.1.length := hj
   omega
  simp only [zpc, zic hj, cond_true, zAb hj, Option.bind_some, zNc]
  rw [zIr hF h1]
  simp only [Option.bind_some]
  have h5' : 0 ≤ pks f (fun x => x.High) (List.take j (lns f i)) ∧ pks f (fun x => x.High) (List.take j (lns f i)) ≤ 6000 * j := h5
  rw [zR (n := (lns f i)[j].Many * (pk f (lns f i)[j].Shelf.toNat).High) (by omega) (by omega), zR (by omega) (by omega)]
  refine Ok.pure ⟨zub hj (hs.lines _ hm), ?_⟩
  rw [List.take_succ_eq_append_getElem hj, z1j]
  show _ + _ = _
  omega
 ·rintro ⟨a, b⟩ ⟨hb, ha⟩
  obtain rfl : b = ((lns f i).length : Int) := hb
  simp only [zpc, zne, cond_false]
  rw [List.take_length] at ha
  exact Ok.pure ha
theorem zhn {f : zb} (hs : zLb f) (k : Nat) (n : Int) : zmb k ⟨f⟩ n = some (decide (0 ≤ n) && decide (n ≤ (nS f : Int) - 1)) := by
 simp only [zmb, zhh, zpm hs.slips, Option.bind_some]
theorem ziv {k : Nat} {f : zb} (hs : zLb f) (hk : Fuel k f) (hF : Fine f) {i : Nat} (hi : i < nS f) : zbg k f (i : Int) = some (zfc f i, 0) := by
 obtain ⟨c, hc, hc'⟩ := zjk hs hk
 rw [if_pos hF] at hc'
 subst hc'
 obtain ⟨s, e1, rfl⟩ := zCo hs hk hF hi
 unfold zbg
 rw [hc]
 have t : ((0 : Int) != 0) = false := by decide
 have t2 : (!(decide (0 ≤ (i : Int)) && decide ((i : Int) ≤ (nS f : Int) - 1))) = false := by simp; omega
 simp only [Option.bind_some, t, cond_false, zhn hs, t2, e1]
theorem zZv {k : Nat} {f : zb} (hs : zLb f) (hk : Fuel k f) (hF : Fine f) {i : Nat} (hi : i < nS f) : zog k f (i : Int) = some (⟨zuc f i (·.Low), zuc f i (·.High)⟩, 0) := by
 obtain ⟨c, hc, hc'⟩ := zjk hs hk
 rw [if_pos hF] at hc'
 subst hc'
 obtain ⟨a, e1, rfl⟩ := z2r hs hk hF hi
 obtain ⟨b, e2, rfl⟩ := zvq hs hk hF hi
 unfold zog
 rw [hc]
 have t : ((0 : Int) != 0) = false := by decide
 have t2 : (!(decide (0 ≤ (i : Int)) && decide ((i : Int) ≤ (nS f : Int) - 1))) = false := by simp; omega
 simp only [Option.bind_some, t, cond_false, zhn hs, t2, e1, e2]
end Go.AM
set_option linter.unusedVariables false
namespace Go.AM
open Go
section
variable (T U : Nat → Int)
def InT : Int → List Nat → Prop
 | _, [] => True
 | now, x :: t => now + T x ≤ U x ∧ InT (now + T x) t
def lsum (u : Int) : List Nat → Int
 | [] => 0
 | x :: t => (if U x ≤ u then T x else 0) + lsum u t
def zHc (l : List Nat) : Prop := ∀ x ∈ l, lsum T U (U x) l ≤ U x
def CanL (p : Nat) (l : List Nat) : Prop := ∃ g : Nat → Nat, (∀ i ∈ l, g i < p) ∧ ∀ q, zHc T U (l.filter fun i => g i == q)
variable {T U} {u : Int}
theorem zxu {l l' : List Nat} (h : l.Perm l') : lsum T U u l = lsum T U u l' := by
 induction h with
 | nil => rfl
 | cons x _ ih => simp only [lsum, ih]
 | swap x y l => simp only [lsum]; omega
 | trans _ _ h1 h2 => rw [h1, h2]
theorem z1n (hT : ∀ i, 0 ≤ T i) : ∀ l, 0 ≤ lsum T U u l
 | [] => by simp [lsum]
 | x :: t => by
  have := z1n hT t
  have := hT x
  simp only [lsum]
  split <;> omega
theorem zTr (hT : ∀ i, 0 ≤ T i) {l l' : List Nat} (h : l.Sublist l') : lsum T U u l ≤ lsum T U u l' := by
 induction h with
 | slnil => exact Int.le_refl _
 | cons x _ ih =>
  have := hT x
  simp only [lsum]
  split <;> omega
 | cons_cons x _ ih => simp only [lsum]; omega
theorem zHc.perm {l l' : List Nat} (h : l.Perm l') (hf : zHc T U l) : zHc T U l' := fun x hx => by
 rw [← zxu h]
 exact hf x (h.mem_iff.2 hx)
theorem zHc.sub (hT : ∀ i, 0 ≤ T i) {l l' : List Nat} (h : l.Sublist l') (hf : zHc T U l') : zHc T U l := fun x hx => by
 have := hf x (h.subset hx)
 have := zTr (U := U) (u := U x) hT h
 omega
theorem zHc.nil : zHc T U [] := fun x hx => by cases hx
theorem InT.low (hT : ∀ i, 0 ≤ T i) : ∀ {l : List Nat} {now : Int}, InT T U now l → ∀ u, (∃ x ∈ l, U x ≤ u) → now + lsum T U u l ≤ u
 | [], _, _, u, ⟨x, hx, _⟩ => by cases hx
 | x :: t, now, h, u, hex => by
  obtain ⟨h1, h2⟩ := h
  have hTx := hT x
  simp only [lsum]
  by_cases ht : ∃ y ∈ t, U y ≤ u
  ·have := InT.low hT h2 u ht
   split <;> omega
  ·have hx : U x ≤ u := by
    obtain ⟨y, hy, hyu⟩ := hex
    rcases List.mem_cons.1 hy with rfl | hy
    ·exact hyu
    ·exact absurd ⟨y, hy, hyu⟩ ht
   have h0 : lsum T U u t = 0 := by
    have : ∀ l : List Nat, (¬ ∃ y ∈ l, U y ≤ u) → lsum T U u l = 0 := by
     intro l
     induction l with
     | nil => intro _; rfl
     | cons a l ih =>
      intro h
      simp only [lsum]
      rw [if_neg (fun e => h ⟨a, by simp, e⟩), ih fun ⟨y, hy, e⟩ => h ⟨y, by simp [hy], e⟩]
      omega
    exact this t ht
   rw [if_pos hx, h0]
   omega
theorem InT.fits (hT : ∀ i, 0 ≤ T i) {l : List Nat} (h : InT T U 0 l) : zHc T U l := fun x hx => by
 have := InT.low hT h (U x) ⟨x, hx, Int.le_refl _⟩
 omega
theorem InT.of_sorted (hT : ∀ i, 0 ≤ T i) : ∀ {l : List Nat} {now : Int}, l.Pairwise (fun a b => U a ≤ U b) → (∀ x ∈ l, now + lsum T U (U x) l ≤ U x) → InT T U now l
 | [], _, _, _ => trivial
 | x :: t, now, hs, h => by
  rw [List.pairwise_cons] at hs
  have hx := h x (by simp)
  have h0 := z1n (U := U) (u := U x) hT t
  simp only [lsum, Int.le_refl, if_true] at hx
  refine ⟨by omega, InT.of_sorted hT hs.2 fun y hy => ?_⟩
  have := h y (by simp [hy])
  simp only [lsum] at this
  rw [if_pos (hs.1 y hy)] at this
  omega
theorem zHc.inT (hT : ∀ i, 0 ≤ T i) {l : List Nat} (hs : l.Pairwise fun a b => U a ≤ U b) (h : zHc T U l) : InT T U 0 l :=
 InT.of_sorted hT hs fun x hx => by have := h x hx; omega
theorem CanL.perm {p : Nat} {l l' : List Nat} (h : l.Perm l') : CanL T U p l → CanL T U p l' := fun ⟨g, h1, h2⟩ =>
 ⟨g, fun i hi => h1 i (h.mem_iff.2 hi), fun q => (h2 q).perm (h.filter _)⟩
theorem CanL.sub (hT : ∀ i, 0 ≤ T i) {p : Nat} {l l' : List Nat} (h : l.Sublist l') : CanL T U p l' → CanL T U p l := fun ⟨g, h1, h2⟩ =>
 ⟨g, fun i hi => h1 i (h.subset hi), fun q => (h2 q).sub hT (h.filter _)⟩
theorem CanL.more {p q : Nat} (hpq : p ≤ q) {l : List Nat} : CanL T U p l → CanL T U q l := fun ⟨g, h1, h2⟩ =>
 ⟨g, fun i hi => by have := h1 i hi; omega, h2⟩
theorem CanL.nil (p : Nat) : CanL T U p [] := ⟨fun _ => 0, fun i hi => (by cases hi), fun q => zHc.nil⟩
theorem CanL.zero {l : List Nat} : CanL T U 0 l ↔ l = [] := by
 constructor
 ·rintro ⟨g, h1, _⟩
  cases l with
  | nil => rfl
  | cons x t => exact absurd (h1 x (by simp)) (by omega)
 ·rintro rfl; exact .nil 0
theorem CanL.step {p : Nat} {l : List Nat} {a : Nat} (ha : a ∈ l) : CanL T U (p + 1) l ↔ ∃ sub : Nat → Bool, sub a = true ∧ zHc T U (l.filter sub) ∧ CanL T U p (l.filter fun i => !sub i) := by
 constructor
 ·rintro ⟨g, h1, h2⟩
  refine ⟨fun i => g i == g a, by simp, h2 _, fun i => if g i = p then g a else g i, fun i hi => ?_, fun q => ?_⟩
  ·have hi' := List.mem_filter.1 hi
   have hlt := h1 i hi'.1
   have hne : g i ≠ g a := by simpa using hi'.2
   dsimp only
   split
   ·have := h1 a ha; omega
   ·omega
  ·by_cases hq : q = g a
   ·subst hq
    have e : ((l.filter fun i => !(g i == g a)).filter fun i => (if g i = p then g a else g i) == g a) = (l.filter fun i => g i == p).filter fun i => !(g i == g a) := by
     rw [List.filter_filter, List.filter_filter]
     refine List.filter_congr fun i _ => ?_
     by_cases h : g i = g a
     ·simp [h]
     ·by_cases h' : g i = p <;> simp [h, h']
    rw [e]
    by_cases hp : g a = p
    ·have : (l.filter fun i => g i == p).filter (fun i => !(g i == g a)) = [] := by
      rw [List.filter_filter]
      refine List.filter_eq_nil_iff.2 fun i _ => ?_
      rw [hp]; simp
     rw [this]
     exact .nil
    ·have : (l.filter fun i => g i == p).filter (fun i => !(g i == g a)) = l.filter fun i => g i == p := by
      rw [List.filter_filter]
      refine List.filter_congr fun i _ => ?_
      by_cases h : g i = p
      ·have : ¬ p = g a := fun e => hp e.symm
       simp [h, this]
      ·simp [h]
     rw [this]
     exact h2 p
   ·by_cases hqp : q = p
    ·have : ((l.filter fun i => !(g i == g a)).filter fun i => (if g i = p then g a else g i) == q) = [] := by
      rw [List.filter_filter]
      refine List.filter_eq_nil_iff.2 fun i _ => ?_
      subst hqp
      by_cases h : g i = q
      ·have : ¬ g a = q := fun e => hq e.symm
       simp [h, this]
      ·simp [h]
     rw [this]
     exact .nil
    ·have : ((l.filter fun i => !(g i == g a)).filter fun i => (if g i = p then g a else g i) == q) = l.filter fun i => g i == q := by
      rw [List.filter_filter]
      refine List.filter_congr fun i _ => ?_
      by_cases h : g i = p
      ·have e1 : (g a == q) = false := by simp; omega
       have e2 : (p == q) = false := by simp; omega
       simp [h, e1, e2]
      ·by_cases h' : g i = q
       ·simp [h', hqp, hq]
       ·simp [h, h']
     rw [this]
     exact h2 q
 ·rintro ⟨sub, hsa, hf, g, h1, h2⟩
  refine ⟨fun i => if sub i then p else g i, fun i hi => ?_, fun q => ?_⟩
  ·dsimp only
   cases hs : sub i with
   | true => simp
   | false =>
    have := h1 i (List.mem_filter.2 ⟨hi, by simp [hs]⟩)
    simp; omega
  ·by_cases hq : q = p
   ·have : (l.filter fun i => (if sub i = true then p else g i) == q) = l.filter sub := by
     refine List.filter_congr fun i hi => ?_
     cases hs : sub i with
     | true => simp [hq]
     | false =>
      have := h1 i (List.mem_filter.2 ⟨hi, by simp [hs]⟩)
      simp; omega
    rw [this]
    exact hf
   ·have : (l.filter fun i => (if sub i = true then p else g i) == q) = (l.filter fun i => !sub i).filter fun i => g i == q := by
     rw [List.filter_filter]
     refine List.filter_congr fun i hi => ?_
     cases hs : sub i with
     | true => simp; omega
     | false => simp
    rw [this]
    exact h2 q
end
end Go.AM
set_option linter.unusedVariables false
namespace Go.AM
open Go
abbrev TT (f : zb) (i : Nat) : Int := zuc f i (·.High)
abbrev UU (f : zb) (i : Nat) : Int := (slp f i).Until
def mem (n S : Nat) : List Nat := (List.range n).filter fun i => S.testBit i
def cst (q : List Nat) : List Int := q.map fun i : Nat => (i : Int)
theorem zgg (q : List Nat) : (cst q).length = q.length := by simp [cst]
theorem zTj {n S i : Nat} : i ∈ mem n S ↔ i < n ∧ S.testBit i = true := by simp [mem]
theorem zSr (n S : Nat) : mem (n + 1) S = mem n S ++ (if S.testBit n then [n] else []) := by
 simp only [mem, List.range_succ, List.filter_append]
 cases h : S.testBit n <;> simp [h]
theorem zdt (n S : Nat) : (mem n S).length ≤ n := by
 have := List.length_filter_le (fun i => S.testBit i) (List.range n)
 simpa [mem] using this
theorem zIq {q : List Nat} {i : Nat} (h : i < q.length) : idx (cst q) (i : Int) = some ((q[i] : Nat) : Int) := by
 rw [zAb (by rw [zgg]; exact h)]
 simp [cst]
theorem zzt {f : zb} (hF : Fine f) {i : Nat} (h : i < nS f) : 0 ≤ UU f i ∧ UU f i ≤ 100000 := (zhf hF h).1.1
theorem z9o {f : zb} (hF : Fine f) {i : Nat} (h : i < nS f) : 0 ≤ TT f i ∧ TT f i ≤ 2472000 := (zAj hF zvm (zUi hF) h).2
theorem zPt {k : Nat} {f : zb} (hs : zLb f) (hk : Fuel k f) (hF : Fine f) : Ok (zmd k ⟨f⟩) (fun r => r.1 = (List.range (nS f)).map (TT f)) := by
 unfold zmd
 refine Ok.bind (P := fun v : Int × List Int => v.2 = (List.range (nS f)).map (TT f)) ?_ fun v hv => Ok.pure hv
 have h9 := hF.nslips
 refine Ok.count (nS f) (fun j s => s.1 = (j : Int) ∧ s.2 = (List.range j).map (TT f)) ?_ ?_ ⟨rfl, rfl⟩ hk.slips
 ·rintro j ⟨a, l⟩ hj ⟨ha, hl⟩
  obtain rfl : a = (j : Int) := ha
  obtain rfl : l = _ := hl
  obtain ⟨t, ht, rfl⟩ := zvq hs hk hF hj
  have e : decide (((List.range j).map (TT f)).length + 1 ≤ LIM) = true := by simp [LIM]; omega
  simp only [zwc, zic hj, cond_true, ht, Option.bind_some, e]
  refine Ok.pure ⟨zub hj hs.slips, ?_⟩
  rw [List.range_succ, List.map_append]
  rfl
 ·rintro ⟨a, l⟩ ⟨ha, hl⟩
  obtain rfl : a = (nS f : Int) := ha
  simp only [zwc, zne, cond_false]
  exact Ok.pure hl
theorem zXv {k : Nat} {f : zb} (hs : zLb f) (hk : Fuel k f) (hF : Fine f) {S : Nat} (hS : S < 2 ^ nS f) (p2 : SL Int) : Ok (iter (fun s => zjc k ⟨f⟩ (S : Int) p2 s.1 s.2) k (0, ([] : List Int))) (fun r => r.2 = cst (mem (nS f) S)) := by
 have h9 := hF.nslips
 have h2 : S < 2 ^ 63 := by
  have : 2 ^ nS f ≤ 2 ^ 9 := Nat.pow_le_pow_right (by omega) h9
  omega
 refine Ok.count (nS f) (fun j s => s.1 = (j : Int) ∧ s.2 = cst (mem j S)) ?_ ?_ ⟨rfl, rfl⟩ hk.slips
 ·rintro j ⟨a, l⟩ hj ⟨ha, hl⟩
  obtain rfl : a = (j : Int) := ha
  obtain rfl : l = _ := hl
  have e1 : decide ((j : Int) < 0) = false := by simp
  have hml := zdt j S
  have e2 : decide ((cst (mem j S)).length + 1 ≤ LIM) = true := by rw [zgg]; simp [LIM]; omega
  simp only [zjc, zic hj, cond_true, e1, cond_false, zCu (show j < 64 by omega) h2, e2]
  cases hb : S.testBit j with
  | true =>
   simp only [cond_true]
   refine Ok.pure ⟨zub hj hs.slips, ?_⟩
   rw [zSr, hb]
   simp [cst]
  | false =>
   simp only [cond_false]
   refine Ok.pure ⟨zub hj hs.slips, ?_⟩
   rw [zSr, hb]
   simp
 ·rintro ⟨a, l⟩ ⟨ha, hl⟩
  obtain rfl : a = (nS f : Int) := ha
  simp only [zjc, zne, cond_false]
  exact Ok.pure hl
abbrev Srt (f : zb) (q : List Nat) : Prop := q.Pairwise fun a b => UU f a ≤ UU f b
theorem zXu {k : Nat} {f : zb} (hk : Fuel k f) (hF : Fine f) (v1 : Int × List Int) (v3 : Int × Int × List Int) (h3 : v3.1 = 0) (i : Int) {P0 R : List Nat} {x : Nat} (hP : Srt f P0) (hin : ∀ y ∈ P0 ++ x :: R, y < nS f) (hlen : P0.length < 100) :
  Ok (iter (fun s => zJc k ⟨f⟩ v1 v3 i s.1 s.2) k ((P0.length : Int), cst (P0 ++ x :: R))) (fun r => ∃ P', r.2 = cst (P' ++ R) ∧ Srt f P' ∧ P'.Perm (x :: P0)) := by
 refine Ok.iter (fun j s => ∃ m, m + j = P0.length ∧ s.1 = (m : Int) ∧ s.2 = cst (P0.take m ++ x :: (P0.drop m ++ R)) ∧ ∀ q ∈ P0.drop m, UU f x < UU f q) P0.length ?_ ⟨P0.length, by omega, rfl, by simp, by simp⟩ (by have := hk.k0; omega)
 rintro j ⟨a, l⟩ hj ⟨m, hm, ha, hl, hq⟩
 obtain rfl : a = (m : Int) := ha
 obtain rfl : l = _ := hl
 have hx : x < nS f := hin x (by simp)
 have ends : (∀ m', m = m' + 1 → ∀ h : m' < P0.length, ¬ UU f x < UU f P0[m']) → ∃ P', cst (P0.take m ++ x :: (P0.drop m ++ R)) = cst (P' ++ R) ∧ Srt f P' ∧ P'.Perm (x :: P0) := by
  intro hend
  refine ⟨P0.take m ++ x :: P0.drop m, by simp, ?_, ?_⟩
  ·have hP' : Srt f (P0.take m ++ P0.drop m) := by rw [List.take_append_drop]; exact hP
   rw [Srt, List.pairwise_append] at hP' ⊢
   obtain ⟨a1, a2, a3⟩ := hP'
   refine ⟨a1, List.pairwise_cons.2 ⟨fun q hq' => Int.le_of_lt (hq q hq'), a2⟩, fun y hy z hz => ?_⟩
   rcases List.mem_cons.1 hz with rfl | hz
   ·cases m with
    | zero => simp at hy
    | succ m =>
     have hml : m < P0.length := by omega
     have h1 := hend m rfl hml
     have hyp : UU f y ≤ UU f P0[m] := by
      rw [List.take_succ_eq_append_getElem hml] at hy a1
      rcases List.mem_append.1 hy with hy | hy
      ·exact (List.pairwise_append.1 a1).2.2 y hy _ (by simp)
      ·simp at hy; rw [hy]; exact Int.le_refl _
     omega
   ·exact a3 y hy z hz
  ·have : (P0.take m ++ x :: P0.drop m).Perm (x :: (P0.take m ++ P0.drop m)) := List.perm_middle
   rwa [List.take_append_drop] at this
 simp only [zJc, zEd, h3]
 cases m with
 | zero =>
  have e : decide (((0 : Nat) : Int) > 0) = false := by decide
  simp only [e, cond_false, Option.bind_some]
  exact Ok.pure (ends fun m' hm' => by omega)
 | succ m =>
  have hml : m < P0.length := by omega
  have e : decide (((m + 1 : Nat) : Int) > 0) = true := by simp
  have e1 : w64 (((m + 1 : Nat) : Int) - 1) = (m : Int) := by rw [zR (by omega) (by omega)]; omega
  have hp : P0[m] < nS f := hin _ (by simp)
  have hsplit : P0.take (m + 1) ++ x :: (P0.drop (m + 1) ++ R) = P0.take m ++ P0[m] :: x :: (P0.drop (m + 1) ++ R) := by
   rw [List.take_succ_eq_append_getElem hml, List.append_assoc]; rfl
  have hlt : (P0.take m).length = m := by rw [List.length_take]; omega
  have at0 : ∀ (c : Nat) (W : List Nat), idx (cst (P0.take m ++ c :: W)) (m : Int) = some (c : Int) := fun c W => by
   rw [zIq (by rw [List.length_append, List.length_cons, hlt]; omega), List.getElem_append_right (by omega)]
   simp [hlt]
  have at1 : ∀ (c d : Nat) (W : List Nat), idx (cst (P0.take m ++ c :: d :: W)) ((m + 1 : Nat) : Int) = some (d : Int) := fun c d W => by
   rw [zIq (by rw [List.length_append, List.length_cons, List.length_cons, hlt]; omega), List.getElem_append_right (by omega)]
   simp [hlt]
  have set0 : ∀ (c d : Nat) (W : List Nat), (cst (P0.take m ++ c :: W)).set m (d : Int) = cst (P0.take m ++ d :: W) := fun c d W => by
   unfold cst
   rw [List.map_append, List.map_append, List.set_append_right _ _ (by rw [List.length_map, hlt]; omega), List.length_map, hlt, Nat.sub_self]
   rfl
  have set1 : ∀ (c d e : Nat) (W : List Nat), (cst (P0.take m ++ c :: d :: W)).set (m + 1) (e : Int) = cst (P0.take m ++ c :: e :: W) := fun c d e W => by
   unfold cst
   rw [List.map_append, List.map_append, List.set_append_right _ _ (by rw [List.length_map, hlt]; omega), List.length_map, hlt, Nat.add_sub_cancel_left]
   rfl
  have i1 : idx (cst (P0.take (m + 1) ++ x :: (P0.drop (m + 1) ++ R))) ((m + 1 : Nat) : Int) = some (x : Int) := by
   rw [hsplit]; exact at1 _ _ _
  have i2 : idx (cst (P0.take (m + 1) ++ x :: (P0.drop (m + 1) ++ R))) (m : Int) = some ((P0[m] : Nat) : Int) := by
   rw [hsplit]; exact at0 _ _
  have u1 := zzt hF hx
  have u2 := zzt hF hp
  have s1 : (cst (P0.take (m + 1) ++ x :: (P0.drop (m + 1) ++ R))).set ((m + 1 : Nat) : Int).toNat ((P0[m] : Nat) : Int) = cst (P0.take m ++ P0[m] :: P0[m] :: (P0.drop (m + 1) ++ R)) := by
   rw [hsplit, Int.toNat_natCast]; exact set1 _ _ _ _
  have i3 : idx ((cst (P0.take (m + 1) ++ x :: (P0.drop (m + 1) ++ R))).set ((m + 1 : Nat) : Int).toNat ((P0[m] : Nat) : Int)) (m : Int) = some ((P0[m] : Nat) : Int) := by
   rw [s1]; exact at0 _ _
  have hset : ((cst (P0.take (m + 1) ++ x :: (P0.drop (m + 1) ++ R))).set ((m + 1 : Nat) : Int).toNat ((P0[m] : Nat) : Int)).set (m : Int).toNat (x : Int) = cst (P0.take m ++ x :: (P0.drop m ++ R)) := by
   rw [s1, Int.toNat_natCast, set0, List.drop_eq_getElem_cons hml]; rfl
  have hus : (slp f x).Until = UU f x := rfl
  have hup : (slp f P0[m]).Until = UU f P0[m] := rfl
  simp only [e, cond_true, e1, i1, i2, Option.bind_some, zmh hx, zmh hp, hus, hup]
  rw [zR (by omega) (by omega)]
  cases hb : decide (UU f x - UU f P0[m] < 0) with
  | true =>
   simp only [cond_true, i3, Option.bind_some, hset]
   refine Ok.pure ⟨by omega, m, by omega, rfl, rfl, fun q hq' => ?_⟩
   rw [List.drop_eq_getElem_cons hml] at hq'
   rcases List.mem_cons.1 hq' with rfl | hq'
   ·have : UU f x - UU f P0[m] < 0 := by simpa using hb
    omega
   ·exact hq q hq'
  | false =>
   simp only [cond_false]
   refine Ok.pure (ends fun m' hm' h => ?_)
   obtain rfl : m = m' := by omega
   have : ¬ UU f x - UU f P0[m] < 0 := by simpa using hb
   omega
theorem zSu {k : Nat} {f : zb} (hk : Fuel k f) (hF : Fine f) {q0 : List Nat} (v1 : Int × List Int) (h1 : v1.2 = cst q0) (v3 : Int × Int × List Int) (h3 : v3.1 = 0) (hin : ∀ y ∈ q0, y < nS f) (hlen : q0.length ≤ 9) :
  Ok (iter (fun s => z4b k ⟨f⟩ v1 v3 s.1 s.2) k (1, cst q0)) (fun r => ∃ q, r.2 = cst q ∧ Srt f q ∧ q.Perm q0) := by
 refine Ok.count (q0.length - 1) (fun j s => s.1 = ((j + 1 : Nat) : Int) ∧ ∃ q, s.2 = cst q ∧ Srt f (q.take (j + 1)) ∧ q.Perm q0) ?_ ?_ ⟨rfl, q0, rfl, by cases q0 <;> simp [Srt], .refl _⟩ (by have := hk.k0; omega)
 ·rintro j ⟨a, l⟩ hj ⟨ha, q, hl, hsq, hp⟩
  obtain rfl : a = ((j + 1 : Nat) : Int) := ha
  obtain rfl : l = cst q := hl
  have hq := hp.length_eq
  have hjq : j + 1 < q.length := by omega
  have e : decide (((j + 1 : Nat) : Int) < (v1.2.length : Int)) = true := by rw [h1, zgg]; simp; omega
  simp only [z4b, e, cond_true]
  have hsp : q = q.take (j + 1) ++ q[j + 1] :: q.drop (j + 2) := by
   rw [← List.drop_eq_getElem_cons hjq, List.take_append_drop]
  have hl : (q.take (j + 1)).length = j + 1 := by simp; omega
  have st : (((j + 1 : Nat) : Int), cst q) = (((q.take (j + 1)).length : Int), cst (q.take (j + 1) ++ q[j + 1] :: q.drop (j + 2))) := by rw [← hsp, hl]
  rw [st]
  refine Ok.bind (zXu hk hF v1 v3 h3 _ hsq (fun y hy => hin y (hp.mem_iff.1 (by rw [hsp]; exact hy))) (by omega)) fun v ⟨P', e1, e2, e3⟩ => ?_
  have hPl : P'.length = j + 2 := by have := e3.length_eq; simp only [List.length_cons, hl] at this; omega
  refine Ok.pure ⟨by rw [zR (by omega) (by omega)]; push_cast; omega, P' ++ q.drop (j + 2), e1, ?_, ?_⟩
  ·show Srt f ((P' ++ q.drop (j + 2)).take (j + 1 + 1))
   rw [List.take_append_of_le_length (by omega), List.take_of_length_le (by omega)]
   exact e2
  ·refine List.Perm.trans ?_ hp
   have : (q[j + 1] :: q.take (j + 1) ++ q.drop (j + 2)).Perm q := by
    conv => rhs; rw [hsp]
    exact List.perm_middle.symm
   exact (e3.append_right _).trans this
 ·rintro ⟨a, l⟩ ⟨ha, q, hl, hsq, hp⟩
  obtain rfl : a = ((q0.length - 1 + 1 : Nat) : Int) := ha
  obtain rfl : l = cst q := hl
  have hq := hp.length_eq
  have e : decide (((q0.length - 1 + 1 : Nat) : Int) < (v1.2.length : Int)) = false := by rw [h1, zgg]; simp; omega
  simp only [z4b, e, cond_false]
  refine Ok.pure ⟨q, rfl, ?_, hp⟩
  rwa [List.take_of_length_le (by omega)] at hsq
theorem z8u {k : Nat} {f : zb} (hk : Fuel k f) (hF : Fine f) {q : List Nat} (p1 : Int) {p2 : SL Int} (h2 : p2.1 = (List.range (nS f)).map (TT f)) (v1 v5 : Int × List Int) (h5 : v5.2 = cst q) (hin : ∀ y ∈ q, y < nS f) (hlen : q.length ≤ 9) :
  Ok (iter (fun s => z5b k ⟨f⟩ p1 p2 v1 v5 s.1 s.2) k (0, 0)) (fun r => match r with
   | .inl _ => ¬ InT (TT f) (UU f) 0 q
   | .inr _ => InT (TT f) (UU f) 0 q) := by
 refine Ok.count q.length (fun j s => s.2 = (j : Int) ∧ (0 ≤ s.1 ∧ s.1 ≤ 3000000 * (j : Int)) ∧ (InT (TT f) (UU f) 0 q ↔ InT (TT f) (UU f) s.1 (q.drop j))) ?_ ?_ ⟨rfl, by simp, by simp⟩ (by have := hk.k0; omega)
 ·rintro j ⟨now, a⟩ hj ⟨ha, hb, hi⟩
  obtain rfl : a = (j : Int) := ha
  have hx : q[j] < nS f := hin _ (by simp)
  have ht := z9o hF hx
  have hu := zzt hF hx
  have hb : 0 ≤ now ∧ now ≤ 3000000 * j := hb
  have e1 : decide ((j : Int) < (v5.2.length : Int)) = true := by rw [h5, zgg]; simp; omega
  have e2 : idx p2.1 ((q[j] : Nat) : Int) = some (TT f q[j]) := by
   rw [h2, zAb (by simpa using hx)]; simp
  have e3 : idx v5.2 (j : Int) = some ((q[j] : Nat) : Int) := by rw [h5]; exact zIq hj
  simp only [z5b, e1, cond_true, e3, e2, Option.bind_some, zmh hx]
  rw [zR (n := now + TT f q[j]) (by omega) (by omega)]
  rw [List.drop_eq_getElem_cons hj] at hi
  refine Ok.cond (fun hc => Ok.pure ?_) (fun hc => Ok.pure ?_)
  ·show ¬ InT (TT f) (UU f) 0 q
   rw [hi]
   rintro ⟨h, _⟩
   have : now + TT f q[j] > UU f q[j] := by simpa using hc
   have h : now + TT f q[j] ≤ UU f q[j] := h
   omega
  ·have : ¬ now + TT f q[j] > UU f q[j] := by simpa using hc
   refine ⟨by rw [zR (by omega) (by omega)]; push_cast; rfl, by show 0 ≤ now + _ ∧ now + _ ≤ _; push_cast; omega, ?_⟩
   rw [hi]
   exact ⟨fun h => h.2, fun h => ⟨by show now + TT f q[j] ≤ UU f q[j]; omega, h⟩⟩
 ·rintro ⟨now, a⟩ ⟨ha, hb, hi⟩
  obtain rfl : a = (q.length : Int) := ha
  have e1 : decide ((q.length : Int) < (v5.2.length : Int)) = false := by rw [h5, zgg]; simp
  simp only [z5b, e1, cond_false]
  refine Ok.pure ?_
  show InT (TT f) (UU f) 0 q
  rw [hi]
  simp [InT]
theorem zTm {f : zb} (hF : Fine f) (i : Nat) : 0 ≤ TT f i := by
 by_cases h : i < nS f
 ·exact (z9o hF h).1
 ·have hl : lns f i = [] := by
   show (slp f i).Lines.1 = []
   unfold slp
   rw [List.getElem?_eq_none (by have e : f.Slips.1.length = nS f := rfl; omega)]; rfl
  have h0 : zfc f i = 0 := by
   unfold zfc
   rw [hl]
   have : ex (pc []) (nF f) = [] := z5p.2 fun j _ => rfl
   rw [this]; rfl
  show 0 ≤ zuc f i _
  unfold zuc
  rw [hl, h0]
  simp [pks]
theorem zdw {k : Nat} {f : zb} (hs : zLb f) (hk : Fuel k f) (hF : Fine f) {S : Nat} (hS : S < 2 ^ nS f) {p2 : SL Int} (h2 : p2.1 = (List.range (nS f)).map (TT f)) :
  Ok (zSd k ⟨f⟩ (S : Int) p2) (fun r => (r.2 = true ∧ zHc (TT f) (UU f) (mem (nS f) S) ∧ ∃ q, r.1.1 = cst q ∧ q.Perm (mem (nS f) S) ∧ InT (TT f) (UU f) 0 q) ∨ (r.2 = false ∧ ¬ zHc (TT f) (UU f) (mem (nS f) S))) := by
 unfold zSd
 have h9 := hF.nslips
 have hml := zdt (nS f) S
 obtain ⟨k', rfl⟩ : ∃ k', k = k' + 1 := ⟨k - 1, by have := hk.k0; omega⟩
 refine Ok.bind (zXv hs hk hF hS p2) fun v1 h1 => ?_
 have hlen : v1.2.length ≤ 9 := by rw [h1, zgg]; omega
 have o3 : iter (fun s => z0c (k' + 1) ⟨f⟩ v1 s.1 s.2.1 s.2.2) (k' + 1) (0, 20, v1.2) = some (0, 20, v1.2) := by
  have e : decide ((20 : Int) ≤ (v1.2.length : Int)) = false := by simp; omega
  simp [iter, z0c, e]
 rw [o3]
 simp only [Option.bind_some]
 rw [show w64 (0 + 1) = 1 by rfl, h1]
 refine Ok.bind (zSu hk hF v1 h1 _ rfl (fun y hy => (zTj.1 hy).1) (by omega)) fun v5 ⟨q, h5, hsq, hp⟩ => ?_
 have hq := hp.length_eq
 have e1 : decide ((cst (mem (nS f) S)).length = v5.2.length) = true := by rw [h5, zgg, zgg]; simp; omega
 have e2 : decide (v1.2.length = v5.2.length) = true := by rw [h1]; exact e1
 have e3 : iter (fun _ : Unit => zHb (k' + 1) ⟨f⟩ v1 (0, 20, v1.2) v5) (k' + 1) () = some () := by
  have e : decide ((20 : Int) < (v1.2.length : Int)) = false := by simp; omega
  simp [iter, zHb, e]
 rw [h1] at e3
 rw [e1]
 simp only [cond_true]
 have e3' : iter (fun _ : Unit => zHb (k' + 1) ⟨f⟩ v1 (0, 20, cst (mem (nS f) S)) v5) (k' + 1) () = some () := e3
 rw [e3']
 simp only [Option.bind_some]
 have hin : ∀ y ∈ q, y < nS f := fun y hy => (zTj.1 (hp.mem_iff.1 hy)).1
 refine Ok.bind (z8u hk hF _ h2 v1 v5 h5 hin (by omega)) fun v h => ?_
 cases v with
 | inl v =>
  refine Ok.pure (.inr ⟨rfl, fun hf => h ?_⟩)
  exact (hf.perm hp.symm).inT (zTm hF) hsq
 | inr v =>
  refine Ok.pure (.inl ⟨rfl, (InT.fits (zTm hF) h).perm hp, q, h5, hp, h⟩)
end Go.AM
set_option linter.unusedVariables false
namespace Go.AM
open Go
theorem z1w {x y : Nat} (hx : x < 2 ^ 63) (hy : y < 2 ^ 63) : zfd (x : Int) (y : Int) = ((x &&& y : Nat) : Int) := by
 unfold zfd
 rw [BitVec.toNat_and, BitVec.ofInt_natCast, BitVec.ofInt_natCast, BitVec.toNat_ofNat, BitVec.toNat_ofNat, Nat.mod_eq_of_lt (by omega), Nat.mod_eq_of_lt (by omega), zR]
 ·omega
 ·have : x &&& y ≤ x := Nat.and_le_left
  omega
def low (S : Nat) : Nat := ((List.range 9).find? fun i => S.testBit i).getD 0
theorem zBw : ((List.range 512).all fun S => S == 0 || (zfd (S : Int) (w64 (0 - (S : Int))) == ((2 ^ low S : Nat) : Int) && S.testBit (low S))) = true := by kernel_rfl
theorem zEw : ((List.range 512).all fun p => (List.range 9).all fun a => (zfd (p : Int) ((2 ^ a : Nat) : Int) == 0) == !p.testBit a) = true := by kernel_rfl
theorem zTp {S n i : Nat} (h : S < 2 ^ n) (hb : S.testBit i = true) : i < n := by
 apply Classical.byContradiction
 intro hn
 rw [Nat.testBit_lt_two_pow (Nat.lt_of_lt_of_le h (Nat.pow_le_pow_right (by omega) (by omega)))] at hb
 cases hb
theorem zmx {S : Nat} (h0 : S ≠ 0) (h : S < 512) : S.testBit (low S) = true ∧ ∀ p : Nat, p < 512 → (zfd (p : Int) (zfd (S : Int) (w64 (0 - (S : Int)))) == 0) = !p.testBit (low S) := by
 have h1 := List.all_eq_true.1 zBw S (List.mem_range.2 h)
 simp only [Bool.or_eq_true, beq_iff_eq, Bool.and_eq_true] at h1
 rcases h1 with h1 | ⟨h1, h2⟩
 ·exact absurd h1 h0
 ·refine ⟨h2, fun p hp => ?_⟩
  have h3 := List.all_eq_true.1 zEw p (List.mem_range.2 hp)
  have h4 := List.all_eq_true.1 h3 (low S) (List.mem_range.2 (zTp (n := 9) h h2))
  rw [h1]
  exact beq_iff_eq.1 h4
theorem zex {n S : Nat} (h : S < 2 ^ n) (h0 : S ≠ 0) : mem n S ≠ [] := by
 intro he
 apply h0
 apply Nat.eq_of_testBit_eq
 intro i
 rw [Nat.zero_testBit]
 cases hb : S.testBit i with
 | false => rfl
 | true =>
  have : i ∈ mem n S := zTj.2 ⟨zTp h hb, hb⟩
  rw [he] at this
  cases this
def msk (p : Nat → Bool) : Nat → Nat
 | 0 => 0
 | m + 1 => msk p m ||| (if p m then 2 ^ m else 0)
theorem z6s (p : Nat → Bool) (i : Nat) : ∀ n, (msk p n).testBit i = (decide (i < n) && p i)
 | 0 => by simp [msk]
 | n + 1 => by
  rw [msk, Nat.testBit_or, z6s p i n]
  by_cases hi : i = n
  ·subst hi
   cases h : p i <;> simp
  ·have e : (if p n then 2 ^ n else 0 : Nat).testBit i = false := by
    split
    ·rw [Nat.testBit_two_pow]; simp; omega
    ·simp
   rw [e]
   by_cases h : i < n
   ·simp [h]; omega
   ·have : ¬ i < n + 1 := by omega
    simp [h, this]
theorem zjr {S n : Nat} (h : ∀ i, S.testBit i = true → i < n) : S < 2 ^ n := by
 apply Nat.lt_pow_two_of_testBit
 intro i hi
 cases hb : S.testBit i with
 | false => rfl
 | true => have := h i hb; omega
theorem z2s {x S : Nat} : x &&& S = x ↔ ∀ i, x.testBit i = true → S.testBit i = true := by
 constructor
 ·intro h i hi
  rw [← h, Nat.testBit_and] at hi
  exact (Bool.and_eq_true_iff.1 hi).2
 ·intro h
  apply Nat.eq_of_testBit_eq
  intro i
  rw [Nat.testBit_and]
  cases hb : x.testBit i with
  | false => rfl
  | true => rw [h i hb]; rfl
theorem zpv : ∀ (p x S : Nat), p &&& S = p → x &&& S = x → x < p → x ≤ (p - 1) &&& S := by
 intro p
 induction p using Nat.strongRecOn with
 | _ p ih =>
  intro x S hp hx hlt
  have hp2 : p / 2 &&& S / 2 = p / 2 := by rw [← Nat.and_div_two, hp]
  have hx2 : x / 2 &&& S / 2 = x / 2 := by rw [← Nat.and_div_two, hx]
  have hd : ((p - 1) &&& S) / 2 = (p - 1) / 2 &&& S / 2 := Nat.and_div_two
  have hmx : x % 2 = 1 → S % 2 = 1 := fun h => by
   rw [← hx] at h
   exact (Nat.and_mod_two_eq_one.1 h).2
  by_cases hb : p % 2 = 1
  ·have e : (p - 1) / 2 = p / 2 := by omega
   rw [e, hp2] at hd
   omega
  ·have e : (p - 1) / 2 = p / 2 - 1 := by omega
   have hlt2 : x / 2 < p / 2 := by omega
   have h1 := ih (p / 2) (by omega) (x / 2) (S / 2) hp2 hx2 hlt2
   rw [e] at hd
   rw [← hd] at h1
   by_cases hxo : x % 2 = 1
   ·have : ((p - 1) &&& S) % 2 = 1 := Nat.and_mod_two_eq_one.2 ⟨by omega, hmx hxo⟩
    omega
   ·omega
section
variable {T U : Nat → Int}
theorem zdq {n S x : Nat} (hS : S < 2 ^ 63) (hx : x < 2 ^ 63) : mem n (dif S x) = (mem n S).filter fun i => !x.testBit i := by
 unfold mem
 rw [List.filter_filter]
 refine List.filter_congr fun i _ => ?_
 rw [(zUq hS hx).2.2.2 i, Bool.and_comm]
theorem zyo {n S x : Nat} (h : x &&& S = x) : mem n x = (mem n S).filter fun i => x.testBit i := by
 unfold mem
 rw [List.filter_filter]
 refine List.filter_congr fun i _ => ?_
 cases hb : x.testBit i with
 | false => rfl
 | true => rw [z2s.1 h i hb]; rfl
theorem zVv {n S a p : Nat} (hn : n ≤ 9) (hS : S < 2 ^ n) (ha : S.testBit a = true) : CanL T U (p + 1) (mem n S) ↔ ∃ x, x &&& S = x ∧ x.testBit a = true ∧ zHc T U (mem n x) ∧ CanL T U p (mem n (dif S x)) := by
 have hb : 2 ^ n ≤ 2 ^ 9 := Nat.pow_le_pow_right (by omega) hn
 rw [CanL.step (zTj.2 ⟨zTp hS ha, ha⟩)]
 constructor
 ·rintro ⟨sub, h1, h2, h3⟩
  have hm : ∀ i, (msk (fun i => S.testBit i && sub i) n).testBit i = (decide (i < n) && (S.testBit i && sub i)) := fun i => z6s _ i n
  have hs : msk (fun i => S.testBit i && sub i) n &&& S = msk (fun i => S.testBit i && sub i) n := z2s.2 fun i hi => by
   rw [hm] at hi
   simp only [Bool.and_eq_true] at hi
   exact hi.2.1
  have hlt : msk (fun i => S.testBit i && sub i) n < 2 ^ n := zjr fun i hi => by
   rw [hm] at hi
   simp only [Bool.and_eq_true, decide_eq_true_eq] at hi
   exact hi.1
  refine ⟨_, hs, ?_, ?_, ?_⟩
  ·rw [hm, ha, h1]; simp [zTp hS ha]
  ·rw [zyo hs]
   have : (mem n S).filter (fun i => (msk (fun i => S.testBit i && sub i) n).testBit i) = (mem n S).filter sub := List.filter_congr fun i hi => by
    obtain ⟨h, h'⟩ := zTj.1 hi
    rw [hm, h']; simp [h]
   rw [this]; exact h2
  ·rw [zdq (by omega) (by omega)]
   have : (mem n S).filter (fun i => !(msk (fun i => S.testBit i && sub i) n).testBit i) = (mem n S).filter fun i => !sub i := List.filter_congr fun i hi => by
    obtain ⟨h, h'⟩ := zTj.1 hi
    rw [hm, h']; simp [h]
   rw [this]; exact h3
 ·rintro ⟨x, h1, h2, h3, h4⟩
  have hlt : x ≤ S := by rw [← h1]; exact Nat.and_le_right
  refine ⟨fun i => x.testBit i, h2, ?_, ?_⟩
  ·rw [← zyo h1]; exact h3
  ·rw [← zdq (by omega) (by omega)]; exact h4
end
def Ros (f : zb) (p S : Nat) (rows : List (SL Int)) : Prop := rows.length = p ∧ ∃ qs : List (List Nat), rows.map (·.1) = qs.map cst ∧ qs.flatten.Perm (mem (nS f) S) ∧ ∀ q ∈ qs, InT (TT f) (UU f) 0 q
abbrev Can (f : zb) (p S : Nat) : Prop := CanL (TT f) (UU f) p (mem (nS f) S)
def zRn (f : zb) (p S : Nat) (l : SL (SL Int)) : Prop := (l.2 = .nil → ¬ Can f p S) ∧ (l.2 ≠ .nil → Can f p S ∧ Ros f p S l.1)
abbrev Memo := List (zp × SL (SL Int))
def zOe (f : zb) (u : Memo) : Prop := ∀ p S : Nat, S < 2 ^ nS f → ∀ l, zS zu ⟨(S : Int), (p : Int)⟩ u = some l → zRn f p S l
theorem zTs (a b : zp) : zu a b = true ↔ a = b := by
 cases a; cases b
 simp [zu]
theorem zOe.set {f : zb} {u : Memo} (h : zOe f u) {p S : Nat} {l : SL (SL Int)} (hl : zRn f p S l) : zOe f (mset zu ⟨(S : Int), (p : Int)⟩ l u) := by
 intro p' S' hS' l' h'
 rw [zfs zTs] at h'
 split at h'
 ·rename_i e
  simp only [zp.mk.injEq] at e
  obtain ⟨e1, e2⟩ := e
  obtain rfl : S' = S := by omega
  obtain rfl : p' = p := by omega
  simp only [Option.some.injEq] at h'
  subst h'
  exact hl
 ·exact h p' S' hS' l' h'
abbrev RcT := Memo → zp → Option (SL (SL Int) × Memo)
def RcOK (f : zb) (p : Nat) (rc : RcT) : Prop := ∀ (u : Memo) (S : Nat), zOe f u → S < 2 ^ nS f → Ok (rc u ⟨(S : Int), (p : Int)⟩) (fun r => zOe f r.2 ∧ zRn f p S r.1)
theorem zsu {k : Nat} {f : zb} (hs : zLb f) (hk : Fuel k f) (hF : Fine f) (p1 : zp) {v1 : SL Int} (h1 : v1.1 = (List.range (nS f)).map (TT f)) (u0 : Memo) {S p : Nat} (hS : S < 2 ^ nS f) (h0 : S ≠ 0) (hp : p < 8) {rc : RcT} (hrc : RcOK f p rc) {u : Memo} (hu : zOe f u) :
  Ok (iter (fun s => zKc k ⟨f⟩ p1 v1 u0 ⟨(S : Int), ((p + 1 : Nat) : Int)⟩ rc s.1 s.2) k ((S : Int), u)) (fun r => match r with
   | .inl v => zOe f v.2 ∧ ¬ Can f (p + 1) S
   | .inr v => zOe f v.2.2.2.2.2 ∧ v.1.2 ≠ .nil ∧ Can f (p + 1) S ∧ Ros f (p + 1) S v.1.1) := by
 have h9 := hF.nslips
 have hb : 2 ^ nS f ≤ 2 ^ 9 := Nat.pow_le_pow_right (by omega) h9
 obtain ⟨hla, hlow⟩ := zmx h0 (show S < 512 by omega)
 have hstep := zVv (T := TT f) (U := UU f) (p := p) h9 hS hla
 refine Ok.iter (fun j s => ∃ x : Nat, s.1 = (x : Int) ∧ x &&& S = x ∧ x + j ≤ 511 ∧ zOe f s.2 ∧ ∀ y, y &&& S = y → x < y → y.testBit (low S) = true → ¬ (zHc (TT f) (UU f) (mem (nS f) y) ∧ Can f p (dif S y))) 511 ?_ ⟨S, rfl, Nat.and_self S, by omega, hu, fun y hy hlt => absurd (show y ≤ S by rw [← hy]; exact Nat.and_le_right) (by omega)⟩ (by have := hk.k0; omega)
 rintro j ⟨a, u⟩ hj ⟨x, ha, hx, hxj, hm, hall⟩
 obtain rfl : a = (x : Int) := ha
 have hm : zOe f u := hm
 have hxS : x ≤ S := by rw [← hx]; exact Nat.and_le_right
 have next : ∀ (u' : Memo), zOe f u' → x ≠ 0 → (x.testBit (low S) = true → ¬ (zHc (TT f) (UU f) (mem (nS f) x) ∧ Can f p (dif S x))) →
   ∃ y : Nat, zfd (w64 ((x : Int) - 1)) (S : Int) = (y : Int) ∧ y &&& S = y ∧ y + (j + 1) ≤ 511 ∧ zOe f u' ∧ ∀ z, z &&& S = z → y < z → z.testBit (low S) = true → ¬ (zHc (TT f) (UU f) (mem (nS f) z) ∧ Can f p (dif S z)) := by
  intro u' hu' hx0 hno
  have e : w64 ((x : Int) - 1) = ((x - 1 : Nat) : Int) := by rw [zR (by omega) (by omega)]; omega
  refine ⟨(x - 1) &&& S, by rw [e, z1w (by omega) (by omega)], ?_, ?_, hu', fun z hz hlt hzb => ?_⟩
  ·rw [Nat.and_assoc, Nat.and_self]
  ·have : (x - 1) &&& S ≤ x - 1 := Nat.and_le_left
   omega
  ·by_cases hzx : x < z
   ·exact hall z hz hzx hzb
   ·by_cases e : z = x
    ·subst e; exact hno hzb
    ·have := zpv x z S hx hz (by omega)
     omega
 simp only [zKc, hlow x (by omega)]
 cases hbx : x.testBit (low S) with
 | false =>
  simp only [Bool.not_false, cond_true]
  refine Ok.cond (fun hz => Ok.pure ?_) (fun hz => Ok.pure ?_)
  ·have hx0 : x = 0 := by have := beq_iff_eq.1 hz; omega
   refine ⟨hm, fun hc => ?_⟩
   obtain ⟨y, y1, y2, y3, y4⟩ := hstep.1 hc
   refine hall y y1 ?_ y2 ⟨y3, y4⟩
   rw [hx0]
   apply Nat.pos_of_ne_zero
   rintro rfl
   simp at y2
  ·have hx0 : x ≠ 0 := fun e => by subst e; simp at hz
   obtain ⟨y, e, r⟩ := next u hm hx0 (fun h => by rw [hbx] at h; cases h)
   exact ⟨by omega, y, e, r⟩
 | true =>
  have hx0 : x ≠ 0 := by rintro rfl; simp at hbx
  simp only [Bool.not_true, cond_false]
  refine Ok.bind (zdw hs hk hF (S := x) (by omega) h1) fun v hv => ?_
  rcases hv with ⟨h2, hfit, q, hq, hqp, hqi⟩ | ⟨h2, hno⟩
  ·rw [h2]
   simp only [Bool.not_true, cond_false]
   have hd := zUq (x := S) (y := x) (by omega) (by omega)
   have e1 : w64 (((p + 1 : Nat) : Int) - 1) = (p : Int) := by rw [zR (by omega) (by omega)]; omega
   rw [hd.1, e1]
   refine Ok.bind (hrc u (dif S x) hm (by have := hd.2.2.1; omega)) fun w ⟨w1, w2⟩ => ?_
   refine Ok.cond (fun hn => ?_) (fun hn => ?_)
   ·have hne : w.1.2 ≠ .nil := by simpa using hn
    obtain ⟨hc, hr1, qs, hr2, hr3, hr4⟩ := w2.2 hne
    have e2 : decide (([v.1] : List (SL Int)).length + w.1.1.length ≤ LIM) = true := by rw [hr1]; simp [LIM]; omega
    rw [e2]
    refine Ok.pure ⟨w1, ?_, hstep.2 ⟨x, hx, hbx, hfit, hc⟩, ?_, q :: qs, ?_, ?_, fun y hy => ?_⟩
    ·show cond w.1.1.isEmpty Cap.ex Cap.ro ≠ .nil
     cases w.1.1.isEmpty <;> simp
    ·show ([v.1] ++ w.1.1).length = _
     simp [hr1]
    ·show ([v.1] ++ w.1.1).map _ = _
     simp [hr2, hq]
    ·rw [List.flatten_cons]
     have hpp : (q ++ qs.flatten).Perm (mem (nS f) x ++ mem (nS f) (dif S x)) := hqp.append hr3
     refine hpp.trans ?_
     rw [zdq (by omega) (by omega), zyo hx]
     exact List.filter_append_perm _ _
    ·rcases List.mem_cons.1 hy with rfl | hy
     ·exact hqi
     ·exact hr4 y hy
   ·have hne : w.1.2 = .nil := by simpa using hn
    obtain ⟨y, e, r⟩ := next w.2 w1 hx0 (fun _ h => w2.1 hne h.2)
    exact Ok.pure ⟨by omega, y, e, r⟩
  ·rw [h2]
   simp only [Bool.not_false, cond_true]
   obtain ⟨y, e, r⟩ := next u hm hx0 (fun _ h => hno h.1)
   exact Ok.pure ⟨by omega, y, e, r⟩
theorem z8t {k : Nat} {f : zb} (hs : zLb f) (hk : Fuel k f) (hF : Fine f) (p1 : zp) {v1 : SL Int} (h1 : v1.1 = (List.range (nS f)).map (TT f)) {p : Nat} (hp : p ≤ 8) {rc : RcT} (hrc : ∀ p', p = p' + 1 → RcOK f p' rc) : RcOK f p (ztb k ⟨f⟩ p1 v1 rc) := by
 intro u S hu hS
 unfold ztb
 refine Ok.cond (fun hf => ?_) (fun hf => ?_)
 ·obtain ⟨l, hl⟩ := Option.isSome_iff_exists.1 hf
  rw [hl]
  exact Ok.pure ⟨hu, hu p S hS l hl⟩
 ·refine Ok.cond (fun h0 => ?_) (fun h0 => ?_)
  ·have hS0 : S = 0 := by
    simp only [Bool.and_eq_true, beq_iff_eq] at h0
    have := h0.1
    omega
   subst hS0
   obtain ⟨mp, hmp⟩ : ∃ mp, mp = max 1 p := ⟨_, rfl⟩
   have e0 : (if (p : Int) > 1 then (p : Int) else 1) = (mp : Int) := by split <;> omega
   simp only [e0]
   have e1 : (decide (0 ≤ (mp : Int)) && decide ((mp : Int) ≤ (LIM : Int))) = true := by
    have : mp ≤ 8 := by omega
    have h8 : LIM = 1073741824 := rfl
    simp only [Bool.and_eq_true, decide_eq_true_eq]
    omega
   have e2 : (decide (0 ≤ (p : Int)) && decide ((p : Int) ≤ ((List.replicate (mp : Int).toNat (([], Cap.nil) : SL Int) : List (SL Int)).length : Int))) = true := by
    rw [List.length_replicate, Int.toNat_natCast]
    simp only [Bool.and_eq_true, decide_eq_true_eq]
    omega
   rw [e1, e2]
   simp only [cond_true, Int.toNat_natCast]
   have hem : mem (nS f) 0 = [] := by simp [mem]
   have hnil : (List.replicate p ([] : List Nat)).flatten = [] := by simp
   refine Ok.pure ⟨hu, fun h => (by cases h), fun _ => ⟨by show CanL _ _ _ _; rw [hem]; exact CanL.nil p, ?_, List.replicate p [], ?_, by rw [hem, hnil], fun q hq => by rw [List.eq_of_mem_replicate hq]; trivial⟩⟩
   ·show ((List.replicate mp (([], Cap.nil) : SL Int)).take p).length = p
    rw [List.length_take, List.length_replicate]; omega
   ·show ((List.replicate mp (([], Cap.nil) : SL Int)).take p).map _ = _
    rw [List.take_replicate, Nat.min_eq_left (by omega)]
    simp [cst]
  ·have hS0 : S ≠ 0 := by
    rintro rfl
    simp at h0
   cases p with
   | zero =>
    have e : decide (((0 : Nat) : Int) > 0) = false := by decide
    rw [e]
    have hg : zRn f 0 S ([], .nil) := ⟨fun _ hc => zex hS hS0 (CanL.zero.1 hc), fun h => absurd rfl h⟩
    exact Ok.pure ⟨hu.set hg, hg⟩
   | succ p =>
    have e : decide (((p + 1 : Nat) : Int) > 0) = true := by simp
    rw [e]
    simp only [cond_true]
    refine Ok.bind (zsu hs hk hF p1 h1 u hS hS0 (by omega) (hrc p rfl) hu) fun v hv => ?_
    cases v with
    | inl v =>
     have hg : zRn f (p + 1) S ([], .nil) := ⟨fun _ => hv.2, fun h => absurd rfl h⟩
     exact Ok.pure ⟨zOe.set hv.1 hg, hg⟩
    | inr v =>
     obtain ⟨v1, v2, v3, v4⟩ := hv
     have hg : zRn f (p + 1) S v.1 := ⟨fun h => absurd h v2, fun _ => ⟨v3, v4⟩⟩
     exact Ok.pure ⟨v1.set hg, hg⟩
theorem zXq {k : Nat} {f : zb} (hs : zLb f) (hk : Fuel k f) (hF : Fine f) (p1 : zp) {v1 : SL Int} (h1 : v1.1 = (List.range (nS f)).map (TT f)) : ∀ (m p : Nat), p < m → p ≤ 8 → RcOK f p (zac k ⟨f⟩ p1 v1 m)
 | 0, p, h, _ => by omega
 | m + 1, p, h, h8 => z8t hs hk hF p1 h1 h8 fun p' hp' => zXq hs hk hF p1 h1 m p' (by omega) (by omega)
theorem z9u {k : Nat} {f : zb} (hs : zLb f) (hk : Fuel k f) (hF : Fine f) {p S : Nat} (hp : p ≤ 8) (hS : S < 2 ^ nS f) : Ok (zL k ⟨f⟩ ⟨(S : Int), (p : Int)⟩) (fun r => (r.2 = true ↔ Can f p S) ∧ (r.2 = true → r.1.2 ≠ .nil ∧ Ros f p S r.1.1)) := by
 unfold zL
 refine Ok.bind (zPt hs hk hF) fun v1 h1 => ?_
 refine Ok.bind (zXq hs hk hF _ h1 9 p (by omega) hp [] S (fun p S _ l hl => by simp [zS] at hl) hS) fun v ⟨h2, h3⟩ => Ok.pure ?_
 by_cases hn : v.1.2 = .nil
 ·have e : (!decide (v.1.2 = .nil)) = false := by simp [hn]
  exact ⟨⟨fun h => (by rw [e] at h; cases h), fun h => absurd h (h3.1 hn)⟩, fun h => (by rw [e] at h; cases h)⟩
 ·have e : (!decide (v.1.2 = .nil)) = true := by simp [hn]
  exact ⟨⟨fun _ => (h3.2 hn).1, fun _ => e⟩, fun _ => ⟨hn, (h3.2 hn).2⟩⟩
end Go.AM
namespace Go.AM
open Go
section
variable {α β : Type}
theorem zGx {n : Nat} (h : n ≤ 1000000) : decide (n ≤ LIM) = true := decide_eq_true (by show _ ≤ 1073741824; omega)
end
end Go.AM
namespace Go.AM
open Go
section
variable {α β : Type}
theorem z9r : ∀ {l l' : List Int}, l.Pairwise (· < ·) → l'.Pairwise (· < ·) → (∀ x, x ∈ l ↔ x ∈ l') → l = l'
 | [], [], _, _, _ => rfl
 | [], b :: t, _, _, h => by have := (h b).2 (.head _); cases this
 | a :: t, [], _, _, h => by have := (h a).1 (.head _); cases this
 | a :: t, b :: t', h1, h2, h => by
  obtain ⟨h3, h4⟩ := List.pairwise_cons.1 h1
  obtain ⟨h5, h6⟩ := List.pairwise_cons.1 h2
  have hab : a = b := by
   have ha := (h a).1 (.head _)
   have hb := (h b).2 (.head _)
   cases ha with
   | head => rfl
   | tail _ ha =>
    cases hb with
    | head => rfl
    | tail _ hb =>
     have := h5 a ha
     have := h3 b hb
     omega
  subst hab
  rw [z9r h4 h6 fun x => ?_]
  have hx := h x
  constructor
  ·intro hm
   have := h3 x hm
   cases hx.1 (.tail _ hm) with
   | head => omega
   | tail _ h => exact h
  ·intro hm
   have := h5 x hm
   cases hx.2 (.tail _ hm) with
   | head => omega
   | tail _ h => exact h
theorem zfy {x y : Nat} (hx : x < 2 ^ 63) (hy : y < 2 ^ 63) : or64 (x : Int) (y : Int) = ((x ||| y : Nat) : Int) := by
 unfold or64
 have hb : (BitVec.ofInt 64 (x : Int) ||| BitVec.ofInt 64 (y : Int)).toNat = x ||| y := by
  rw [BitVec.toNat_or, BitVec.ofInt_natCast, BitVec.ofInt_natCast, BitVec.toNat_ofNat, BitVec.toNat_ofNat, Nat.mod_eq_of_lt (by omega), Nat.mod_eq_of_lt (by omega)]
 have h2 : x ||| y < 2 ^ 63 := Nat.or_lt_two_pow hx hy
 rw [hb, zR (by omega) (by omega)]
end
end Go.AM
set_option linter.unusedVariables false
namespace Go.AM
open Go
structure zTt (S n : Nat) (l : List Int) : Prop where
 climbs : l.Pairwise (· < ·)
 mem : ∀ x, x ∈ l ↔ ∃ i : Nat, x = (i : Int) ∧ i < n ∧ S.testBit i = true
 len : l.length ≤ n
theorem zTt.eq {S n : Nat} {l l' : List Int} (h : zTt S n l) (h' : zTt S n l') : l = l' := z9r h.climbs h'.climbs fun x => (h.mem x).trans (h'.mem x).symm
def ints (l : List Nat) : List Int := l.map fun i : Nat => (i : Int)
theorem znk (l : List Nat) : (ints l).length = l.length := by simp [ints]
theorem zdv (l : List Nat) (i : Nat) : ints (l ++ [i]) = ints l ++ [(i : Int)] := by simp [ints]
theorem zZr {a c : List Nat} (h : ints a = ints c) : a = c := by
 refine (List.map_inj_right (f := fun i : Nat => (i : Int)) fun x y h => ?_).1 h
 exact Int.ofNat.inj h
theorem zfo {l : List Nat} {i : Nat} (h : i < l.length) : idx (ints l) (i : Int) = some ((l[i] : Nat) : Int) := by
 rw [zAb (by rw [znk]; exact h)]
 simp [ints]
abbrev zpr (l : List Nat) : Prop := l.Pairwise (· < ·)
def ltL (a c : List Nat) : Prop := ∃ x, x ∈ a ∧ x ∉ c ∧ ∀ y, y < x → (y ∈ a ↔ y ∈ c)
theorem zNw {a c : List Nat} (h : ltL a c) (g : ltL c a) : False := by
 obtain ⟨x, h1, h2, h3⟩ := h
 obtain ⟨y, g1, g2, g3⟩ := g
 rcases Nat.lt_trichotomy x y with h4 | h4 | h4
 ·exact h2 ((g3 x h4).2 h1)
 ·subst h4; exact h2 g1
 ·exact g2 ((h3 y h4).2 g1)
def leS (a c : List Nat) : Prop := a.length < c.length ∨ (a.length = c.length ∧ (a = c ∨ ltL a c))
theorem zBv {a c : List Nat} (h : leS a c) (g : leS c a) : a = c := by
 rcases h with h | ⟨h, h'⟩ <;> rcases g with g | ⟨g, g'⟩
 ·omega
 ·omega
 ·omega
 ·rcases h' with rfl | h'
  ·rfl
  ·rcases g' with rfl | g'
   ·rfl
   ·exact (zNw h' g').elim
structure Best (n : Nat) (P : List Nat → Prop) (l : List Nat) : Prop where
 climb : zpr l
 lt : ∀ i ∈ l, i < n
 ok : P l
 least : ∀ l', zpr l' → (∀ i ∈ l', i < n) → P l' → leS l l'
theorem Best.eq {n : Nat} {P : List Nat → Prop} {l l' : List Nat} (h : Best n P l) (g : Best n P l') : l = l' := zBv (h.least l' g.climb g.lt g.ok) (g.least l h.climb h.lt h.ok)
end Go.AM
set_option linter.unusedVariables false
namespace Go.AM
open Go
def allS (n : Nat) : Nat := 2 ^ n - 1
theorem zKm (n i : Nat) : (allS n).testBit i = decide (i < n) := by unfold allS; rw [Nat.testBit_two_pow_sub_one]
theorem zax (n : Nat) : allS n < 2 ^ n := by
 have := Nat.two_pow_pos n
 unfold allS; omega
theorem zpq {n : Nat} (hn : n ≤ 9) : w64 (zn 1 (n : Int) - 1) = ((allS n : Nat) : Int) := by
 have h1 : 2 ^ n ≤ 2 ^ 9 := Nat.pow_le_pow_right (by omega) hn
 have h2 := Nat.two_pow_pos n
 have h3 : ((2 ^ n : Nat) : Int) = (2 : Int) ^ n := by push_cast; rfl
 rw [zPq (by omega), ← h3, zR (by omega) (by omega)]
 unfold allS
 omega
theorem zht (n : Nat) : mem n (allS n) = List.range n := by
 unfold mem
 refine List.filter_eq_self.2 fun i hi => ?_
 rw [zKm]; simpa using hi
abbrev zag (f : zb) (p : Nat) : Prop := CanL (TT f) (UU f) p (List.range (nS f))
theorem zDw (f : zb) (p : Nat) : Can f p (allS (nS f)) ↔ zag f p := by show CanL _ _ _ (mem _ _) ↔ _; rw [zht]
def zis (f : zb) (p : Nat) : Prop := 1 ≤ p ∧ zag f p ∧ ∀ q, 1 ≤ q → q < p → ¬ zag f q
theorem zbv {k : Nat} {f : zb} (hs : zLb f) (hk : Fuel k f) (hF : Fine f) : Ok (zOc k ⟨f⟩) (fun r => (r.2.2 = true ∧ ∃ p : Nat, p ≤ 5 ∧ r.2.1 = (p : Int) ∧ zis f p ∧ Ros f p (allS (nS f)) r.1.1 ∧ r.1.2 ≠ .nil) ∨ (r.2.2 = false ∧ ∀ q, 1 ≤ q → q ≤ 5 → ¬ zag f q)) := by
 have h9 := hF.nslips
 unfold zOc
 refine Ok.bind (Ok.count 5 (fun j z => z = ((j + 1 : Nat) : Int) ∧ ∀ q, 1 ≤ q → q ≤ j → ¬ zag f q) (Q := fun r : (SL (SL Int) × Int × Bool) ⊕ Int => match r with
  | .inl z => ∃ p : Nat, p ≤ 5 ∧ z.2.1 = (p : Int) ∧ zis f p ∧ Ros f p (allS (nS f)) z.1.1 ∧ z.1.2 ≠ .nil
  | .inr _ => ∀ q, 1 ≤ q → q ≤ 5 → ¬ zag f q) ?_ ?_ ⟨rfl, fun q h1 h2 => absurd h1 (by omega)⟩ (by have := hk.k0; omega)) fun r hr => ?_
 ·rintro j z hj ⟨rfl, hg⟩
  have c1 : decide (((j + 1 : Nat) : Int) ≤ 5) = true := by simp; omega
  have c2 : decide ((nS f : Int) < 0) = false := by simp
  have e := zpq h9
  simp only [zLc, c1, cond_true]
  show Ok (cond (decide ((nS f : Int) < 0)) none _) _
  rw [c2, cond_false]
  show Ok (Option.bind (zL k ⟨f⟩ ⟨w64 (zn 1 (nS f : Int) - 1), _⟩) _) _
  rw [e]
  refine Ok.bind (z9u hs hk hF (p := j + 1) (by omega) (zax _)) fun v ⟨h1, h2⟩ => ?_
  rw [zDw] at h1
  cases hb : v.2 with
  | true =>
   obtain ⟨h3, h4⟩ := h2 hb
   rw [hb] at h1
   exact Ok.pure ⟨j + 1, by omega, rfl, ⟨by omega, h1.1 rfl, fun q hq1 hq2 => hg q hq1 (by omega)⟩, h4, h3⟩
  | false =>
   rw [hb] at h1
   refine Ok.pure ⟨by rw [zR (by omega) (by omega)]; push_cast; rfl, fun q hq1 hq2 hc => ?_⟩
   by_cases e : q = j + 1
   ·subst e; have := h1.2 hc; cases this
   ·exact hg q hq1 (by omega) hc
 ·rintro z ⟨rfl, hg⟩
  have c1 : decide (((5 + 1 : Nat) : Int) ≤ 5) = false := by decide
  simp only [zLc, c1, cond_false]
  exact Ok.pure hg
 ·cases r with
  | inl z => exact Ok.pure (.inl ⟨rfl, hr⟩)
  | inr z => exact Ok.pure (.inr ⟨rfl, hr⟩)
def z6u (f : zb) (r : SL (SL Int) × Int) : Prop :=
 (¬ Fine f ∧ r.1.1 = [] ∧ r.2 = 30) ∨ (Fine f ∧ r.2 = 0 ∧ ∃ p : Nat, p ≤ 5 ∧ zis f p ∧ Ros f p (allS (nS f)) r.1.1) ∨ (Fine f ∧ r.2 = 4 ∧ r.1.1 = [] ∧ ∀ q, 1 ≤ q → q ≤ 5 → ¬ zag f q)
theorem zOu {k : Nat} {f : zb} (hs : zLb f) (hk : Fuel k f) : Ok (zCf k f) (z6u f) := by
 unfold zCf zEj
 obtain ⟨c, hc, hc'⟩ := zjk hs hk
 rw [hc]
 by_cases hF : Fine f
 ·rw [if_pos hF] at hc'
  subst hc'
  have t : ((0 : Int) != 0) = false := by decide
  simp only [Option.bind_some, t, cond_false, zEg, Bool.not_true]
  refine Ok.bind (zbv hs hk hF) fun v hv => ?_
  rcases hv with ⟨h1, p, h2, h3, h4, h5, h6⟩ | ⟨h1, h2⟩
  ·rw [h1]
   exact Ok.pure (.inr (.inl ⟨hF, rfl, p, h2, h4, h5⟩))
  ·rw [h1]
   exact Ok.pure (.inr (.inr ⟨hF, rfl, rfl, h2⟩))
 ·rw [if_neg hF] at hc'
  subst hc'
  have t : ((30 : Int) != 0) = true := by decide
  simp only [Option.bind_some, t, cond_true]
  exact Ok.pure (.inl ⟨hF, rfl, rfl⟩)
def zCn (b : zb) (p : Nat) (l : List Nat) : Prop := CanL (TT b) (UU b) p ((List.range (nS b)).filter fun i => !l.contains i)
end Go.AM
set_option linter.unusedVariables false
namespace Go.AM
open Go
section
variable {T U T' U' : Nat → Int}
theorem zrp (U : Nat → Int) (x : Nat) : ∀ t : List Nat, t.Pairwise (fun a b => U a ≤ U b) → ∃ l' : List Nat, l'.Perm (x :: t) ∧ l'.Pairwise fun a b => U a ≤ U b
 | [], _ => ⟨[x], .refl _, List.pairwise_singleton _ _⟩
 | y :: t, h => by
  have hc := List.pairwise_cons.1 h
  by_cases hxy : U x ≤ U y
  ·refine ⟨x :: y :: t, .refl _, List.pairwise_cons.2 ⟨fun z hz => ?_, h⟩⟩
   rcases List.mem_cons.1 hz with rfl | hz
   ·exact hxy
   ·have := hc.1 z hz; omega
  ·obtain ⟨l', h1, h2⟩ := zrp U x t hc.2
   refine ⟨y :: l', ?_, List.pairwise_cons.2 ⟨fun z hz => ?_, h2⟩⟩
   ·exact (h1.cons y).trans (.swap x y t)
   ·rcases List.mem_cons.1 (h1.mem_iff.1 hz) with rfl | hz
    ·omega
    ·exact hc.1 z hz
theorem zcr (U : Nat → Int) : ∀ l : List Nat, ∃ l' : List Nat, l'.Perm l ∧ l'.Pairwise fun a b => U a ≤ U b
 | [] => ⟨[], .refl _, .nil⟩
 | x :: t => by
  obtain ⟨t', h1, h2⟩ := zcr U t
  obtain ⟨l', h3, h4⟩ := zrp U x t' h2
  exact ⟨l', h3.trans (h1.cons x), h4⟩
theorem InT.mono : ∀ {l : List Nat} {now now' : Int}, (∀ i ∈ l, T' i ≤ T i ∧ U i ≤ U' i) → now' ≤ now → InT T U now l → InT T' U' now' l
 | [], _, _, _, _, _ => trivial
 | x :: t, now, now', h, hn, hi => by
  obtain ⟨h1, h2⟩ := h x (by simp)
  obtain ⟨h3, h4⟩ := hi
  exact ⟨by omega, InT.mono (fun i hi => h i (by simp [hi])) (by omega) h4⟩
theorem zHc.mono (hT : ∀ i, 0 ≤ T i) (hT' : ∀ i, 0 ≤ T' i) {l : List Nat} (h : ∀ i ∈ l, T' i ≤ T i ∧ U i ≤ U' i) (hf : zHc T U l) : zHc T' U' l := by
 obtain ⟨l', h1, h2⟩ := zcr U l
 have hi := (hf.perm h1.symm).inT hT h2
 exact (InT.fits hT' (InT.mono (fun i hi => h i (h1.mem_iff.1 hi)) (Int.le_refl _) hi)).perm h1
theorem CanL.mono (hT : ∀ i, 0 ≤ T i) (hT' : ∀ i, 0 ≤ T' i) {p : Nat} {l : List Nat} (h : ∀ i ∈ l, T' i ≤ T i ∧ U i ≤ U' i) : CanL T U p l → CanL T' U' p l := fun ⟨g, h1, h2⟩ =>
 ⟨g, h1, fun q => (h2 q).mono hT hT' fun i hi => h i (List.mem_filter.1 hi).1⟩
theorem CanL.own (hT : ∀ i, 0 ≤ T i) {p : Nat} {l : List Nat} {i : Nat} (hi : i ∈ l) : CanL T U p l → T i ≤ U i := fun ⟨g, h1, h2⟩ => by
 have hm : i ∈ l.filter fun j => g j == g i := List.mem_filter.2 ⟨hi, by simp⟩
 have := h2 (g i) i hm
 have h3 : T i ≤ lsum T U (U i) (l.filter fun j => g j == g i) := by
  have : ([i] : List Nat).Sublist (l.filter fun j => g j == g i) := List.singleton_sublist.2 hm
  have h4 := zTr (U := U) (u := U i) hT this
  simp only [lsum, Int.le_refl, if_true] at h4
  omega
 omega
end
def CanU (f : zb) (i : Nat) (u : Int) (p : Nat) : Prop := CanL (TT f) (fun j => if j = i then u else UU f j) p (List.range (nS f))
theorem CanU.own {f : zb} (hF : Fine f) {i : Nat} (hi : i < nS f) {u : Int} {p : Nat} (h : CanU f i u p) : TT f i ≤ u := by
 have := CanL.own (zTm hF) (List.mem_range.2 hi) h
 simpa using this
theorem CanU.later {f : zb} (hF : Fine f) {i : Nat} {u u' : Int} (hu : u ≤ u') {p : Nat} (h : CanU f i u p) : CanU f i u' p :=
 CanL.mono (zTm hF) (zTm hF) (fun j _ => ⟨Int.le_refl _, by split <;> omega⟩) h
theorem CanU.same {f : zb} {i : Nat} {p : Nat} : CanU f i (UU f i) p ↔ zag f p := by
 have e : (fun j => if j = i then UU f i else UU f j) = UU f := by
  funext j
  split
  ·rename_i h; rw [h]
  ·rfl
 unfold CanU
 rw [e]
end Go.AM
set_option linter.unusedVariables false
namespace Go.AM
open Go
theorem z3v (k : Nat) {n : Int} {m : Nat} (hm : 0 < m) (hb : m < 1000000) : ∃ i, i < m ∧ zCb k n (m : Int) = some (i : Int) := by
 have h1 : decide ((m : Int) < 1) = false := by simp; omega
 have h2 : ((m : Int) == 0) = false := by simp; omega
 have hneg := Int.tmod_lt_of_pos n (show (0 : Int) < (m : Int) by omega)
 have hlow : -(m : Int) < n.tmod (m : Int) := by
  have := Int.lt_tmod_of_pos n (show (0 : Int) < (m : Int) by omega)
  omega
 simp only [zCb, h1, h2, cond_false, zxc]
 by_cases h : n.tmod (m : Int) < 0
 ·refine ⟨(n.tmod (m : Int) + m).toNat, by omega, ?_⟩
  rw [show decide (n.tmod (m : Int) < 0) = true by simpa using h]
  simp only [cond_true, Option.bind_some]
  rw [zR (by omega) (by omega), Int.toNat_of_nonneg (by omega)]
 ·refine ⟨(n.tmod (m : Int)).toNat, by omega, ?_⟩
  rw [show decide (n.tmod (m : Int) < 0) = false by simpa using h]
  simp only [cond_false, Option.bind_some]
  rw [Int.toNat_of_nonneg (by omega)]
theorem zwx (k : Nat) {lo hi : Int} (h : 0 ≤ lo ∧ lo ≤ hi ∧ hi ≤ 100000) (x : Int) : ∃ r, zzb k ⟨lo, hi⟩ x = some r ∧ lo ≤ r ∧ r ≤ hi := by
 by_cases e : hi ≤ lo
 ·have c : decide (hi ≤ lo) = true := by simpa using e
  refine ⟨lo, ?_, Int.le_refl _, h.2.1⟩
  simp only [zzb, c, cond_true]
 ·have c : decide (hi ≤ lo) = false := by simpa using e
  have e1 : w64 (w64 (hi - lo) + 1) = ((hi - lo + 1).toNat : Int) := by
   rw [zR (n := hi - lo) (by omega) (by omega), zR (by omega) (by omega)]; omega
  have c2 : decide (((hi - lo + 1).toNat : Int) < 1) = false := by simp; omega
  obtain ⟨i, hi', hsp⟩ := z3v k (n := x) (m := (hi - lo + 1).toNat) (by omega) (by omega)
  refine ⟨lo + i, ?_, by omega, by omega⟩
  simp only [zzb, c, cond_false, e1, c2, hsp, Option.bind_some]
  rw [zR (by omega) (by omega)]
end Go.AM
set_option linter.unusedVariables false
namespace Go.AM
open Go
def Eas (f x : zb) : Prop := ∀ p l, zpr l → (∀ i ∈ l, i < nS f) → zCn f p l → ∃ l', zpr l' ∧ (∀ i ∈ l', i < nS x) ∧ zCn x p l' ∧ l'.length ≤ l.length
theorem z5r {f : zb} {p : Nat} : zCn f p [] ↔ zag f p := by
 unfold zCn
 have : (List.range (nS f)).filter (fun i => !([] : List Nat).contains i) = List.range (nS f) := List.filter_eq_self.2 fun i _ => by simp
 rw [this]
theorem Eas.all {f x : zb} (h : Eas f x) {p : Nat} (hc : zag f p) : zag x p := by
 obtain ⟨l', _, _, h3, h4⟩ := h p [] List.Pairwise.nil (fun i hi => by cases hi) (z5r.2 hc)
 have : l' = [] := List.length_eq_zero_iff.1 (by simpa using h4)
 rw [this] at h3
 exact z5r.1 h3
theorem Eas.of {f x : zb} (hF : Fine f) (hX : Fine x) (hn : nS x = nS f) (ht : ∀ i, i < nS f → TT x i ≤ TT f i ∧ UU f i ≤ UU x i) : Eas f x := by
 intro p l h1 h2 h3
 refine ⟨l, h1, by rw [hn]; exact h2, ?_, Nat.le_refl _⟩
 unfold zCn at h3 ⊢
 rw [hn]
 exact CanL.mono (zTm hF) (zTm hX) (fun i hi => ht i (List.mem_range.1 (List.mem_filter.1 hi).1)) h3
end Go.AM
set_option linter.unusedVariables false
namespace Go.AM
open Go
theorem zym {qs : List (List Nat)} : qs.flatten.Nodup ↔ (∀ q ∈ qs, q.Nodup) ∧ qs.Pairwise fun a b => ∀ x ∈ a, ∀ y ∈ b, x ≠ y := List.pairwise_flatten
theorem zbs {qs : List (List Nat)} (h : qs.flatten.Nodup) {i j : Nat} (hi : i < qs.length) (hj : j < qs.length) {x : Nat} (h1 : x ∈ qs[i]) (h2 : x ∈ qs[j]) : i = j := by
 have hp := List.pairwise_iff_getElem.1 (zym.1 h).2
 apply Classical.byContradiction
 intro hne
 rcases Nat.lt_or_ge i j with hl | hl
 ·exact hp i j hi hj hl x h1 x h2 rfl
 ·exact hp j i hj hi (by omega) x h2 x h1 rfl
section
variable {T U : Nat → Int}
def sumT (T : Nat → Int) : List Nat → Int
 | [] => 0
 | x :: t => T x + sumT T t
theorem zIi (T : Nat → Int) : ∀ (l : List Nat) (x : Nat), sumT T (l ++ [x]) = sumT T l + T x
 | [], x => by simp [sumT]
 | y :: l, x => by simp only [List.cons_append, sumT, zIi T l x]; omega
theorem zEq {T : Nat → Int} {b : Int} : ∀ (l : List Nat), (∀ x ∈ l, 0 ≤ T x ∧ T x ≤ b) → 0 ≤ sumT T l ∧ sumT T l ≤ b * l.length
 | [], _ => by simp [sumT]
 | x :: l, h => by
  have h1 := h x (by simp)
  have h2 := zEq l fun y hy => h y (by simp [hy])
  have e : b * ((x :: l).length : Int) = b * (l.length : Int) + b := by
   rw [List.length_cons]; push_cast; rw [Int.mul_add, Int.mul_one]
  simp only [sumT]
  omega
end
def zHm (n S : Nat) (l : List Int) (q : List Nat) : Prop := l = ints q ∧ q.Nodup ∧ ∀ x ∈ q, x < n ∧ S.testBit x = false
theorem zOq (q : List Nat) (j : Nat) : (ints q).take j = ints (q.take j) := by simp [ints, List.map_take]
theorem zHm.take {n S : Nat} {l : List Int} {q : List Nat} (h : zHm n S l q) (j : Nat) : zHm n S (l.take j) (q.take j) :=
 ⟨by rw [h.1, zOq], h.2.1.sublist (List.take_sublist _ _), fun x hx => h.2.2 x (List.mem_of_mem_take hx)⟩
theorem zJu {S v : Nat} (i : Nat) : (S ||| 2 ^ v).testBit i = true ↔ S.testBit i = true ∨ i = v := by
 rw [Nat.testBit_or, Nat.testBit_two_pow]
 simp only [Bool.or_eq_true, decide_eq_true_eq]
 exact or_congr Iff.rfl ⟨fun h => h.symm, fun h => h.symm⟩
theorem zit {S v : Nat} (hS : S < 2 ^ 9) (hv : v < 9) : or64 (S : Int) (zn 1 (v : Int)) = ((S ||| 2 ^ v : Nat) : Int) := by
 rw [zPq (by omega)]
 have : ((2 : Int) ^ v) = ((2 ^ v : Nat) : Int) := by push_cast; rfl
 rw [this]
 have h2 : 2 ^ v < 2 ^ 9 := Nat.pow_lt_pow_right (by omega) hv
 exact zfy (by omega) (by omega)
theorem zUs {k : Nat} {f : zb} (hs : zLb f) (hF : Fine f) (p1 : SL (SL Int)) (s1 : Int) (row : SL Int) (hrow : row.1.length < k ∧ row.1.length < 9223372036854775808) {S : Nat} (hS : S < 2 ^ nS f) :
  Ok (iter (fun s => zNb k ⟨f⟩ p1 s1 row s.1 s.2) k ((S : Int), 0)) (fun r => match r with
   | .inl _ => ∀ q, ¬ zHm (nS f) S row.1 q
   | .inr z => ∃ q, zHm (nS f) S row.1 q ∧ ∃ S' : Nat, z.1 = (S' : Int) ∧ S' < 2 ^ nS f ∧ ∀ i, S'.testBit i = true ↔ S.testBit i = true ∨ i ∈ q) := by
 have h9 := hF.nslips
 have h512 : 2 ^ nS f ≤ 2 ^ 9 := Nat.pow_le_pow_right (by omega) h9
 refine Ok.count row.1.length (fun j s => s.2 = (j : Int) ∧ ∃ q, zHm (nS f) S (row.1.take j) q ∧ ∃ S' : Nat, s.1 = (S' : Int) ∧ S' < 2 ^ nS f ∧ ∀ i, S'.testBit i = true ↔ S.testBit i = true ∨ i ∈ q) ?_ ?_ ⟨rfl, [], ⟨rfl, List.nodup_nil, fun x hx => by cases hx⟩, S, rfl, hS, fun i => by simp⟩ hrow.1
 ·rintro j ⟨m, i'⟩ hj ⟨hi', q, hq, S', hm, hS', hb⟩
  obtain rfl : i' = (j : Int) := hi'
  obtain rfl : m = (S' : Int) := hm
  have hbad : (∀ v : Nat, row.1[j] = (v : Int) → v < nS f → S'.testBit v = true) → ∀ q', ¬ zHm (nS f) S row.1 q' := fun hv q' hq' => by
   obtain ⟨h1, h2, h3⟩ := hq'
   have hlen : row.1.length = q'.length := by rw [h1, znk]
   have hj' : j < q'.length := by omega
   have e1 : row.1[j] = ((q'[j] : Nat) : Int) := by
    have := zfo hj'
    rw [← h1, zAb hj] at this
    exact Option.some.inj this
   have hx := h3 _ (List.getElem_mem hj')
   have hbit := hv _ e1 hx.1
   have e2 : q = q'.take j := by
    apply zZr
    rw [← hq.1, h1, zOq]
   rcases (hb _).1 hbit with h | h
   ·rw [hx.2] at h; cases h
   ·rw [e2, List.mem_take_iff_getElem] at h
    obtain ⟨i, hi, e⟩ := h
    have := (List.getElem_inj h2).1 e
    omega
  simp only [zNb, zid, zic hj, cond_true, zAb hj, Option.bind_some, zhn hs]
  by_cases hin : 0 ≤ row.1[j] ∧ row.1[j] ≤ (nS f : Int) - 1
  ·obtain ⟨v, hv⟩ : ∃ v : Nat, row.1[j] = (v : Int) := ⟨row.1[j].toNat, by omega⟩
   have hvn : v < nS f := by omega
   have c1 : (!(decide (0 ≤ row.1[j]) && decide (row.1[j] ≤ (nS f : Int) - 1))) = false := by simp only [Bool.not_eq_false', Bool.and_eq_true, decide_eq_true_eq]; exact hin
   rw [c1, hv]
   have c2 : decide ((v : Int) < 0) = false := by simp
   have h63 : S' < 2 ^ 63 := Nat.lt_of_lt_of_le hS' (Nat.le_trans h512 (by decide))
   rw [c2, zCu (by omega) h63]
   simp only [cond_false, Option.bind_some]
   cases hbit : S'.testBit v with
   | true =>
    exact Ok.pure (hbad fun w hw _ => by
     have : w = v := by rw [hv] at hw; omega
     subst this; exact hbit)
   | false =>
    rw [zit (by omega) (by omega)]
    refine Ok.pure ⟨zub hj hrow.2, q ++ [v], ⟨?_, ?_, ?_⟩, S' ||| 2 ^ v, rfl, ?_, fun i => ?_⟩
    ·rw [List.take_succ_eq_append_getElem hj, hq.1, hv, zdv]
    ·rw [List.nodup_append]
     refine ⟨hq.2.1, by simp, fun a ha b hb' => ?_⟩
     obtain rfl : b = v := by simpa using hb'
     intro e
     subst e
     have := (hb a).2 (.inr ha)
     rw [hbit] at this; cases this
    ·intro x hx
     rcases List.mem_append.1 hx with h | h
     ·exact hq.2.2 x h
     ·obtain rfl : x = v := by simpa using h
      refine ⟨hvn, ?_⟩
      cases hb2 : S.testBit x with
      | false => rfl
      | true =>
       have := (hb x).2 (.inl hb2)
       rw [hbit] at this; cases this
    ·exact Nat.or_lt_two_pow hS' (Nat.pow_lt_pow_right (by omega) hvn)
    ·rw [zJu, hb]
     simp only [List.mem_append, List.mem_singleton]
     exact or_assoc
  ·have c1 : (!(decide (0 ≤ row.1[j]) && decide (row.1[j] ≤ (nS f : Int) - 1))) = true := by
    cases hd : (decide (0 ≤ row.1[j]) && decide (row.1[j] ≤ (nS f : Int) - 1)) with
    | false => rfl
    | true => simp only [Bool.and_eq_true, decide_eq_true_eq] at hd; exact absurd hd hin
   rw [c1]
   simp only [cond_true, Option.bind_some]
   exact Ok.pure (hbad fun v hv hn => absurd hin (by rw [hv]; omega))
 ·rintro ⟨m, i'⟩ ⟨hi', q, hq, S', hm, hS', hb⟩
  obtain rfl : i' = (row.1.length : Int) := hi'
  simp only [zNb, zne, cond_false]
  rw [List.take_length] at hq
  exact Ok.pure ⟨q, hq, S', hm, hS', hb⟩
end Go.AM
set_option linter.unusedVariables false
namespace Go.AM
open Go
def Rows (R : List (SL Int)) (qs : List (List Nat)) : Prop := R.map (·.1) = qs.map ints
theorem Rows.len {R : List (SL Int)} {qs : List (List Nat)} (h : Rows R qs) : R.length = qs.length := by
 have := congrArg List.length h
 simpa using this
theorem Rows.get {R : List (SL Int)} {qs : List (List Nat)} (h : Rows R qs) {i : Nat} (hi : i < R.length) : R[i].1 = ints (qs[i]'(by have := h.len; omega)) := by
 have h1 : (R.map (·.1))[i]? = (qs.map ints)[i]? := by rw [h]
 have hq : i < qs.length := by have := h.len; omega
 simpa [List.getElem?_eq_getElem hi, List.getElem?_eq_getElem hq] using h1
theorem Rows.take {R : List (SL Int)} {qs : List (List Nat)} (h : Rows R qs) (i : Nat) : Rows (R.take i) (qs.take i) := by
 unfold Rows at h ⊢
 rw [List.map_take, List.map_take, h]
theorem zDn : ∀ {a b : List (List Nat)}, a.map ints = b.map ints → a = b
 | [], [], _ => rfl
 | [], _ :: _, h => by simp at h
 | _ :: _, [], h => by simp at h
 | x :: a, y :: b, h => by
  simp only [List.map_cons, List.cons.injEq] at h
  rw [zZr h.1, zDn h.2]
theorem Rows.eq {R : List (SL Int)} {qs qs' : List (List Nat)} (h : Rows R qs) (h' : Rows R qs') : qs = qs' := zDn (h.symm.trans h')
def Rost (f : zb) (R : List (SL Int)) (qs : List (List Nat)) : Prop := (1 ≤ R.length ∧ R.length ≤ 5) ∧ Rows R qs ∧ qs.flatten.Perm (List.range (nS f))
def Part (n : Nat) (R : List (SL Int)) (qs : List (List Nat)) : Prop := Rows R qs ∧ qs.flatten.Nodup ∧ ∀ x ∈ qs.flatten, x < n
def z6r (k : Nat) (R : List (SL Int)) : Prop := (R.length < k ∧ R.length < 9223372036854775808) ∧ ∀ l ∈ R, l.1.length < k ∧ l.1.length < 9223372036854775808
theorem zPs {k : Nat} {f : zb} (hs : zLb f) (hk : Fuel k f) (hF : Fine f) (p1 : SL (SL Int)) (hR : z6r k p1.1) : Ok (z1c k ⟨f⟩ p1) (fun r => r = true ↔ ∃ qs, Rost f p1.1 qs) := by
 have h9 := hF.nslips
 unfold z1c
 simp only [zhh, Option.bind_some]
 by_cases hl : 1 ≤ p1.1.length ∧ p1.1.length ≤ 5
 ·have c1 : (!(decide (1 ≤ (p1.1.length : Int)) && decide ((p1.1.length : Int) ≤ 5))) = false := by simp; omega
  rw [c1, cond_false]
  refine Ok.bind (Ok.count p1.1.length (fun j s => s.2 = (j : Int) ∧ ∃ qs, Part (nS f) (p1.1.take j) qs ∧ ∃ S : Nat, s.1 = (S : Int) ∧ S < 2 ^ nS f ∧ ∀ i, S.testBit i = true ↔ i ∈ qs.flatten) (Q := fun r : (Int × Int × SL Int × Int × Int × Int) ⊕ (Int × Int) => match r with
   | .inl _ => ∀ qs, ¬ Part (nS f) p1.1 qs
   | .inr z => ∃ qs, Part (nS f) p1.1 qs ∧ ∃ S : Nat, z.1 = (S : Int) ∧ S < 2 ^ nS f ∧ ∀ i, S.testBit i = true ↔ i ∈ qs.flatten) ?_ ?_ ⟨rfl, [], ⟨rfl, List.nodup_nil, fun x hx => by cases hx⟩, 0, rfl, Nat.two_pow_pos _, fun i => by simp⟩ hR.1.1) fun r hr => ?_
  ·rintro j ⟨m, i'⟩ hj ⟨hi', qs, hq, S, hm, hS, hb⟩
   obtain rfl : i' = (j : Int) := hi'
   obtain rfl : m = (S : Int) := hm
   simp only [zkc, zic hj, cond_true, zAb hj, Option.bind_some]
   refine Ok.bind (zUs hs hF p1 _ p1.1[j] (hR.2 _ (List.getElem_mem hj)) hS) fun r hr => ?_
   cases r with
   | inl z =>
    refine Ok.pure fun qs' hq' => ?_
    have hj' : j < qs'.length := by have := hq'.1.len; omega
    have e : qs = qs'.take j := hq.1.eq (hq'.1.take j)
    refine hr qs'[j] ⟨hq'.1.get hj, (zym.1 hq'.2.1).1 _ (List.getElem_mem hj'), fun x hx => ⟨hq'.2.2 x (List.mem_flatten.2 ⟨_, List.getElem_mem hj', hx⟩), ?_⟩⟩
    cases hbit : S.testBit x with
    | false => rfl
    | true =>
     have h1 := (hb x).1 hbit
     rw [e] at h1
     obtain ⟨q, hq1, hq2⟩ := List.mem_flatten.1 h1
     obtain ⟨i, hi, rfl⟩ := List.mem_take_iff_getElem.1 hq1
     have := zbs hq'.2.1 (by omega) hj' hq2 hx
     omega
   | inr z =>
    obtain ⟨q, hfr, S', hm', hS', hb'⟩ := hr
    refine Ok.pure ⟨zub hj hR.1.2, qs ++ [q], ⟨?_, ?_, ?_⟩, S', hm', hS', fun i => ?_⟩
    ·unfold Rows
     rw [List.take_succ_eq_append_getElem hj, List.map_append, List.map_append, hq.1]
     simp [hfr.1]
    ·rw [List.flatten_append, List.nodup_append]
     refine ⟨hq.2.1, by simpa using hfr.2.1, fun a ha b hb2 e => ?_⟩
     subst e
     have h1 := (hb a).2 ha
     have h2 := (hfr.2.2 a (by simpa using hb2)).2
     rw [h1] at h2; cases h2
    ·intro x hx
     rw [List.flatten_append] at hx
     rcases List.mem_append.1 hx with h | h
     ·exact hq.2.2 x h
     ·exact (hfr.2.2 x (by simpa using h)).1
    ·rw [hb', hb, List.flatten_append, List.mem_append]
     simp
  ·rintro ⟨m, i'⟩ ⟨hi', qs, hq, S, hm, hS, hb⟩
   obtain rfl : i' = (p1.1.length : Int) := hi'
   simp only [zkc, zne, cond_false]
   rw [List.take_length] at hq
   exact Ok.pure ⟨qs, hq, S, hm, hS, hb⟩
  ·cases r with
   | inl z =>
    refine Ok.pure ⟨fun h => (by cases h), fun ⟨qs, h⟩ => absurd ⟨h.2.1, (h.2.2.nodup_iff).2 List.nodup_range, fun x hx => List.mem_range.1 (h.2.2.mem_iff.1 hx)⟩ (hr qs)⟩
   | inr z =>
    obtain ⟨qs, hq, S, hm, hS, hb⟩ := hr
    have c2 : decide ((f.Slips.1.length : Int) < 0) = false := by simp
    simp only [Sum.elim_inr, c2, cond_false]
    show Ok (some (z.1 == w64 (zn 1 (nS f : Int) - 1))) _
    rw [zpq h9, hm]
    refine Ok.pure ?_
    have e : ((S : Int) == ((allS (nS f) : Nat) : Int)) = true ↔ S = allS (nS f) := by rw [beq_iff_eq]; omega
    rw [e]
    constructor
    ·intro he
     refine ⟨qs, hl, hq.1, (List.perm_ext_iff_of_nodup hq.2.1 List.nodup_range).2 fun x => ?_⟩
     rw [← hb, he, zKm, List.mem_range]
     simp
    ·rintro ⟨qs', _, h2, h3⟩
     obtain rfl := hq.1.eq h2
     apply Nat.eq_of_testBit_eq
     intro i
     rw [Bool.eq_iff_iff, hb, zKm, h3.mem_iff, List.mem_range]
     simp
 ·have c1 : (!(decide (1 ≤ (p1.1.length : Int)) && decide ((p1.1.length : Int) ≤ 5))) = true := by
   cases hd : (decide (1 ≤ (p1.1.length : Int)) && decide ((p1.1.length : Int) ≤ 5)) with
   | false => rfl
   | true => simp only [Bool.and_eq_true, decide_eq_true_eq] at hd; exact absurd hd (by omega)
  rw [c1, cond_true]
  exact Ok.pure ⟨fun h => (by cases h), fun ⟨qs, h⟩ => absurd h.1 hl⟩
abbrev LL (f : zb) (i : Nat) : Int := zuc f i (·.Low)
theorem zMt {f : zb} (hF : Fine f) {i : Nat} (h : i < nS f) : 0 ≤ LL f i ∧ LL f i ≤ 2472000 := (zAj hF zMn (zOk hF) h).2
def zRk (f : zb) (q : List Nat) (j : Nat) : zo := ⟨sumT (LL f) (q.take (j + 1)), sumT (TT f) (q.take (j + 1))⟩
def zEn (f : zb) (qs : List (List Nat)) (out : List zo) : Prop := ∀ q ∈ qs, ∀ j (h : j < q.length), out[q[j]]? = some (zRk f q j)
theorem zPu {f : zb} (hF : Fine f) {q : List Nat} (hq : ∀ x ∈ q, x < nS f) (hl : q.length ≤ 9) : (0 ≤ sumT (LL f) q ∧ sumT (LL f) q ≤ 22248000) ∧ 0 ≤ sumT (TT f) q ∧ sumT (TT f) q ≤ 22248000 := by
 have h1 := zEq (T := LL f) q fun x hx => zMt hF (hq x hx)
 have h2 := zEq (T := TT f) q fun x hx => z9o hF (hq x hx)
 omega
theorem zRw {k : Nat} {f : zb} (hs : zLb f) (hk : Fuel k f) (hF : Fine f) (p1 : SL (SL Int)) (s1 : Int) {row : SL Int} {q : List Nat} (hrow : row.1 = ints q) (hq : ∀ x ∈ q, x < nS f) (hn : q.Nodup) (hl : q.length ≤ 9) {out : List zo} (ho : out.length = nS f) :
  Ok (iter (fun s => z3e k f p1 s1 row s.1 s.2.1 s.2.2.1 s.2.2.2) k (0, out, 0, 0)) (fun r => r.2.1.length = nS f ∧ (∀ j (h : j < q.length), r.2.1[q[j]]? = some (zRk f q j)) ∧ ∀ x, x ∉ q → r.2.1[x]? = out[x]?) := by
 have h9 := hF.nslips
 have hlen : row.1.length = q.length := by rw [hrow, znk]
 have h0 := hk.k0
 refine Ok.count q.length (fun j s => s.1 = (j : Int) ∧ s.2.2.1 = sumT (LL f) (q.take j) ∧ s.2.2.2 = sumT (TT f) (q.take j) ∧ s.2.1.length = nS f ∧ (∀ i (h : i < q.length), i < j → s.2.1[q[i]]? = some (zRk f q i)) ∧ ∀ x, x ∉ q → s.2.1[x]? = out[x]?) ?_ ?_ ⟨rfl, rfl, rfl, ho, fun i _ h => absurd h (by omega), fun x _ => rfl⟩ (by omega)
 ·rintro j ⟨i', o, lo, hi⟩ hj ⟨hi', hlo, hhi, hol, hd, hx⟩
  obtain rfl : i' = (j : Int) := hi'
  obtain rfl : lo = sumT (LL f) (q.take j) := hlo
  obtain rfl : hi = sumT (TT f) (q.take j) := hhi
  have hol : o.length = nS f := hol
  have hqj := hq _ (List.getElem_mem hj)
  have e1 : idx row.1 (j : Int) = some ((q[j] : Nat) : Int) := by rw [hrow]; exact zfo hj
  have e2 : idx o ((q[j] : Nat) : Int) = some (o[q[j]]'(by omega)) := zAb _
  have c1 : decide ((j : Int) < (row.1.length : Int)) = true := by rw [hlen]; simp; omega
  obtain ⟨a, ha, ea⟩ := z2r hs hk hF hqj
  obtain ⟨b, hb, eb⟩ := zvq hs hk hF hqj
  obtain rfl : a = LL f q[j] := ea
  obtain rfl : b = TT f q[j] := eb
  have s1 := zPu hF (q := q.take j) (fun x hx => hq x (List.mem_of_mem_take hx)) (by rw [List.length_take]; omega)
  have s2 := zMt hF hqj
  have s3 := z9o hF hqj
  have t1 : sumT (LL f) (q.take (j + 1)) = sumT (LL f) (q.take j) + LL f q[j] := by rw [List.take_succ_eq_append_getElem hj, zIi]
  have t2 : sumT (TT f) (q.take (j + 1)) = sumT (TT f) (q.take j) + TT f q[j] := by rw [List.take_succ_eq_append_getElem hj, zIi]
  have w1 : w64 (sumT (LL f) (q.take j) + LL f q[j]) = sumT (LL f) (q.take (j + 1)) := by rw [t1]; exact zR (by omega) (by omega)
  have w2 : w64 (sumT (TT f) (q.take j) + TT f q[j]) = sumT (TT f) (q.take (j + 1)) := by rw [t2]; exact zR (by omega) (by omega)
  simp only [z3e, c1, cond_true, e1, Option.bind_some, ha, hb, e2, w1, w2, Int.toNat_natCast]
  refine Ok.pure ⟨zub hj (by omega), rfl, rfl, by simpa using hol, fun i hi hij => ?_, fun x hxq => ?_⟩
  ·show (o.set q[j] (zRk f q j))[q[i]]? = _
   by_cases e : i = j
   ·subst e
    rw [List.getElem?_set_self (by omega)]
   ·have hne : q[j] ≠ q[i] := fun h => e ((List.getElem_inj hn).1 h).symm
    rw [List.getElem?_set_ne hne]
    exact hd i hi (by omega)
  ·show (o.set q[j] _)[x]? = _
   have hne : q[j] ≠ x := fun h => hxq (h ▸ List.getElem_mem hj)
   rw [List.getElem?_set_ne hne]
   exact hx x hxq
 ·rintro ⟨i', o, lo, hi⟩ ⟨hi', hlo, hhi, hol, hd, hx⟩
  obtain rfl : i' = (q.length : Int) := hi'
  have c1 : decide ((q.length : Int) < (row.1.length : Int)) = false := by rw [hlen]; simp
  simp only [z3e, c1, cond_false]
  exact Ok.pure ⟨hol, fun i hi => hd i hi hi, hx⟩
def z2w (f : zb) (R : List (SL Int)) (r : SL zo × Int) : Prop :=
 (¬ Fine f ∧ r.1.1 = [] ∧ r.2 = 30) ∨ (Fine f ∧ (∀ qs, ¬ Rost f R qs) ∧ r.1.1 = [] ∧ r.2 = 31) ∨ (Fine f ∧ r.2 = 0 ∧ ∃ qs, Rost f R qs ∧ r.1.1.length = nS f ∧ zEn f qs r.1.1)
theorem zho {qs : List (List Nat)} {q : List Nat} (h : q ∈ qs) : q.length ≤ qs.flatten.length := (List.sublist_flatten_of_mem h).length_le
theorem zFw {k : Nat} {f : zb} (hs : zLb f) (hk : Fuel k f) {p1 : SL (SL Int)} (hR : z6r k p1.1) : Ok (zoh k f p1) (z2w f p1.1) := by
 unfold zoh
 obtain ⟨c, hc, hc'⟩ := zjk hs hk
 rw [hc]
 by_cases hF : Fine f
 ·rw [if_pos hF] at hc'
  subst hc'
  have t : ((0 : Int) != 0) = false := by decide
  simp only [Option.bind_some, t, cond_false]
  have h9 := hF.nslips
  refine Ok.bind (zPs hs hk hF p1 hR) fun r hr => ?_
  cases r with
  | false => exact Ok.pure (.inr (.inl ⟨hF, (fun qs h => absurd (hr.2 ⟨qs, h⟩) (by simp)), rfl, rfl⟩))
  | true =>
   obtain ⟨qs, hq⟩ := hr.1 rfl
   have hlen := hq.2.1.len
   have hnd : qs.flatten.Nodup := (hq.2.2.nodup_iff).2 List.nodup_range
   have hlt : ∀ q ∈ qs, ∀ x ∈ q, x < nS f := fun q h1 x h2 => List.mem_range.1 (hq.2.2.mem_iff.1 (List.mem_flatten.2 ⟨q, h1, h2⟩))
   have hl9 : ∀ q ∈ qs, q.length ≤ 9 := fun q h => by
    have h1 := zho h
    have h2 := hq.2.2.length_eq
    rw [List.length_range] at h2
    omega
   have c2 : (decide (0 ≤ (f.Slips.1.length : Int)) && decide ((f.Slips.1.length : Int) ≤ (LIM : Int))) = true := by
    have h1 : nS f ≤ 12 := by omega
    have h2 : decide (nS f ≤ LIM) = true := zGx (by omega)
    have h3 : nS f ≤ LIM := by simpa using h2
    simp only [Bool.and_eq_true, decide_eq_true_eq]
    exact ⟨by omega, by have : f.Slips.1.length = nS f := rfl; omega⟩
   simp only [Bool.not_true, cond_false, c2, cond_true]
   refine Ok.bind (Ok.count p1.1.length (fun j s => s.1 = (j : Int) ∧ s.2.length = nS f ∧ zEn f (qs.take j) s.2) (Q := fun r : Int × List zo => r.2.length = nS f ∧ zEn f qs r.2) ?_ ?_ ⟨rfl, by simp, fun q hq => by simp at hq⟩ hR.1.1) fun v hv => Ok.pure (.inr (.inr ⟨hF, rfl, qs, hq, hv.1, hv.2⟩))
   ·rintro j ⟨i', o⟩ hj ⟨hi', hol, hd⟩
    obtain rfl : i' = (j : Int) := hi'
    have hj' : j < qs.length := by omega
    simp only [z7f, zic hj, cond_true, zAb hj, Option.bind_some]
    refine Ok.bind (zRw hs hk hF p1 _ (hq.2.1.get hj) (hlt _ (List.getElem_mem hj')) ((zym.1 hnd).1 _ (List.getElem_mem hj')) (hl9 _ (List.getElem_mem hj')) hol) fun r ⟨h1, h2, h3⟩ => Ok.pure ⟨zub hj hR.1.2, h1, ?_⟩
    intro q hqm i hi
    rw [List.take_succ_eq_append_getElem hj'] at hqm
    rcases List.mem_append.1 hqm with h | h
    ·obtain ⟨a, ha, rfl⟩ := List.mem_take_iff_getElem.1 h
     have hni : (qs[a])[i] ∉ qs[j] := fun hm => by
      have := zbs hnd (by omega) hj' (List.getElem_mem hi) hm
      omega
     exact (h3 _ hni).trans (hd _ h i hi)
    ·obtain rfl : q = qs[j] := by simpa using h
     exact h2 i hi
   ·rintro ⟨i', o⟩ ⟨hi', hol, hd⟩
    obtain rfl : i' = (p1.1.length : Int) := hi'
    simp only [z7f, zne, cond_false]
    rw [hlen, List.take_length] at hd
    exact Ok.pure ⟨hol, hd⟩
 ·rw [if_neg hF] at hc'
  subst hc'
  have t : ((30 : Int) != 0) = true := by decide
  simp only [Option.bind_some, t, cond_true]
  exact Ok.pure (.inl ⟨hF, rfl, rfl⟩)
end Go.AM
set_option linter.unusedVariables false
namespace Go.AM
open Go
theorem zJv (k : Nat) {n : Int} {m : Nat} (hm : 0 < m) (hb : m < 9223372036854775808) : ∃ i, i < m ∧ zCb k n (m : Int) = some (i : Int) := by
 have h1 : decide ((m : Int) < 1) = false := by simp; omega
 have h2 : ((m : Int) == 0) = false := by simp; omega
 have hneg := Int.tmod_lt_of_pos n (show (0 : Int) < (m : Int) by omega)
 have hlow : -(m : Int) < n.tmod (m : Int) := by
  have := Int.lt_tmod_of_pos n (show (0 : Int) < (m : Int) by omega)
  omega
 simp only [zCb, h1, h2, cond_false, zxc]
 by_cases h : n.tmod (m : Int) < 0
 ·refine ⟨(n.tmod (m : Int) + m).toNat, by omega, ?_⟩
  rw [show decide (n.tmod (m : Int) < 0) = true by simpa using h]
  simp only [cond_true, Option.bind_some]
  rw [zR (by omega) (by omega), Int.toNat_of_nonneg (by omega)]
 ·refine ⟨(n.tmod (m : Int)).toNat, by omega, ?_⟩
  rw [show decide (n.tmod (m : Int) < 0) = false by simpa using h]
  simp only [cond_false, Option.bind_some]
  rw [Int.toNat_of_nonneg (by omega)]
theorem zgq (k : Nat) {b : SL Int} (hb : b.1.length < 9223372036854775808) (n : Int) : ∃ v, z1b k b n = some v := by
 unfold z1b
 by_cases h : b.1.length = 0
 ·exact ⟨0, by rw [show ((b.1.length : Int) == 0) = true by rw [h]; rfl]; rfl⟩
 ·have c1 : ((b.1.length : Int) == 0) = false := by simp; intro e; exact h (by simp [e])
  obtain ⟨i, hi, hsp⟩ := zJv k (n := n) (m := b.1.length) (by omega) hb
  exact ⟨b.1[i], by simp only [c1, cond_false, hsp, Option.bind_some, zAb hi]⟩
theorem Rows.set {R : List (SL Int)} {qs : List (List Nat)} (h : Rows R qs) (c : Nat) (q : List Nat) (a : Cap) : Rows (R.set c (ints q, a)) (qs.set c q) := by
 unfold Rows at h ⊢
 rw [List.map_set, List.map_set, h]
end Go.AM
set_option linter.unusedVariables false
namespace Go.AM
open Go
theorem zvv {α : Type} {l : List α} {i : Nat} {a : α} (h : l[i]? = some a) : idx l (i : Int) = some a := by
 simpa [idx] using h
end Go.AM
set_option linter.unusedVariables false
namespace Go.AM
open Go
theorem z1r {a b c : Int} (h : 0 ≤ a) (hbc : b ≤ c) : a * b ≤ a * c := Int.mul_le_mul_of_nonneg_left hbc h
theorem zto (k : Nat) (s : zo) {lo hi : Int} (h : z2b lo hi s) (h0 : 0 ≤ lo) (h1 : hi ≤ 1000) (x : Int) : ∃ r, zzb k s x = some r ∧ s.Low ≤ r ∧ r ≤ s.High := by
 unfold z2b at h
 obtain ⟨r, h2, h3⟩ := zwx k (lo := s.Low) (hi := s.High) (by omega) x
 exact ⟨r, h2, h3⟩
theorem z8q {j : Nat} {L H t r : Int} (h : (j : Int) * L ≤ t ∧ t ≤ (j : Int) * H) (hr : L ≤ r ∧ r ≤ H) : ((j + 1 : Nat) : Int) * L ≤ t + r ∧ t + r ≤ ((j + 1 : Nat) : Int) * H := by
 have e1 : ((j + 1 : Nat) : Int) * L = (j : Int) * L + L := by push_cast; rw [Int.add_mul, Int.one_mul]
 have e2 : ((j + 1 : Nat) : Int) * H = (j : Int) * H + H := by push_cast; rw [Int.add_mul, Int.one_mul]
 omega
theorem zgv {k : Nat} {f : zb} (hk : Fuel k f) (hF : Fine f) {i : Nat} (hi : i < nS f) {st : Int} (hst : 0 ≤ st ∧ st ≤ 240000) {b : SL Int} (hb : b.1.length < 9223372036854775808) :
  Ok (iter (fun s => zrb k f (i : Int) st b s.1 s.2.1 s.2.2) k (0, (i : Int), 0)) (fun r => ∃ m : Nat, ((m : Int) = st ∧ m ≤ 2000 ∨ m = 2000 ∧ 2000 < st) ∧ r.2.1 = (i : Int) + m ∧ (m : Int) * f.Step.Low ≤ r.1 ∧ r.1 ≤ (m : Int) * f.Step.High) := by
 have h9 := hF.nslips
 have h0 := hk.k0
 have hl := zOk hF
 have hh := zUi hF
 have hsp := hF.step
 obtain ⟨m, hm⟩ : ∃ m : Nat, (m : Int) = st ∧ m ≤ 2000 ∨ m = 2000 ∧ 2000 < st := by
  by_cases h : st ≤ 2000
  ·exact ⟨st.toNat, .inl ⟨by omega, by omega⟩⟩
  ·exact ⟨2000, .inr ⟨rfl, by omega⟩⟩
 refine Ok.count m (fun j s => s.2.2 = (j : Int) ∧ s.2.1 = (i : Int) + j ∧ (j : Int) * f.Step.Low ≤ s.1 ∧ s.1 ≤ (j : Int) * f.Step.High) ?_ ?_ ⟨rfl, by simp, by simp⟩ (by omega)
 ·rintro j ⟨t, n, j'⟩ hj ⟨hj', hn, ht⟩
  obtain rfl : j' = (j : Int) := hj'
  obtain rfl : n = (i : Int) + j := hn
  have ht : (j : Int) * f.Step.Low ≤ t ∧ t ≤ (j : Int) * f.Step.High := ht
  have c1 : decide ((j : Int) < st) = true := decide_eq_true (by omega)
  have c2 : decide ((j : Int) < 2000) = true := decide_eq_true (by omega)
  have w1 : w64 ((i : Int) + j + 1) = (i : Int) + ((j + 1 : Nat) : Int) := by rw [zR (by omega) (by omega)]; push_cast; omega
  obtain ⟨x, hx⟩ := zgq k hb ((i : Int) + ((j + 1 : Nat) : Int))
  obtain ⟨r, hr, hr2⟩ := zto k f.Step hsp (by omega) (by omega) x
  have b1 := zYf (a := (j : Int)) (x := 2000) (by omega) (by omega) hh.1 hh.2
  have b2 := zYf (a := (j : Int)) (x := 2000) (by omega) (by omega) hl.1 hl.2
  have w2 : w64 (t + r) = t + r := zR (by omega) (by omega)
  simp only [zrb, zMb, c1, c2, cond_true, Option.bind_some, w1, hx, hr, w2]
  exact Ok.pure ⟨zub hj (by omega), rfl, z8q ht hr2⟩
 ·rintro ⟨t, n, j'⟩ ⟨hj', hn, ht⟩
  obtain rfl : j' = (m : Int) := hj'
  obtain rfl : n = (i : Int) + m := hn
  have ht : (m : Int) * f.Step.Low ≤ t ∧ t ≤ (m : Int) * f.Step.High := ht
  have fin : Ok (some (Sum.inr (t, (i : Int) + m, (m : Int)) : (Int × Int × Int) ⊕ (Int × Int × Int))) (Goes (fun _ => False) fun r => ∃ m : Nat, ((m : Int) = st ∧ m ≤ 2000 ∨ m = 2000 ∧ 2000 < st) ∧ r.2.1 = (i : Int) + m ∧ (m : Int) * f.Step.Low ≤ r.1 ∧ r.1 ≤ (m : Int) * f.Step.High) := Ok.pure ⟨m, hm, rfl, ht⟩
  rcases hm with ⟨h1, h2⟩ | ⟨h1, h2⟩
  ·have c1 : decide ((m : Int) < st) = false := decide_eq_false (by omega)
   simp only [zrb, zMb, c1, cond_false, Option.bind_some]
   exact fin
  ·have c1 : decide ((m : Int) < st) = true := decide_eq_true (by omega)
   have c2 : decide ((m : Int) < 2000) = false := decide_eq_false (by omega)
   simp only [zrb, zMb, c1, c2, cond_true, cond_false, Option.bind_some]
   exact fin
theorem zRv {k : Nat} {f : zb} (hF : Fine f) {i : Nat} {st : Int} (hst : 0 ≤ st ∧ st ≤ 240000) {b : SL Int} (hb : b.1.length < 9223372036854775808) (v : Int × Int × Int) {m : Nat} (hm : (m : Int) = st ∧ m ≤ 2000 ∨ m = 2000 ∧ 2000 < st) (hv : (m : Int) * f.Step.Low ≤ v.1 ∧ v.1 ≤ (m : Int) * f.Step.High) :
  Ok (zmc k f (i : Int) st b v (decide (st > 2000))) (fun r => st * f.Step.Low ≤ r.1 ∧ r.1 ≤ st * f.Step.High) := by
 have hl := zOk hF
 have hh := zUi hF
 have hsp := hF.step
 rcases hm with ⟨h1, h2⟩ | ⟨h1, h2⟩
 ·rw [decide_eq_false (by omega : ¬ st > 2000)]
  rw [h1] at hv
  exact Ok.pure hv
 ·rw [decide_eq_true (by omega : st > 2000)]
  obtain ⟨x, hx⟩ := zgq k hb (i : Int)
  obtain ⟨r, hr, hr2⟩ := zto k f.Step hsp (by omega) (by omega) x
  subst h1
  have b1 := zYf (a := st - 2000) (x := 240000) (b := r) (y := 10) (by omega) (by omega) (by omega) (by omega)
  have w1 : w64 (st - 2000) = st - 2000 := zR (by omega) (by omega)
  have w2 : w64 ((st - 2000) * r) = (st - 2000) * r := zR (by omega) (by omega)
  have w3 : w64 (v.1 + (st - 2000) * r) = v.1 + (st - 2000) * r := zR (by omega) (by omega)
  simp only [zmc, cond_true, hx, Option.bind_some, hr, w1, w2, w3]
  refine Ok.pure ?_
  have m1 := z1r (a := st - 2000) (by omega) hr2.1
  have m2 := z1r (a := st - 2000) (by omega) hr2.2
  have e1 : (st - 2000) * f.Step.Low = st * f.Step.Low - 2000 * f.Step.Low := Int.sub_mul _ _ _
  have e2 : (st - 2000) * f.Step.High = st * f.Step.High - 2000 * f.Step.High := Int.sub_mul _ _ _
  have hv1 : (2000 : Int) * f.Step.Low ≤ v.1 := hv.1
  have hv2 : v.1 ≤ (2000 : Int) * f.Step.High := hv.2
  show st * f.Step.Low ≤ v.1 + (st - 2000) * r ∧ v.1 + (st - 2000) * r ≤ st * f.Step.High
  omega
theorem z1v {k : Nat} {f : zb} (hk : Fuel k f) (hF : Fine f) {i : Nat} (hi : i < nS f) {st : Int} {b : SL Int} (hb : b.1.length < 9223372036854775808) (v1 : Int × Int × Int) (v3 : Int × Bool) {n : Int} (hn : 0 ≤ n ∧ n ≤ 100000) {A B t : Int} (hA : 0 ≤ A) (hB : B ≤ 2400000) (ht : A ≤ t ∧ t ≤ B) :
  Ok (iter (fun s => zOb k f (i : Int) st b v1 v3 (slp f i) s.1 s.2.1 s.2.2) k (t, n, 0)) (fun r => A + pks f (·.Low) (lns f i) ≤ r.1 ∧ r.1 ≤ B + pks f (·.High) (lns f i)) := by
 have h12 := hF.nfar
 have h0 := hk.k0
 have hsl := zhf hF hi
 have hlf : z6e (nF f) (lns f i) := hsl.2
 have hln := zBi hlf
 refine Ok.count (lns f i).length (fun j s => s.2.2 = (j : Int) ∧ (n ≤ s.2.1 ∧ s.2.1 ≤ n + 20 * j) ∧ A + pks f (·.Low) ((lns f i).take j) ≤ s.1 ∧ s.1 ≤ B + pks f (·.High) ((lns f i).take j)) ?_ ?_ ⟨rfl, by simp, by simpa [pks] using ht⟩ (by omega)
 ·rintro j ⟨t, n', j'⟩ hj ⟨hj', hn', ht⟩
  obtain rfl : j' = (j : Int) := hj'
  have hn' : n ≤ n' ∧ n' ≤ n + 20 * j := hn'
  have ht : A + pks f (·.Low) ((lns f i).take j) ≤ t ∧ t ≤ B + pks f (·.High) ((lns f i).take j) := ht
  obtain ⟨x, hx⟩ : ∃ x, x = (lns f i)[j] := ⟨_, rfl⟩
  have hmany := (hlf j hj).2
  have hsh := zQj hlf hj
  rw [← hx] at hmany hsh
  have e1 : idx (slp f i).Lines.1 (j : Int) = some x := by rw [hx]; exact zAb hj
  have e2 : idx f.Pick.1 x.Shelf = some (pk f x.Shelf.toNat) := zIr hF hsh
  have hpk := zIn hF (i := x.Shelf.toNat) (by omega)
  obtain ⟨m, hm⟩ : ∃ m : Nat, x.Many = (m : Int) := ⟨x.Many.toNat, by omega⟩
  have hp0 := zsm hF (v := (·.Low)) zMn hlf j (by omega)
  have hp1 := zsm hF (v := (·.High)) zvm hlf j (by omega)
  have hpl := zMn _ hpk
  have hph := zvm _ hpk
  have c0 : decide ((j : Int) < ((slp f i).Lines.1.length : Int)) = true := zic hj
  simp only [zOb, c0, cond_true]
  refine Ok.bind (P := fun r : Int × Int × Int => (n ≤ r.2.1 ∧ r.2.1 ≤ n + 20 * (j + 1 : Nat)) ∧ t + (m : Int) * (pk f x.Shelf.toNat).Low ≤ r.1 ∧ r.1 ≤ t + (m : Int) * (pk f x.Shelf.toNat).High) ?_ fun r hr => Ok.pure ⟨zub hj (by omega), hr.1, ?_⟩
  ·refine Ok.count m (fun a s => s.2.2 = (a : Int) ∧ s.2.1 = n' + a ∧ (a : Int) * (pk f x.Shelf.toNat).Low ≤ s.1 - t ∧ s.1 - t ≤ (a : Int) * (pk f x.Shelf.toNat).High) ?_ ?_ ⟨rfl, by simp, by simp⟩ (by omega)
   ·rintro a ⟨u, n2, a'⟩ ha ⟨ha', hn2, hu⟩
    obtain rfl : a' = (a : Int) := ha'
    obtain rfl : n2 = n' + (a : Int) := hn2
    have hu : (a : Int) * (pk f x.Shelf.toNat).Low ≤ u - t ∧ u - t ≤ (a : Int) * (pk f x.Shelf.toNat).High := hu
    have c1 : decide ((a : Int) < x.Many) = true := decide_eq_true (by omega)
    have w1 : w64 (n' + (a : Int) + 1) = n' + ((a + 1 : Nat) : Int) := by rw [zR (by omega) (by omega)]; push_cast; omega
    obtain ⟨y, hy⟩ := zgq k hb (n' + ((a + 1 : Nat) : Int))
    obtain ⟨r, hr, hr2⟩ := zto k (pk f x.Shelf.toNat) hpk (by omega) (by omega) y
    have b1 := zYf (a := (a : Int)) (x := 20) (by omega) (by omega) hph.1 hph.2
    have b2 := zYf (a := (a : Int)) (x := 20) (by omega) (by omega) hpl.1 hpl.2
    have w2 : w64 (u + r) = u + r := zR (by omega) (by omega)
    simp only [zoc, e1, Option.bind_some, c1, cond_true, e2, w1, hy, hr, w2]
    have := z8q hu hr2
    exact Ok.pure ⟨zub ha (by omega), rfl, by show _ ≤ u + r - t ∧ u + r - t ≤ _; omega⟩
   ·rintro ⟨u, n2, a'⟩ ⟨ha', hn2, hu⟩
    obtain rfl : a' = (m : Int) := ha'
    obtain rfl : n2 = n' + (m : Int) := hn2
    have hu : (m : Int) * (pk f x.Shelf.toNat).Low ≤ u - t ∧ u - t ≤ (m : Int) * (pk f x.Shelf.toNat).High := hu
    have c1 : decide ((m : Int) < x.Many) = false := decide_eq_false (by omega)
    simp only [zoc, e1, Option.bind_some, c1, cond_false]
    exact Ok.pure ⟨by show n ≤ n' + (m : Int) ∧ n' + (m : Int) ≤ _; omega, by show t + _ ≤ u ∧ u ≤ _; omega⟩
  ·have s1 := z1j f (·.Low) ((lns f i).take j) x
   have s2 := z1j f (·.High) ((lns f i).take j) x
   have et : (lns f i).take (j + 1) = (lns f i).take j ++ [x] := by rw [List.take_succ_eq_append_getElem hj, hx]
   rw [et, s1, s2, hm]
   have := hr.2
   show _ ≤ r.1 ∧ r.1 ≤ _
   omega
 ·rintro ⟨t, n', j'⟩ ⟨hj', hn', ht⟩
  obtain rfl : j' = ((lns f i).length : Int) := hj'
  have c0 : decide (((lns f i).length : Int) < ((slp f i).Lines.1.length : Int)) = false := zne
  simp only [zOb, c0, cond_false]
  rw [List.take_length] at ht
  exact Ok.pure ht
theorem zHv {k : Nat} {f : zb} (hk : Fuel k f) (hF : Fine f) {i : Nat} (hi : i < nS f) {b : SL Int} (hb : b.1.length < 9223372036854775808) : Ok (zYc k f (i : Int) (zfc f i) b) (fun t => LL f i ≤ t ∧ t ≤ TT f i) := by
 have h9 := hF.nslips
 have hst := z1m hF hi
 have hl := zOk hF
 have hh := zUi hF
 unfold zYc
 refine Ok.bind (zgv hk hF hi hst hb) fun v1 ⟨m, hm, hn, hv⟩ => ?_
 refine Ok.bind (zRv hF hst hb v1 hm hv) fun v3 h3 => ?_
 rw [zmh hi, hn]
 simp only [Option.bind_some]
 have b1 := zYf hst.1 hst.2 hl.1 hl.2
 have b2 := zYf hst.1 hst.2 hh.1 hh.2
 refine Ok.bind (z1v hk hF hi hb v1 v3 (by omega) b1.1 (by omega) h3) fun v7 h7 => Ok.pure h7
end Go.AM
set_option linter.unusedVariables false
namespace Go.AM
open Go
theorem InT.at {T U : Nat → Int} : ∀ {q : List Nat} {now : Int}, InT T U now q → ∀ j (h : j < q.length), now + sumT T (q.take (j + 1)) ≤ U q[j]
 | x :: q, now, h, 0, _ => by
  have := h.1
  simp only [List.take_succ_cons, List.take_zero, sumT, List.getElem_cons_zero]
  omega
 | x :: q, now, h, j + 1, hj => by
  have := InT.at h.2 j (by simpa using hj)
  simp only [List.take_succ_cons, sumT, List.getElem_cons_succ]
  omega
theorem Ros.rost {f : zb} {p : Nat} {R : List (SL Int)} (h : Ros f p (allS (nS f)) R) (hp : 1 ≤ p ∧ p ≤ 5) : ∃ qs, Rost f R qs ∧ ∀ q ∈ qs, InT (TT f) (UU f) 0 q := by
 obtain ⟨h1, qs, h2, h3, h4⟩ := h
 rw [zht] at h3
 exact ⟨qs, ⟨⟨by omega, by omega⟩, h2, h3⟩, h4⟩
theorem z4w {k : Nat} {f : zb} (hs : zLb f) (hk : Fuel k f) (hF : Fine f) {b : SL Int} (hb : b.1.length < 9223372036854775808) {v1 : SL (SL Int) × Int} {v7 : SL zo × Int} {qs : List (List Nat)} (hR : Rost f v1.1.1 qs) (hin : ∀ q ∈ qs, InT (TT f) (UU f) 0 q) (hd : zEn f qs v7.1.1) {i : Nat} (hi : i < v1.1.1.length) {S : Nat} (hS : S < 2 ^ nS f) :
  Ok (iter (fun s => zwb k f b v1 v7 (i : Int) s.1 s.2.1 s.2.2) k ((S : Int), 0, 0)) (fun r => ∃ z, r = .inr (.inr z) ∧ ∃ S' : Nat, z.1 = (S' : Int) ∧ S' < 2 ^ nS f ∧ ∀ x, S'.testBit x = true ↔ S.testBit x = true ∨ x ∈ (qs[i]'(by have := hR.2.1.len; omega))) := by
 have h9 := hF.nslips
 have h0 := hk.k0
 have h512 : 2 ^ nS f ≤ 2 ^ 9 := Nat.pow_le_pow_right (by omega) h9
 have hiq : i < qs.length := by have := hR.2.1.len; omega
 have er : v1.1.1[i].1 = ints qs[i] := hR.2.1.get hi
 have hq : ∀ x ∈ qs[i], x < nS f := fun x hx => List.mem_range.1 (hR.2.2.mem_iff.1 (List.mem_flatten.2 ⟨_, List.getElem_mem hiq, hx⟩))
 have hl : qs[i].length ≤ 9 := by
  have h1 := zho (List.getElem_mem hiq)
  have h2 := hR.2.2.length_eq
  rw [List.length_range] at h2
  omega
 have e1 : idx v1.1.1 (i : Int) = some v1.1.1[i] := zAb hi
 have hlen : v1.1.1[i].1.length = qs[i].length := by rw [er, znk]
 have hiT := hin _ (List.getElem_mem hiq)
 refine Ok.count qs[i].length (fun j s => s.2.2 = (j : Int) ∧ (sumT (LL f) (qs[i].take j) ≤ s.2.1 ∧ s.2.1 ≤ sumT (TT f) (qs[i].take j)) ∧ ∃ S' : Nat, s.1 = (S' : Int) ∧ S' < 2 ^ nS f ∧ ∀ x, S'.testBit x = true ↔ S.testBit x = true ∨ x ∈ qs[i].take j) ?_ ?_ ⟨rfl, ⟨Int.le_refl _, Int.le_refl _⟩, S, rfl, hS, fun x => by simp⟩ (by omega)
 ·rintro j ⟨m, now, j'⟩ hj ⟨hj', hnow, S', hm, hS', hbit⟩
  obtain rfl : j' = (j : Int) := hj'
  obtain rfl : m = (S' : Int) := hm
  have hnow : sumT (LL f) (qs[i].take j) ≤ now ∧ now ≤ sumT (TT f) (qs[i].take j) := hnow
  have hqj := hq _ (List.getElem_mem hj)
  have e2 : idx v1.1.1[i].1 (j : Int) = some ((qs[i][j] : Nat) : Int) := by rw [er]; exact zfo hj
  have c1 : decide ((j : Int) < (v1.1.1[i].1.length : Int)) = true := by rw [hlen]; simp; omega
  have s1 := zPu hF (q := qs[i].take j) (fun x hx => hq x (List.mem_of_mem_take hx)) (by rw [List.length_take]; omega)
  have s2 := zMt hF hqj
  have s3 := z9o hF hqj
  have t1 : sumT (LL f) (qs[i].take (j + 1)) = sumT (LL f) (qs[i].take j) + LL f qs[i][j] := by rw [List.take_succ_eq_append_getElem hj, zIi]
  have t2 : sumT (TT f) (qs[i].take (j + 1)) = sumT (TT f) (qs[i].take j) + TT f qs[i][j] := by rw [List.take_succ_eq_append_getElem hj, zIi]
  have e3 : idx v7.1.1 ((qs[i][j] : Nat) : Int) = some (zRk f qs[i] j) := zvv (hd _ (List.getElem_mem hiq) j hj)
  have hun := InT.at hiT j hj
  have wn : w64 ((f.Slips.1.length : Int) - 1) = (nS f : Int) - 1 := zpm hs.slips
  have c2 : (!(decide (0 ≤ ((qs[i][j] : Nat) : Int)) && decide (((qs[i][j] : Nat) : Int) ≤ (nS f : Int) - 1))) = false := by
   simp only [Bool.not_eq_false', Bool.and_eq_true, decide_eq_true_eq]; omega
  have c3 : decide (((qs[i][j] : Nat) : Int) < 0) = false := by simp
  simp only [zwb, e1, Option.bind_some, c1, cond_true, e2, z9g, wn, c2, cond_false, ziv hs hk hF hqj, zZv hs hk hF hqj]
  refine Ok.bind (zHv hk hF hqj hb) fun t ht => ?_
  rw [c3, cond_false]
  have t0 : ((0 : Int) != 0) = false := by decide
  have w1 : w64 (now + t) = now + t := zR (by omega) (by omega)
  have d1 : (zRk f qs[i] j).Low = sumT (LL f) (qs[i].take (j + 1)) := rfl
  have d2 : (zRk f qs[i] j).High = sumT (TT f) (qs[i].take (j + 1)) := rfl
  have c4 : (!(decide (zuc f qs[i][j] (·.Low) ≤ t) && decide (t ≤ zuc f qs[i][j] (·.High)))) = false := by
   simp only [Bool.not_eq_false', Bool.and_eq_true, decide_eq_true_eq]; exact ht
  have c5 : (!(decide (sumT (LL f) (qs[i].take (j + 1)) ≤ now + t) && decide (now + t ≤ sumT (TT f) (qs[i].take (j + 1))))) = false := by
   simp only [Bool.not_eq_false', Bool.and_eq_true, decide_eq_true_eq]; omega
  have eu : (slp f qs[i][j]).Until = UU f qs[i][j] := rfl
  have c6 : decide (now + t > UU f qs[i][j]) = false := decide_eq_false (by omega)
  simp only [zBc, t0, cond_false, zud, z9g, Option.bind_some, c4, e3, w1, d1, d2, c5, zmh hqj, eu, c6]
  rw [zit (by omega) (by omega)]
  refine Ok.pure ⟨zub hj (by omega), by show _ ≤ now + t ∧ now + t ≤ _; omega, S' ||| 2 ^ qs[i][j], rfl, Nat.or_lt_two_pow hS' (Nat.pow_lt_pow_right (by omega) hqj), fun x => ?_⟩
  rw [zJu, hbit, List.take_succ_eq_append_getElem hj]
  simp only [List.mem_append, List.mem_singleton]
  exact or_assoc
 ·rintro ⟨m, now, j'⟩ ⟨hj', hnow, S', hm, hS', hbit⟩
  obtain rfl : j' = (qs[i].length : Int) := hj'
  have c1 : decide ((qs[i].length : Int) < (v1.1.1[i].1.length : Int)) = false := by rw [hlen]; simp
  simp only [zwb, e1, Option.bind_some, c1, cond_false]
  rw [List.take_length] at hbit
  exact Ok.pure ⟨_, rfl, S', hm, hS', hbit⟩
theorem zNs {k : Nat} {f : zb} (hs : zLb f) (hk : Fuel k f) (hw : zRb k = some true) {b : SL Int} (hb : b.1.length < 9223372036854775808) : zPb k f b = some true := by
 refine Ok.eq ?_
 unfold zPb
 refine Ok.bind (zOu hs hk) fun v1 h1 => ?_
 obtain ⟨so, hso, hso'⟩ := zjv hs hk
 rw [hso]
 simp only [Option.bind_some]
 by_cases hF : Fine f
 ·have hso2 := hso'.2 hF
  subst hso2
  have h9 := hF.nslips
  have h0 := hk.k0
  simp only [Bool.not_true, cond_false]
  rcases h1 with ⟨h, _⟩ | ⟨_, h1e, p, hp5, hfew, hros⟩ | ⟨_, h1e, h1l, _⟩
  ·exact absurd hF h
  ·obtain ⟨qs, hR, hin⟩ := hros.rost ⟨hfew.1, hp5⟩
   obtain ⟨v1, e1⟩ := v1
   obtain rfl : e1 = 0 := h1e
   have hR : Rost f v1.1 qs := hR
   have t : ((0 : Int) != 0) = false := by decide
   simp only [t, cond_false]
   have hrow : ∀ l ∈ v1.1, l.1.length ≤ 9 := fun l hl => by
    obtain ⟨i, hi, rfl⟩ := List.getElem_of_mem hl
    have hiq : i < qs.length := by have := hR.2.1.len; omega
    rw [hR.2.1.get hi, znk]
    have h1 := zho (List.getElem_mem hiq)
    have h2 := hR.2.2.length_eq
    rw [List.length_range] at h2
    omega
   have hlen5 := hR.1.2
   have hSR : z6r k v1.1 := ⟨⟨by omega, by omega⟩, fun l hl => by have := hrow l hl; omega⟩
   refine Ok.bind (zFw hs hk hSR) fun v7 h7 => ?_
   rcases h7 with ⟨h, _⟩ | ⟨_, h, _⟩ | ⟨_, h7e, qs', hR', h7l, h7d⟩
   ·exact absurd hF h
   ·exact absurd hR (h qs)
   obtain rfl : qs' = qs := hR'.2.1.eq hR.2.1
   obtain ⟨⟨o7, c7⟩, e7⟩ := v7
   obtain rfl : e7 = 0 := h7e
   have h7l : o7.length = nS f := h7l
   have h7d : zEn f qs' o7 := h7d
   have c1 : (((o7.length : Int)) != (f.Slips.1.length : Int)) = false := by rw [h7l]; simp
   have c2 : (!(decide (1 ≤ (v1.1.length : Int)) && decide ((v1.1.length : Int) ≤ 5))) = false := by
    have := hR.1
    simp only [Bool.not_eq_false', Bool.and_eq_true, decide_eq_true_eq]; omega
   simp only [zAc, t, cond_false, c1, z9g, Option.bind_some, c2]
   refine Ok.bind (Ok.count v1.1.length (fun j s => s.2 = (j : Int) ∧ ∃ S : Nat, s.1 = (S : Int) ∧ S < 2 ^ nS f ∧ ∀ x, S.testBit x = true ↔ x ∈ (qs'.take j).flatten) (Q := fun r : (Int × Int × Int × Int × Int) ⊕ ((Int × Int × Int × Int × Int × Int × Int × Int × Int × Int × Int) ⊕ (Int × Int)) => ∃ z, r = .inr (.inr z) ∧ z.1 = ((allS (nS f) : Nat) : Int)) ?_ ?_ ⟨rfl, 0, rfl, Nat.two_pow_pos _, fun x => by simp⟩ (by omega)) fun r hr => ?_
   ·rintro j ⟨m, j'⟩ hj ⟨hj', S, hm, hS, hbit⟩
    obtain rfl : j' = (j : Int) := hj'
    obtain rfl : m = (S : Int) := hm
    have hjq : j < qs'.length := by have := hR.2.1.len; omega
    simp only [zVb, zic hj, cond_true]
    refine Ok.bind (z4w hs hk hF hb (v1 := (v1, 0)) (v7 := ((o7, c7), 0)) hR hin h7d hj hS) fun r ⟨z, hz, S', hm', hS', hb'⟩ => ?_
    subst hz
    refine Ok.pure ⟨zub hj (by omega), S', hm', hS', fun x => ?_⟩
    rw [hb', hbit, List.take_succ_eq_append_getElem hjq, List.flatten_append, List.mem_append]
    simp
   ·rintro ⟨m, j'⟩ ⟨hj', S, hm, hS, hbit⟩
    obtain rfl : j' = (v1.1.length : Int) := hj'
    obtain rfl : m = (S : Int) := hm
    simp only [zVb, zne, cond_false]
    refine Ok.pure ⟨_, rfl, ?_⟩
    show (S : Int) = _
    rw [hR.2.1.len, List.take_length] at hbit
    have : S = allS (nS f) := by
     apply Nat.eq_of_testBit_eq
     intro i
     rw [Bool.eq_iff_iff, hbit, zKm, hR.2.2.mem_iff, List.mem_range]
     simp
    rw [this]
   ·obtain ⟨z, rfl, hz⟩ := hr
    have c3 : decide ((f.Slips.1.length : Int) < 0) = false := by simp
    have c4 : (z.1 == w64 (zn 1 (f.Slips.1.length : Int) - 1)) = true := by
     have : w64 (zn 1 (f.Slips.1.length : Int) - 1) = ((allS (nS f) : Nat) : Int) := zpq h9
     rw [this, hz]
     simp
    simp only [Sum.elim_inr, c3, cond_false, c4, cond_true, hw, Option.bind_some]
    exact Ok.pure rfl
  ·have c1 : (v1.2 != 0) = true := by rw [h1e]; decide
   have c2 : (v1.2 == 4) = true := by rw [h1e]; decide
   have c3 : (((v1.1.1.length : Int)) == 0) = true := by rw [h1l]; decide
   simp only [c1, c2, c3, cond_true, hw, Option.bind_some]
   exact Ok.pure rfl
 ·have hso2 : so = false := by
   cases so with
   | false => rfl
   | true => exact absurd (hso'.1 rfl) hF
  subst hso2
  rcases h1 with ⟨_, h1l, h1e⟩ | ⟨h, _⟩ | ⟨h, _⟩
  ·have c2 : (v1.2 == 30) = true := by rw [h1e]; decide
   have c3 : (((v1.1.1.length : Int)) == 0) = true := by rw [h1l]; decide
   simp only [Bool.not_false, c2, c3, cond_true, hw, Option.bind_some]
   exact Ok.pure rfl
  ·exact absurd h hF
  ·exact absurd h hF
end Go.AM
set_option linter.unusedVariables false
namespace Go.AM
open Go
def zld (x : zo) : Prop := (-9223372036854775808 ≤ x.Low ∧ x.Low ≤ 9223372036854775807) ∧ (-9223372036854775808 ≤ x.High ∧ x.High ≤ 9223372036854775807) ∧ True
def zvf (x : zl) : Prop := (-9223372036854775808 ≤ x.Shelf ∧ x.Shelf ≤ 9223372036854775807) ∧ (-9223372036854775808 ≤ x.Many ∧ x.Many ≤ 9223372036854775807) ∧ True
def zuf (x : zj) : Prop := zje (fun (a : zl) => zvf a) x.Lines ∧ (-9223372036854775808 ≤ x.Until ∧ x.Until ≤ 9223372036854775807) ∧ True
def zPc (x : zb) : Prop := zje (fun (a : Int) => (-9223372036854775808 ≤ a ∧ a ≤ 9223372036854775807)) x.Far ∧ zld x.Step ∧ zje (fun (a : zo) => zld a) x.Pick ∧ (-9223372036854775808 ≤ x.Carry ∧ x.Carry ≤ 9223372036854775807) ∧ zje (fun (a : zj) => zuf a) x.Slips ∧ True
end Go.AM
set_option maxRecDepth 1000000
namespace Go.AM
open Go
theorem zPv (k : Nat) : zRb (k + 300) = some true := by kernel_rfl
end Go.AM
set_option linter.unusedVariables false
namespace Go.AM
open Go
theorem zwt {f : zb} (h : zPc f) : zLb f := by
 obtain ⟨h1, h2, h3, h4, h5, _⟩ := h
 have e : maxLen = 9223372036854775807 := by decide
 have l1 := h1.2.2
 have l3 := h3.2.2
 have l5 := h5.2.2
 rw [e] at l1 l3 l5
 refine ⟨show f.Far.1.length < _ by omega, by omega, show f.Slips.1.length < _ by omega, fun s hs => ?_⟩
 have := (h5.1 s hs).1.2.2
 rw [e] at this
 omega
def zNu (f : zb) : Nat := 500000 + f.Far.1.length + f.Pick.1.length + f.Slips.1.length + (f.Slips.1.map fun s => s.Lines.1.length).sum
theorem zyx {l : List Nat} {n : Nat} : n ∈ l → n ≤ l.sum := by
 induction l with
 | nil => intro h; simp at h
 | cons x t ih =>
  intro h
  rw [List.sum_cons]
  rcases List.mem_cons.1 h with rfl | h
  ·omega
  ·have := ih h
   omega
theorem zMw (f : zb) (m : Nat) : Fuel (zNu f + m + 300) f := by
 unfold zNu
 refine ⟨by omega, show f.Far.1.length < _ by omega, by omega, show f.Slips.1.length < _ by omega, fun s hs => ?_⟩
 have := zyx (List.mem_map.2 ⟨s, hs, rfl⟩ : s.Lines.1.length ∈ f.Slips.1.map fun s => s.Lines.1.length)
 omega
end Go.AM
set_option linter.unusedVariables false
namespace Go.AM
open Go
theorem zjx (f : zb) (b : SL Int) (hf : zPc f) (hb : zje (fun (a : Int) => (-9223372036854775808 ≤ a ∧ a ≤ 9223372036854775807)) b) : ∃ k, zPb k f b = some true := by
 have h1 := hb.2.2
 have e : maxLen = 9223372036854775807 := by decide
 exact ⟨_, zNs (zwt hf) (zMw f 0) (zPv _) (by omega)⟩
end Go.AM
