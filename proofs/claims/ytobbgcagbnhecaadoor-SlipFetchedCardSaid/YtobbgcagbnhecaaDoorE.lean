/- The statement SlipFetched holds for every input that its row lets in. Conditions: none. -/
import Derived.KernelRfl
import Derived.Test.YtobbgcagbnhecaaDoorD
set_option linter.all false
set_option linter.unusedVariables false
set_option maxRecDepth 100000
namespace Go.AM
open Go Go.Proofs
noncomputable def ztp (p0 : zd) (p1 : Int) (r0 : (SL Int)) (r1 r2 : Int) (v1702 : zt1) (rc : zt0) (f1 f2 f3 f4 f5 f6 f7 : Fr) : (((SL Int) × Int × Bool) ⊕ Int) → Ex × St := Sum.elim (fun r => (.ret, zgh p0 p1 r0 r1 r2 v1702 rc f1 f2 f3 f4 f5 f6 f7 r)) (fun r => ((.exit 0), zyh p0 p1 r0 r1 r2 v1702 rc f1 f2 f3 f4 f5 f6 f7 r))
theorem z0k (k : Nat) (p0 : zd) (p1 : Int) (r0 : (SL Int)) (r1 r2 : Int) (v1702 : zt1) (rc : zt0) (f1 f2 f3 f4 f5 f6 f7 : Fr) (hrc : ∀ (f : Fr) (r0 : (SL Int)) (r1 : Int) (r2 : Int) (r : ((SL Int) × Bool)), rc r0 r1 r2 = some r → zK TE (ev TE) 77 [(.d (dl eI r0.1 r0.2)), (xi r1), (xi r2), (.ptr 0 6 0), (.ptr 0 8 0), (.ptr 0 3 0), (.ptr 0 9 0)] ⟨f, [[(2, (.cells ((za p0).map .d))), (3, (.cells [(xi p1)])), (6, (.cells ((za p0).map .d))), (8, (.cells [(xi (w64 ((zo 1 (p0.Slips.1.length : Int)) - 1)))])), (9, (.cells [(.fn 77 [] [(.ptr 0 6 0), (.ptr 0 8 0), (.ptr 0 3 0), (.ptr 0 9 0)])]))], f1, f2, f3, f4, f5, f6, f7]⟩ [] = some (zt r, ⟨f, [[(2, (.cells ((za p0).map .d))), (3, (.cells [(xi p1)])), (6, (.cells ((za p0).map .d))), (8, (.cells [(xi (w64 ((zo 1 (p0.Slips.1.length : Int)) - 1)))])), (9, (.cells [(.fn 77 [] [(.ptr 0 6 0), (.ptr 0 8 0), (.ptr 0 3 0), (.ptr 0 9 0)])]))], f1, f2, f3, f4, f5, f6, f7]⟩, [])) (s18_8 : Int) (x : Int ⊕ (((SL Int) × Int × Bool) ⊕ Int)) (h : ztj k p0 p1 r0 r1 r2 v1702 rc s18_8 = some x) : zG TE 77 (blk TE 77 0) (fun s : Int => z9p p0 p1 r0 r1 r2 v1702 rc f1 f2 f3 f4 f5 f6 f7 s) (ztp p0 p1 r0 r1 r2 v1702 rc f1 f2 f3 f4 f5 f6 f7) s18_8 x := by
 unfold ztj at h
 refine zn h (fun h1901 g1 => ?_) (fun h1901 g1 => ?_)
 ·refine zn g1 (fun h1902 g2 => ?_) (fun h1902 g2 => ?_)
  ·cases g2
  ·refine zN g2 (fun h1903 g3 => ?_)
   refine zn g3 (fun h1904 g4 => ?_) (fun h1904 g4 => ?_)
   ·cases g4
   ·refine zk g4 (fun v1905 h1906 g5 => ?_)
    refine zn g5 (fun h1907 g6 => ?_) (fun h1907 g6 => ?_)
    ·exact zqo [(77, 8, 4, .q (xi (p0.Slips.1.length : Int))), (77, 8, 5, .q (xb true)), (77, 10, 3, .q (xi (r0.1.length : Int))), (77, 10, 5, .q (xi (r0.1.length : Int))), (77, 10, 6, .q (.d (dl eI r0.1 (ccap r0.2)))), (77, 10, 9, .q (.d (dl eI (r0.1 ++ [s18_8]) .ro))), (77, 10, 12, .q (xi (zo 1 s18_8))), (77, 10, 15, .i (.tup [(dl eI v1905.1.1 v1905.1.2), (db v1905.2)]) ⟨[], [[(2, (.cells ((za p0).map .d))), (3, (.cells [(xi p1)])), (6, (.cells ((za p0).map .d))), (8, (.cells [(xi (w64 ((zo 1 (p0.Slips.1.length : Int)) - 1)))])), (9, (.cells [(.fn 77 [] [(.ptr 0 6 0), (.ptr 0 8 0), (.ptr 0 3 0), (.ptr 0 9 0)])]))], f1, f2, f3, f4, f5, f6, f7]⟩ []), (77, 11, 0, .q (xb true))] [] g6 (ob (zq zm p0.Slips.1) (ob (o_b h1901) (ob (zq eI r0.1) (ob (zq eI r0.1) (ob (zUc (e := eI) (z := 1) r0.1 r0.2) (ob (o_ad (P := TE.P) (φ := fun _ _ => none) (T := 22) (q := (1, [(di 0)])) (c := (ccap r0.2)) (e := eI) r0.1 s18_8 (by kernel_rfl) (fun _ => rfl) h1902 h1903) (ob (zic (x := 1) h1904) (ob (hrc ([] : Fr) ((r0.1 ++ [s18_8]), .ro) (or64 r1 (zo 1 s18_8)) r2 _ h1906) (ob (o_b h1907) ob0))))))))) (by kernel_rfl)
    ·exact zqn (w64 (s18_8 + 1)) [] [(77, 8, 4, .q (xi (p0.Slips.1.length : Int))), (77, 8, 5, .q (xb true)), (77, 10, 3, .q (xi (r0.1.length : Int))), (77, 10, 5, .q (xi (r0.1.length : Int))), (77, 10, 6, .q (.d (dl eI r0.1 (ccap r0.2)))), (77, 10, 9, .q (.d (dl eI (r0.1 ++ [s18_8]) .ro))), (77, 10, 12, .q (xi (zo 1 s18_8))), (77, 10, 15, .i (.tup [(dl eI v1905.1.1 v1905.1.2), (db v1905.2)]) ⟨[], [[(2, (.cells ((za p0).map .d))), (3, (.cells [(xi p1)])), (6, (.cells ((za p0).map .d))), (8, (.cells [(xi (w64 ((zo 1 (p0.Slips.1.length : Int)) - 1)))])), (9, (.cells [(.fn 77 [] [(.ptr 0 6 0), (.ptr 0 8 0), (.ptr 0 3 0), (.ptr 0 9 0)])]))], f1, f2, f3, f4, f5, f6, f7]⟩ []), (77, 11, 0, .q (xb false))] [] g6 (ob (zq zm p0.Slips.1) (ob (o_b h1901) (ob (zq eI r0.1) (ob (zq eI r0.1) (ob (zUc (e := eI) (z := 1) r0.1 r0.2) (ob (o_ad (P := TE.P) (φ := fun _ _ => none) (T := 22) (q := (1, [(di 0)])) (c := (ccap r0.2)) (e := eI) r0.1 s18_8 (by kernel_rfl) (fun _ => rfl) h1902 h1903) (ob (zic (x := 1) h1904) (ob (hrc ([] : Fr) ((r0.1 ++ [s18_8]), .ro) (or64 r1 (zo 1 s18_8)) r2 _ h1906) (ob (o_b h1907) ob0))))))))) (by kernel_rfl)
 ·exact zqo [(77, 8, 4, .q (xi (p0.Slips.1.length : Int))), (77, 8, 5, .q (xb false))] [] g1 (ob (zq zm p0.Slips.1) (ob (o_b h1901) ob0)) (by kernel_rfl)
theorem zFo (k : Nat) (p0 : zd) (p1 : Int) (rc : zt0) (f1 f2 f3 f4 f5 f6 f7 : Fr) (hrc : ∀ (f : Fr) (r0 : (SL Int)) (r1 : Int) (r2 : Int) (r : ((SL Int) × Bool)), rc r0 r1 r2 = some r → zK TE (ev TE) 77 [(.d (dl eI r0.1 r0.2)), (xi r1), (xi r2), (.ptr 0 6 0), (.ptr 0 8 0), (.ptr 0 3 0), (.ptr 0 9 0)] ⟨f, [[(2, (.cells ((za p0).map .d))), (3, (.cells [(xi p1)])), (6, (.cells ((za p0).map .d))), (8, (.cells [(xi (w64 ((zo 1 (p0.Slips.1.length : Int)) - 1)))])), (9, (.cells [(.fn 77 [] [(.ptr 0 6 0), (.ptr 0 8 0), (.ptr 0 3 0), (.ptr 0 9 0)])]))], f1, f2, f3, f4, f5, f6, f7]⟩ [] = some (zt r, ⟨f, [[(2, (.cells ((za p0).map .d))), (3, (.cells [(xi p1)])), (6, (.cells ((za p0).map .d))), (8, (.cells [(xi (w64 ((zo 1 (p0.Slips.1.length : Int)) - 1)))])), (9, (.cells [(.fn 77 [] [(.ptr 0 6 0), (.ptr 0 8 0), (.ptr 0 3 0), (.ptr 0 9 0)])]))], f1, f2, f3, f4, f5, f6, f7]⟩, [])) (r0 : (SL Int)) (r1 r2 : Int) (r : zt15) (h : zYh k p0 p1 rc r0 r1 r2 = some r) : zK TE (ev TE) 77 [(.d (dl eI r0.1 r0.2)), (xi r1), (xi r2), (.ptr 0 6 0), (.ptr 0 8 0), (.ptr 0 3 0), (.ptr 0 9 0)] ⟨f7, [[(zc 2 (za p0)), (3, (.cells [(xi p1)])), (zc 6 (za p0)), (8, (.cells [(xi (w64 ((zo 1 (p0.Slips.1.length : Int)) - 1)))])), (9, (.cells [(.fn 77 [] [(.ptr 0 6 0), (.ptr 0 8 0), (.ptr 0 3 0), (.ptr 0 9 0)])]))], f1, f2, f3, f4, f5, f6]⟩ [] = some (zt r, ⟨f7, [[(zc 2 (za p0)), (3, (.cells [(xi p1)])), (zc 6 (za p0)), (8, (.cells [(xi (w64 ((zo 1 (p0.Slips.1.length : Int)) - 1)))])), (9, (.cells [(.fn 77 [] [(.ptr 0 6 0), (.ptr 0 8 0), (.ptr 0 3 0), (.ptr 0 9 0)])]))], f1, f2, f3, f4, f5, f6]⟩, []) := by
 unfold zYh at h
 refine zn h (fun h1701 g1 => ?_) (fun h1701 g1 => ?_)
 ·refine zk g1 (fun v1702 h1703 g2 => ?_)
  exact zS (g := (fun r => (zt r, ⟨f7, [[(2, (.cells ((za p0).map .d))), (3, (.cells [(xi p1)])), (6, (.cells ((za p0).map .d))), (8, (.cells [(xi (w64 ((zo 1 (p0.Slips.1.length : Int)) - 1)))])), (9, (.cells [(.fn 77 [] [(.ptr 0 6 0), (.ptr 0 8 0), (.ptr 0 3 0), (.ptr 0 9 0)])]))], f1, f2, f3, f4, f5, f6]⟩, []))) g2 (zI (n := 80) (V := [(77, 1, 1, .q (xi (r0.1.length : Int))), (77, 1, 3, .q (xb true)), (77, 2, 6, .c (.tup [(dl (eL eI) v1702.1.1 v1702.1.2), (db v1702.2)]))]) (C := []) (ob (zq eI r0.1) (ob (o_b h1701) (ob (zV k (⟨p0⟩ : zj) (⟨(zsb (w64 ((zo 1 (p0.Slips.1.length : Int)) - 1)) r1), p1⟩ : zr) _ h1703) ob0))) (by kernel_rfl))
 ·refine zk g1 (fun v1702 h1703 g2 => ?_)
  refine zk g2 (fun v1704 h1705 g3 => ?_)
  refine zdc g3 (fun v1707 hh g4_0 => ?_) (fun v1707 hh g4_0 => ?_)
  ·subst hh
   exact zS (g := (fun r => (zt r, ⟨f7, [[(2, (.cells ((za p0).map .d))), (3, (.cells [(xi p1)])), (6, (.cells ((za p0).map .d))), (8, (.cells [(xi (w64 ((zo 1 (p0.Slips.1.length : Int)) - 1)))])), (9, (.cells [(.fn 77 [] [(.ptr 0 6 0), (.ptr 0 8 0), (.ptr 0 3 0), (.ptr 0 9 0)])]))], f1, f2, f3, f4, f5, f6]⟩, []))) g4_0 (zI (n := 80) (V := [(77, 1, 1, .q (xi (r0.1.length : Int))), (77, 1, 3, .q (xb false)), (77, 5, 1, .q (xi (r0.1.length : Int)))]) (C := [(77, 2000036, (.nor, zoe p0 p1 r0 r1 r2 (decide ((r0.1.length : Int) > 0)) rc f1 f2 f3 f4 f5 f6 f7 v1702)), (77, 0, (.ret, zgh p0 p1 r0 r1 r2 v1702 rc f1 f2 f3 f4 f5 f6 f7 v1707))]) (ob (zq eI r0.1) (ob (o_b h1701) (ob (zq eI r0.1) (ob (z5k k p0 p1 r0 r1 r2 (decide ((r0.1.length : Int) > 0)) rc f1 f2 f3 f4 f5 f6 f7 hrc _ h1703) (ob (zy (id := 0) (r' := (.ret, zgh p0 p1 r0 r1 r2 v1702 rc f1 f2 f3 f4 f5 f6 f7 v1707)) (zBd (z0k k p0 p1 r0 r1 r2 v1702 rc f1 f2 f3 f4 f5 f6 f7 hrc) k _ _ h1705) rfl) ob0))))) (by kernel_rfl))
  ·subst hh
   exact zS (g := (fun r => (zt r, ⟨f7, [[(2, (.cells ((za p0).map .d))), (3, (.cells [(xi p1)])), (6, (.cells ((za p0).map .d))), (8, (.cells [(xi (w64 ((zo 1 (p0.Slips.1.length : Int)) - 1)))])), (9, (.cells [(.fn 77 [] [(.ptr 0 6 0), (.ptr 0 8 0), (.ptr 0 3 0), (.ptr 0 9 0)])]))], f1, f2, f3, f4, f5, f6]⟩, []))) g4_0 (zI (n := 80) (V := [(77, 1, 1, .q (xi (r0.1.length : Int))), (77, 1, 3, .q (xb false)), (77, 5, 1, .q (xi (r0.1.length : Int)))]) (C := [(77, 2000036, (.nor, zoe p0 p1 r0 r1 r2 (decide ((r0.1.length : Int) > 0)) rc f1 f2 f3 f4 f5 f6 f7 v1702)), (77, 0, (.nor, zyh p0 p1 r0 r1 r2 v1702 rc f1 f2 f3 f4 f5 f6 f7 v1707))]) (ob (zq eI r0.1) (ob (o_b h1701) (ob (zq eI r0.1) (ob (z5k k p0 p1 r0 r1 r2 (decide ((r0.1.length : Int) > 0)) rc f1 f2 f3 f4 f5 f6 f7 hrc _ h1703) (ob (zy (id := 0) (r' := (.nor, zyh p0 p1 r0 r1 r2 v1702 rc f1 f2 f3 f4 f5 f6 f7 v1707)) (zBd (z0k k p0 p1 r0 r1 r2 v1702 rc f1 f2 f3 f4 f5 f6 f7 hrc) k _ _ h1705) rfl) ob0))))) (by kernel_rfl))
noncomputable def zse (p0 : zd) (p1 : Int) (r0 : (SL Int)) (r1 r2 : Int) (cb : Bool) (rc : zt0) (f1 f2 f3 f4 f5 f6 f7 f8 : Fr) (r : zt1) : St := ⟨(zMl r0 r1 r2 r), ⟨[], [[(zc 2 (za p0)), (3, (.cells [(xi p1)])), (zc 6 (za p0)), (8, (.cells [(xi (w64 ((zo 1 (p0.Slips.1.length : Int)) - 1)))])), (9, (.cells [(.fn 77 [] [(.ptr 0 6 0), (.ptr 0 8 0), (.ptr 0 3 0), (.ptr 0 9 0)])]))], f1, f2, f3, f4, f5, f6, f7, f8]⟩, []⟩
theorem z4k (k : Nat) (p0 : zd) (p1 : Int) (r0 : (SL Int)) (r1 r2 : Int) (cb : Bool) (rc : zt0) (f1 f2 f3 f4 f5 f6 f7 f8 : Fr) (hrc : ∀ (f : Fr) (r0 : (SL Int)) (r1 : Int) (r2 : Int) (r : ((SL Int) × Bool)), rc r0 r1 r2 = some r → zK TE (ev TE) 77 [(.d (dl eI r0.1 r0.2)), (xi r1), (xi r2), (.ptr 0 6 0), (.ptr 0 8 0), (.ptr 0 3 0), (.ptr 0 9 0)] ⟨f, [[(2, (.cells ((za p0).map .d))), (3, (.cells [(xi p1)])), (6, (.cells ((za p0).map .d))), (8, (.cells [(xi (w64 ((zo 1 (p0.Slips.1.length : Int)) - 1)))])), (9, (.cells [(.fn 77 [] [(.ptr 0 6 0), (.ptr 0 8 0), (.ptr 0 3 0), (.ptr 0 9 0)])]))], f1, f2, f3, f4, f5, f6, f7, f8]⟩ [] = some (zt r, ⟨f, [[(2, (.cells ((za p0).map .d))), (3, (.cells [(xi p1)])), (6, (.cells ((za p0).map .d))), (8, (.cells [(xi (w64 ((zo 1 (p0.Slips.1.length : Int)) - 1)))])), (9, (.cells [(.fn 77 [] [(.ptr 0 6 0), (.ptr 0 8 0), (.ptr 0 3 0), (.ptr 0 9 0)])]))], f1, f2, f3, f4, f5, f6, f7, f8]⟩, [])) (r : zt1) (h : zyj k p0 p1 r0 r1 r2 cb rc = some r) : ev TE 77 (cnd TE 77 36) ⟨(zYl r0 r1 r2 cb), ⟨[], [[(zc 2 (za p0)), (3, (.cells [(xi p1)])), (zc 6 (za p0)), (8, (.cells [(xi (w64 ((zo 1 (p0.Slips.1.length : Int)) - 1)))])), (9, (.cells [(.fn 77 [] [(.ptr 0 6 0), (.ptr 0 8 0), (.ptr 0 3 0), (.ptr 0 9 0)])]))], f1, f2, f3, f4, f5, f6, f7, f8]⟩, []⟩ = some (.nor, zse p0 p1 r0 r1 r2 cb rc f1 f2 f3 f4 f5 f6 f7 f8 r) := by
 unfold zyj at h
 refine zn h (fun h2001 g1 => ?_) (fun h2001 g1 => ?_)
 ·subst h2001
  refine zk g1 (fun v2002 h2003 g2 => ?_)
  exact zx (g := fun r => (Ex.nor, zse p0 p1 r0 r1 r2 true rc f1 f2 f3 f4 f5 f6 f7 f8 r)) g2 (zqe [(77, 6, 2, .q (xi (r0.1.length : Int))), (77, 6, 4, .q (.d (.pin [(di v2002)])))] [] (ob (zq eI r0.1) (ob (o_ia (e := eI) 1 h2003 rfl) ob0)) (by kernel_rfl))
 ·subst h2001
  exact zx (g := fun r => (Ex.nor, zse p0 p1 r0 r1 r2 false rc f1 f2 f3 f4 f5 f6 f7 f8 r)) g1 (zqe [] [] ob0 (by kernel_rfl))
noncomputable def zDz (r0 : (SL Int)) (r1 r2 : Int) (v1902 : zt1) (s20_8 : Int) : TM := [(0, (.d (dl eI r0.1 r0.2))), (1, (xi r1)), (2, (xi r2)), (3, (.ptr 0 6 0)), (4, (.ptr 0 8 0)), (5, (.ptr 0 3 0)), (6, (.ptr 0 9 0)), (10, (.d (.sl [] .nil))), (11, (xb false)), (21, (xb false)), (14, (xi v1902.1)), (36, (xb v1902.2)), (15, (xi s20_8))]
noncomputable def zUp (p0 : zd) (p1 : Int) (r0 : (SL Int)) (r1 r2 : Int) (v1902 : zt1) (rc : zt0) (f1 f2 f3 f4 f5 f6 f7 f8 : Fr) (s20_8 : Int) : St := ⟨(zDz r0 r1 r2 v1902 s20_8), ⟨[], [[(zc 2 (za p0)), (3, (.cells [(xi p1)])), (zc 6 (za p0)), (8, (.cells [(xi (w64 ((zo 1 (p0.Slips.1.length : Int)) - 1)))])), (9, (.cells [(.fn 77 [] [(.ptr 0 6 0), (.ptr 0 8 0), (.ptr 0 3 0), (.ptr 0 9 0)])]))], f1, f2, f3, f4, f5, f6, f7, f8]⟩, []⟩
noncomputable def zpy (r0 : (SL Int)) (r1 r2 : Int) (r : zt11) (v1902 : zt1) : TM := [(0, (.d (dl eI r0.1 r0.2))), (1, (xi r1)), (2, (xi r2)), (3, (.ptr 0 6 0)), (4, (.ptr 0 8 0)), (5, (.ptr 0 3 0)), (6, (.ptr 0 9 0)), (10, (.d (dl eI r.1.1 r.1.2))), (11, (xb true)), (21, (xb false)), (14, (xi v1902.1)), (36, (xb v1902.2)), (15, (xi r.2.1)), (50, (xb true)), (16, (.d (dl eI r.1.1 r.1.2))), (17, (xb r.2.2)), (72, (xb true))]
noncomputable def zhh (p0 : zd) (p1 : Int) (r0 : (SL Int)) (r1 r2 : Int) (v1902 : zt1) (rc : zt0) (f1 f2 f3 f4 f5 f6 f7 f8 : Fr) (r : zt11) : St := ⟨(zpy r0 r1 r2 r v1902), ⟨[], [[(zc 2 (za p0)), (3, (.cells [(xi p1)])), (zc 6 (za p0)), (8, (.cells [(xi (w64 ((zo 1 (p0.Slips.1.length : Int)) - 1)))])), (9, (.cells [(.fn 77 [] [(.ptr 0 6 0), (.ptr 0 8 0), (.ptr 0 3 0), (.ptr 0 9 0)])]))], f1, f2, f3, f4, f5, f6, f7, f8]⟩, []⟩
noncomputable def z9y (r0 : (SL Int)) (r1 r2 : Int) (v1902 : zt1) (r : Int) : TM := [(0, (.d (dl eI r0.1 r0.2))), (1, (xi r1)), (2, (xi r2)), (3, (.ptr 0 6 0)), (4, (.ptr 0 8 0)), (5, (.ptr 0 3 0)), (6, (.ptr 0 9 0)), (10, (.d (.sl [] .nil))), (11, (xb false)), (21, (xb false)), (14, (xi v1902.1)), (36, (xb v1902.2)), (15, (xi r)), (50, (xb false))]
noncomputable def zlh (p0 : zd) (p1 : Int) (r0 : (SL Int)) (r1 r2 : Int) (v1902 : zt1) (rc : zt0) (f1 f2 f3 f4 f5 f6 f7 f8 : Fr) (r : Int) : St := ⟨(z9y r0 r1 r2 v1902 r), ⟨[], [[(zc 2 (za p0)), (3, (.cells [(xi p1)])), (zc 6 (za p0)), (8, (.cells [(xi (w64 ((zo 1 (p0.Slips.1.length : Int)) - 1)))])), (9, (.cells [(.fn 77 [] [(.ptr 0 6 0), (.ptr 0 8 0), (.ptr 0 3 0), (.ptr 0 9 0)])]))], f1, f2, f3, f4, f5, f6, f7, f8]⟩, []⟩
noncomputable def z1p (p0 : zd) (p1 : Int) (r0 : (SL Int)) (r1 r2 : Int) (v1902 : zt1) (rc : zt0) (f1 f2 f3 f4 f5 f6 f7 f8 : Fr) : (((SL Int) × Int × Bool) ⊕ Int) → Ex × St := Sum.elim (fun r => (.ret, zhh p0 p1 r0 r1 r2 v1902 rc f1 f2 f3 f4 f5 f6 f7 f8 r)) (fun r => ((.exit 0), zlh p0 p1 r0 r1 r2 v1902 rc f1 f2 f3 f4 f5 f6 f7 f8 r))
theorem zZk (k : Nat) (p0 : zd) (p1 : Int) (r0 : (SL Int)) (r1 r2 : Int) (v1902 : zt1) (rc : zt0) (f1 f2 f3 f4 f5 f6 f7 f8 : Fr) (hrc : ∀ (f : Fr) (r0 : (SL Int)) (r1 : Int) (r2 : Int) (r : ((SL Int) × Bool)), rc r0 r1 r2 = some r → zK TE (ev TE) 77 [(.d (dl eI r0.1 r0.2)), (xi r1), (xi r2), (.ptr 0 6 0), (.ptr 0 8 0), (.ptr 0 3 0), (.ptr 0 9 0)] ⟨f, [[(2, (.cells ((za p0).map .d))), (3, (.cells [(xi p1)])), (6, (.cells ((za p0).map .d))), (8, (.cells [(xi (w64 ((zo 1 (p0.Slips.1.length : Int)) - 1)))])), (9, (.cells [(.fn 77 [] [(.ptr 0 6 0), (.ptr 0 8 0), (.ptr 0 3 0), (.ptr 0 9 0)])]))], f1, f2, f3, f4, f5, f6, f7, f8]⟩ [] = some (zt r, ⟨f, [[(2, (.cells ((za p0).map .d))), (3, (.cells [(xi p1)])), (6, (.cells ((za p0).map .d))), (8, (.cells [(xi (w64 ((zo 1 (p0.Slips.1.length : Int)) - 1)))])), (9, (.cells [(.fn 77 [] [(.ptr 0 6 0), (.ptr 0 8 0), (.ptr 0 3 0), (.ptr 0 9 0)])]))], f1, f2, f3, f4, f5, f6, f7, f8]⟩, [])) (s20_8 : Int) (x : Int ⊕ (((SL Int) × Int × Bool) ⊕ Int)) (h : zkj k p0 p1 r0 r1 r2 v1902 rc s20_8 = some x) : zG TE 77 (blk TE 77 0) (fun s : Int => zUp p0 p1 r0 r1 r2 v1902 rc f1 f2 f3 f4 f5 f6 f7 f8 s) (z1p p0 p1 r0 r1 r2 v1902 rc f1 f2 f3 f4 f5 f6 f7 f8) s20_8 x := by
 unfold zkj at h
 refine zn h (fun h2101 g1 => ?_) (fun h2101 g1 => ?_)
 ·refine zn g1 (fun h2102 g2 => ?_) (fun h2102 g2 => ?_)
  ·cases g2
  ·refine zN g2 (fun h2103 g3 => ?_)
   refine zn g3 (fun h2104 g4 => ?_) (fun h2104 g4 => ?_)
   ·cases g4
   ·refine zk g4 (fun v2105 h2106 g5 => ?_)
    refine zn g5 (fun h2107 g6 => ?_) (fun h2107 g6 => ?_)
    ·exact zqo [(77, 8, 4, .q (xi (p0.Slips.1.length : Int))), (77, 8, 5, .q (xb true)), (77, 10, 3, .q (xi (r0.1.length : Int))), (77, 10, 5, .q (xi (r0.1.length : Int))), (77, 10, 6, .q (.d (dl eI r0.1 (ccap r0.2)))), (77, 10, 9, .q (.d (dl eI (r0.1 ++ [s20_8]) .ro))), (77, 10, 12, .q (xi (zo 1 s20_8))), (77, 10, 15, .i (.tup [(dl eI v2105.1.1 v2105.1.2), (db v2105.2)]) ⟨[], [[(2, (.cells ((za p0).map .d))), (3, (.cells [(xi p1)])), (6, (.cells ((za p0).map .d))), (8, (.cells [(xi (w64 ((zo 1 (p0.Slips.1.length : Int)) - 1)))])), (9, (.cells [(.fn 77 [] [(.ptr 0 6 0), (.ptr 0 8 0), (.ptr 0 3 0), (.ptr 0 9 0)])]))], f1, f2, f3, f4, f5, f6, f7, f8]⟩ []), (77, 11, 0, .q (xb true))] [] g6 (ob (zq zm p0.Slips.1) (ob (o_b h2101) (ob (zq eI r0.1) (ob (zq eI r0.1) (ob (zUc (e := eI) (z := 1) r0.1 r0.2) (ob (o_ad (P := TE.P) (φ := fun _ _ => none) (T := 22) (q := (1, [(di 0)])) (c := (ccap r0.2)) (e := eI) r0.1 s20_8 (by kernel_rfl) (fun _ => rfl) h2102 h2103) (ob (zic (x := 1) h2104) (ob (hrc ([] : Fr) ((r0.1 ++ [s20_8]), .ro) (or64 r1 (zo 1 s20_8)) r2 _ h2106) (ob (o_b h2107) ob0))))))))) (by kernel_rfl)
    ·exact zqn (w64 (s20_8 + 1)) [] [(77, 8, 4, .q (xi (p0.Slips.1.length : Int))), (77, 8, 5, .q (xb true)), (77, 10, 3, .q (xi (r0.1.length : Int))), (77, 10, 5, .q (xi (r0.1.length : Int))), (77, 10, 6, .q (.d (dl eI r0.1 (ccap r0.2)))), (77, 10, 9, .q (.d (dl eI (r0.1 ++ [s20_8]) .ro))), (77, 10, 12, .q (xi (zo 1 s20_8))), (77, 10, 15, .i (.tup [(dl eI v2105.1.1 v2105.1.2), (db v2105.2)]) ⟨[], [[(2, (.cells ((za p0).map .d))), (3, (.cells [(xi p1)])), (6, (.cells ((za p0).map .d))), (8, (.cells [(xi (w64 ((zo 1 (p0.Slips.1.length : Int)) - 1)))])), (9, (.cells [(.fn 77 [] [(.ptr 0 6 0), (.ptr 0 8 0), (.ptr 0 3 0), (.ptr 0 9 0)])]))], f1, f2, f3, f4, f5, f6, f7, f8]⟩ []), (77, 11, 0, .q (xb false))] [] g6 (ob (zq zm p0.Slips.1) (ob (o_b h2101) (ob (zq eI r0.1) (ob (zq eI r0.1) (ob (zUc (e := eI) (z := 1) r0.1 r0.2) (ob (o_ad (P := TE.P) (φ := fun _ _ => none) (T := 22) (q := (1, [(di 0)])) (c := (ccap r0.2)) (e := eI) r0.1 s20_8 (by kernel_rfl) (fun _ => rfl) h2102 h2103) (ob (zic (x := 1) h2104) (ob (hrc ([] : Fr) ((r0.1 ++ [s20_8]), .ro) (or64 r1 (zo 1 s20_8)) r2 _ h2106) (ob (o_b h2107) ob0))))))))) (by kernel_rfl)
 ·exact zqo [(77, 8, 4, .q (xi (p0.Slips.1.length : Int))), (77, 8, 5, .q (xb false))] [] g1 (ob (zq zm p0.Slips.1) (ob (o_b h2101) ob0)) (by kernel_rfl)
theorem zJo (k : Nat) (p0 : zd) (p1 : Int) (rc : zt0) (f1 f2 f3 f4 f5 f6 f7 f8 : Fr) (hrc : ∀ (f : Fr) (r0 : (SL Int)) (r1 : Int) (r2 : Int) (r : ((SL Int) × Bool)), rc r0 r1 r2 = some r → zK TE (ev TE) 77 [(.d (dl eI r0.1 r0.2)), (xi r1), (xi r2), (.ptr 0 6 0), (.ptr 0 8 0), (.ptr 0 3 0), (.ptr 0 9 0)] ⟨f, [[(2, (.cells ((za p0).map .d))), (3, (.cells [(xi p1)])), (6, (.cells ((za p0).map .d))), (8, (.cells [(xi (w64 ((zo 1 (p0.Slips.1.length : Int)) - 1)))])), (9, (.cells [(.fn 77 [] [(.ptr 0 6 0), (.ptr 0 8 0), (.ptr 0 3 0), (.ptr 0 9 0)])]))], f1, f2, f3, f4, f5, f6, f7, f8]⟩ [] = some (zt r, ⟨f, [[(2, (.cells ((za p0).map .d))), (3, (.cells [(xi p1)])), (6, (.cells ((za p0).map .d))), (8, (.cells [(xi (w64 ((zo 1 (p0.Slips.1.length : Int)) - 1)))])), (9, (.cells [(.fn 77 [] [(.ptr 0 6 0), (.ptr 0 8 0), (.ptr 0 3 0), (.ptr 0 9 0)])]))], f1, f2, f3, f4, f5, f6, f7, f8]⟩, [])) (r0 : (SL Int)) (r1 r2 : Int) (r : zt15) (h : zhi k p0 p1 rc r0 r1 r2 = some r) : zK TE (ev TE) 77 [(.d (dl eI r0.1 r0.2)), (xi r1), (xi r2), (.ptr 0 6 0), (.ptr 0 8 0), (.ptr 0 3 0), (.ptr 0 9 0)] ⟨f8, [[(zc 2 (za p0)), (3, (.cells [(xi p1)])), (zc 6 (za p0)), (8, (.cells [(xi (w64 ((zo 1 (p0.Slips.1.length : Int)) - 1)))])), (9, (.cells [(.fn 77 [] [(.ptr 0 6 0), (.ptr 0 8 0), (.ptr 0 3 0), (.ptr 0 9 0)])]))], f1, f2, f3, f4, f5, f6, f7]⟩ [] = some (zt r, ⟨f8, [[(zc 2 (za p0)), (3, (.cells [(xi p1)])), (zc 6 (za p0)), (8, (.cells [(xi (w64 ((zo 1 (p0.Slips.1.length : Int)) - 1)))])), (9, (.cells [(.fn 77 [] [(.ptr 0 6 0), (.ptr 0 8 0), (.ptr 0 3 0), (.ptr 0 9 0)])]))], f1, f2, f3, f4, f5, f6, f7]⟩, []) := by
 unfold zhi at h
 refine zn h (fun h1901 g1 => ?_) (fun h1901 g1 => ?_)
 ·refine zk g1 (fun v1902 h1903 g2 => ?_)
  exact zS (g := (fun r => (zt r, ⟨f8, [[(2, (.cells ((za p0).map .d))), (3, (.cells [(xi p1)])), (6, (.cells ((za p0).map .d))), (8, (.cells [(xi (w64 ((zo 1 (p0.Slips.1.length : Int)) - 1)))])), (9, (.cells [(.fn 77 [] [(.ptr 0 6 0), (.ptr 0 8 0), (.ptr 0 3 0), (.ptr 0 9 0)])]))], f1, f2, f3, f4, f5, f6, f7]⟩, []))) g2 (zI (n := 80) (V := [(77, 1, 1, .q (xi (r0.1.length : Int))), (77, 1, 3, .q (xb true)), (77, 2, 6, .c (.tup [(dl (eL eI) v1902.1.1 v1902.1.2), (db v1902.2)]))]) (C := []) (ob (zq eI r0.1) (ob (o_b h1901) (ob (zV k (⟨p0⟩ : zj) (⟨(zsb (w64 ((zo 1 (p0.Slips.1.length : Int)) - 1)) r1), p1⟩ : zr) _ h1903) ob0))) (by kernel_rfl))
 ·refine zk g1 (fun v1902 h1903 g2 => ?_)
  refine zk g2 (fun v1904 h1905 g3 => ?_)
  refine zdc g3 (fun v1907 hh g4_0 => ?_) (fun v1907 hh g4_0 => ?_)
  ·subst hh
   exact zS (g := (fun r => (zt r, ⟨f8, [[(2, (.cells ((za p0).map .d))), (3, (.cells [(xi p1)])), (6, (.cells ((za p0).map .d))), (8, (.cells [(xi (w64 ((zo 1 (p0.Slips.1.length : Int)) - 1)))])), (9, (.cells [(.fn 77 [] [(.ptr 0 6 0), (.ptr 0 8 0), (.ptr 0 3 0), (.ptr 0 9 0)])]))], f1, f2, f3, f4, f5, f6, f7]⟩, []))) g4_0 (zI (n := 80) (V := [(77, 1, 1, .q (xi (r0.1.length : Int))), (77, 1, 3, .q (xb false)), (77, 5, 1, .q (xi (r0.1.length : Int)))]) (C := [(77, 2000036, (.nor, zse p0 p1 r0 r1 r2 (decide ((r0.1.length : Int) > 0)) rc f1 f2 f3 f4 f5 f6 f7 f8 v1902)), (77, 0, (.ret, zhh p0 p1 r0 r1 r2 v1902 rc f1 f2 f3 f4 f5 f6 f7 f8 v1907))]) (ob (zq eI r0.1) (ob (o_b h1901) (ob (zq eI r0.1) (ob (z4k k p0 p1 r0 r1 r2 (decide ((r0.1.length : Int) > 0)) rc f1 f2 f3 f4 f5 f6 f7 f8 hrc _ h1903) (ob (zy (id := 0) (r' := (.ret, zhh p0 p1 r0 r1 r2 v1902 rc f1 f2 f3 f4 f5 f6 f7 f8 v1907)) (zBd (zZk k p0 p1 r0 r1 r2 v1902 rc f1 f2 f3 f4 f5 f6 f7 f8 hrc) k _ _ h1905) rfl) ob0))))) (by kernel_rfl))
  ·subst hh
   exact zS (g := (fun r => (zt r, ⟨f8, [[(2, (.cells ((za p0).map .d))), (3, (.cells [(xi p1)])), (6, (.cells ((za p0).map .d))), (8, (.cells [(xi (w64 ((zo 1 (p0.Slips.1.length : Int)) - 1)))])), (9, (.cells [(.fn 77 [] [(.ptr 0 6 0), (.ptr 0 8 0), (.ptr 0 3 0), (.ptr 0 9 0)])]))], f1, f2, f3, f4, f5, f6, f7]⟩, []))) g4_0 (zI (n := 80) (V := [(77, 1, 1, .q (xi (r0.1.length : Int))), (77, 1, 3, .q (xb false)), (77, 5, 1, .q (xi (r0.1.length : Int)))]) (C := [(77, 2000036, (.nor, zse p0 p1 r0 r1 r2 (decide ((r0.1.length : Int) > 0)) rc f1 f2 f3 f4 f5 f6 f7 f8 v1902)), (77, 0, (.nor, zlh p0 p1 r0 r1 r2 v1902 rc f1 f2 f3 f4 f5 f6 f7 f8 v1907))]) (ob (zq eI r0.1) (ob (o_b h1901) (ob (zq eI r0.1) (ob (z4k k p0 p1 r0 r1 r2 (decide ((r0.1.length : Int) > 0)) rc f1 f2 f3 f4 f5 f6 f7 f8 hrc _ h1903) (ob (zy (id := 0) (r' := (.nor, zlh p0 p1 r0 r1 r2 v1902 rc f1 f2 f3 f4 f5 f6 f7 f8 v1907)) (zBd (zZk k p0 p1 r0 r1 r2 v1902 rc f1 f2 f3 f4 f5 f6 f7 f8 hrc) k _ _ h1905) rfl) ob0))))) (by kernel_rfl))
noncomputable def zie (p0 : zd) (p1 : Int) (r0 : (SL Int)) (r1 r2 : Int) (cb : Bool) (rc : zt0) (f1 f2 f3 f4 f5 f6 f7 f8 f9 : Fr) (r : zt1) : St := ⟨(zMl r0 r1 r2 r), ⟨[], [[(zc 2 (za p0)), (3, (.cells [(xi p1)])), (zc 6 (za p0)), (8, (.cells [(xi (w64 ((zo 1 (p0.Slips.1.length : Int)) - 1)))])), (9, (.cells [(.fn 77 [] [(.ptr 0 6 0), (.ptr 0 8 0), (.ptr 0 3 0), (.ptr 0 9 0)])]))], f1, f2, f3, f4, f5, f6, f7, f8, f9]⟩, []⟩
theorem zhk (k : Nat) (p0 : zd) (p1 : Int) (r0 : (SL Int)) (r1 r2 : Int) (cb : Bool) (rc : zt0) (f1 f2 f3 f4 f5 f6 f7 f8 f9 : Fr) (hrc : ∀ (f : Fr) (r0 : (SL Int)) (r1 : Int) (r2 : Int) (r : ((SL Int) × Bool)), rc r0 r1 r2 = some r → zK TE (ev TE) 77 [(.d (dl eI r0.1 r0.2)), (xi r1), (xi r2), (.ptr 0 6 0), (.ptr 0 8 0), (.ptr 0 3 0), (.ptr 0 9 0)] ⟨f, [[(2, (.cells ((za p0).map .d))), (3, (.cells [(xi p1)])), (6, (.cells ((za p0).map .d))), (8, (.cells [(xi (w64 ((zo 1 (p0.Slips.1.length : Int)) - 1)))])), (9, (.cells [(.fn 77 [] [(.ptr 0 6 0), (.ptr 0 8 0), (.ptr 0 3 0), (.ptr 0 9 0)])]))], f1, f2, f3, f4, f5, f6, f7, f8, f9]⟩ [] = some (zt r, ⟨f, [[(2, (.cells ((za p0).map .d))), (3, (.cells [(xi p1)])), (6, (.cells ((za p0).map .d))), (8, (.cells [(xi (w64 ((zo 1 (p0.Slips.1.length : Int)) - 1)))])), (9, (.cells [(.fn 77 [] [(.ptr 0 6 0), (.ptr 0 8 0), (.ptr 0 3 0), (.ptr 0 9 0)])]))], f1, f2, f3, f4, f5, f6, f7, f8, f9]⟩, [])) (r : zt1) (h : zhj k p0 p1 r0 r1 r2 cb rc = some r) : ev TE 77 (cnd TE 77 36) ⟨(zYl r0 r1 r2 cb), ⟨[], [[(zc 2 (za p0)), (3, (.cells [(xi p1)])), (zc 6 (za p0)), (8, (.cells [(xi (w64 ((zo 1 (p0.Slips.1.length : Int)) - 1)))])), (9, (.cells [(.fn 77 [] [(.ptr 0 6 0), (.ptr 0 8 0), (.ptr 0 3 0), (.ptr 0 9 0)])]))], f1, f2, f3, f4, f5, f6, f7, f8, f9]⟩, []⟩ = some (.nor, zie p0 p1 r0 r1 r2 cb rc f1 f2 f3 f4 f5 f6 f7 f8 f9 r) := by
 unfold zhj at h
 refine zn h (fun h2201 g1 => ?_) (fun h2201 g1 => ?_)
 ·subst h2201
  refine zk g1 (fun v2202 h2203 g2 => ?_)
  exact zx (g := fun r => (Ex.nor, zie p0 p1 r0 r1 r2 true rc f1 f2 f3 f4 f5 f6 f7 f8 f9 r)) g2 (zqe [(77, 6, 2, .q (xi (r0.1.length : Int))), (77, 6, 4, .q (.d (.pin [(di v2202)])))] [] (ob (zq eI r0.1) (ob (o_ia (e := eI) 1 h2203 rfl) ob0)) (by kernel_rfl))
 ·subst h2201
  exact zx (g := fun r => (Ex.nor, zie p0 p1 r0 r1 r2 false rc f1 f2 f3 f4 f5 f6 f7 f8 f9 r)) g1 (zqe [] [] ob0 (by kernel_rfl))
noncomputable def zCz (r0 : (SL Int)) (r1 r2 : Int) (v2102 : zt1) (s22_8 : Int) : TM := [(0, (.d (dl eI r0.1 r0.2))), (1, (xi r1)), (2, (xi r2)), (3, (.ptr 0 6 0)), (4, (.ptr 0 8 0)), (5, (.ptr 0 3 0)), (6, (.ptr 0 9 0)), (10, (.d (.sl [] .nil))), (11, (xb false)), (21, (xb false)), (14, (xi v2102.1)), (36, (xb v2102.2)), (15, (xi s22_8))]
noncomputable def zAq (p0 : zd) (p1 : Int) (r0 : (SL Int)) (r1 r2 : Int) (v2102 : zt1) (rc : zt0) (f1 f2 f3 f4 f5 f6 f7 f8 f9 : Fr) (s22_8 : Int) : St := ⟨(zCz r0 r1 r2 v2102 s22_8), ⟨[], [[(zc 2 (za p0)), (3, (.cells [(xi p1)])), (zc 6 (za p0)), (8, (.cells [(xi (w64 ((zo 1 (p0.Slips.1.length : Int)) - 1)))])), (9, (.cells [(.fn 77 [] [(.ptr 0 6 0), (.ptr 0 8 0), (.ptr 0 3 0), (.ptr 0 9 0)])]))], f1, f2, f3, f4, f5, f6, f7, f8, f9]⟩, []⟩
noncomputable def zVy (r0 : (SL Int)) (r1 r2 : Int) (r : zt11) (v2102 : zt1) : TM := [(0, (.d (dl eI r0.1 r0.2))), (1, (xi r1)), (2, (xi r2)), (3, (.ptr 0 6 0)), (4, (.ptr 0 8 0)), (5, (.ptr 0 3 0)), (6, (.ptr 0 9 0)), (10, (.d (dl eI r.1.1 r.1.2))), (11, (xb true)), (21, (xb false)), (14, (xi v2102.1)), (36, (xb v2102.2)), (15, (xi r.2.1)), (50, (xb true)), (16, (.d (dl eI r.1.1 r.1.2))), (17, (xb r.2.2)), (72, (xb true))]
noncomputable def zdh (p0 : zd) (p1 : Int) (r0 : (SL Int)) (r1 r2 : Int) (v2102 : zt1) (rc : zt0) (f1 f2 f3 f4 f5 f6 f7 f8 f9 : Fr) (r : zt11) : St := ⟨(zVy r0 r1 r2 r v2102), ⟨[], [[(zc 2 (za p0)), (3, (.cells [(xi p1)])), (zc 6 (za p0)), (8, (.cells [(xi (w64 ((zo 1 (p0.Slips.1.length : Int)) - 1)))])), (9, (.cells [(.fn 77 [] [(.ptr 0 6 0), (.ptr 0 8 0), (.ptr 0 3 0), (.ptr 0 9 0)])]))], f1, f2, f3, f4, f5, f6, f7, f8, f9]⟩, []⟩
noncomputable def zIy (r0 : (SL Int)) (r1 r2 : Int) (v2102 : zt1) (r : Int) : TM := [(0, (.d (dl eI r0.1 r0.2))), (1, (xi r1)), (2, (xi r2)), (3, (.ptr 0 6 0)), (4, (.ptr 0 8 0)), (5, (.ptr 0 3 0)), (6, (.ptr 0 9 0)), (10, (.d (.sl [] .nil))), (11, (xb false)), (21, (xb false)), (14, (xi v2102.1)), (36, (xb v2102.2)), (15, (xi r)), (50, (xb false))]
noncomputable def z9g (p0 : zd) (p1 : Int) (r0 : (SL Int)) (r1 r2 : Int) (v2102 : zt1) (rc : zt0) (f1 f2 f3 f4 f5 f6 f7 f8 f9 : Fr) (r : Int) : St := ⟨(zIy r0 r1 r2 v2102 r), ⟨[], [[(zc 2 (za p0)), (3, (.cells [(xi p1)])), (zc 6 (za p0)), (8, (.cells [(xi (w64 ((zo 1 (p0.Slips.1.length : Int)) - 1)))])), (9, (.cells [(.fn 77 [] [(.ptr 0 6 0), (.ptr 0 8 0), (.ptr 0 3 0), (.ptr 0 9 0)])]))], f1, f2, f3, f4, f5, f6, f7, f8, f9]⟩, []⟩
noncomputable def zIp (p0 : zd) (p1 : Int) (r0 : (SL Int)) (r1 r2 : Int) (v2102 : zt1) (rc : zt0) (f1 f2 f3 f4 f5 f6 f7 f8 f9 : Fr) : (((SL Int) × Int × Bool) ⊕ Int) → Ex × St := Sum.elim (fun r => (.ret, zdh p0 p1 r0 r1 r2 v2102 rc f1 f2 f3 f4 f5 f6 f7 f8 f9 r)) (fun r => ((.exit 0), z9g p0 p1 r0 r1 r2 v2102 rc f1 f2 f3 f4 f5 f6 f7 f8 f9 r))
theorem zXk (k : Nat) (p0 : zd) (p1 : Int) (r0 : (SL Int)) (r1 r2 : Int) (v2102 : zt1) (rc : zt0) (f1 f2 f3 f4 f5 f6 f7 f8 f9 : Fr) (hrc : ∀ (f : Fr) (r0 : (SL Int)) (r1 : Int) (r2 : Int) (r : ((SL Int) × Bool)), rc r0 r1 r2 = some r → zK TE (ev TE) 77 [(.d (dl eI r0.1 r0.2)), (xi r1), (xi r2), (.ptr 0 6 0), (.ptr 0 8 0), (.ptr 0 3 0), (.ptr 0 9 0)] ⟨f, [[(2, (.cells ((za p0).map .d))), (3, (.cells [(xi p1)])), (6, (.cells ((za p0).map .d))), (8, (.cells [(xi (w64 ((zo 1 (p0.Slips.1.length : Int)) - 1)))])), (9, (.cells [(.fn 77 [] [(.ptr 0 6 0), (.ptr 0 8 0), (.ptr 0 3 0), (.ptr 0 9 0)])]))], f1, f2, f3, f4, f5, f6, f7, f8, f9]⟩ [] = some (zt r, ⟨f, [[(2, (.cells ((za p0).map .d))), (3, (.cells [(xi p1)])), (6, (.cells ((za p0).map .d))), (8, (.cells [(xi (w64 ((zo 1 (p0.Slips.1.length : Int)) - 1)))])), (9, (.cells [(.fn 77 [] [(.ptr 0 6 0), (.ptr 0 8 0), (.ptr 0 3 0), (.ptr 0 9 0)])]))], f1, f2, f3, f4, f5, f6, f7, f8, f9]⟩, [])) (s22_8 : Int) (x : Int ⊕ (((SL Int) × Int × Bool) ⊕ Int)) (h : zmj k p0 p1 r0 r1 r2 v2102 rc s22_8 = some x) : zG TE 77 (blk TE 77 0) (fun s : Int => zAq p0 p1 r0 r1 r2 v2102 rc f1 f2 f3 f4 f5 f6 f7 f8 f9 s) (zIp p0 p1 r0 r1 r2 v2102 rc f1 f2 f3 f4 f5 f6 f7 f8 f9) s22_8 x := by
 unfold zmj at h
 refine zn h (fun h2301 g1 => ?_) (fun h2301 g1 => ?_)
 ·refine zn g1 (fun h2302 g2 => ?_) (fun h2302 g2 => ?_)
  ·cases g2
  ·refine zN g2 (fun h2303 g3 => ?_)
   refine zn g3 (fun h2304 g4 => ?_) (fun h2304 g4 => ?_)
   ·cases g4
   ·refine zk g4 (fun v2305 h2306 g5 => ?_)
    refine zn g5 (fun h2307 g6 => ?_) (fun h2307 g6 => ?_)
    ·exact zqo [(77, 8, 4, .q (xi (p0.Slips.1.length : Int))), (77, 8, 5, .q (xb true)), (77, 10, 3, .q (xi (r0.1.length : Int))), (77, 10, 5, .q (xi (r0.1.length : Int))), (77, 10, 6, .q (.d (dl eI r0.1 (ccap r0.2)))), (77, 10, 9, .q (.d (dl eI (r0.1 ++ [s22_8]) .ro))), (77, 10, 12, .q (xi (zo 1 s22_8))), (77, 10, 15, .i (.tup [(dl eI v2305.1.1 v2305.1.2), (db v2305.2)]) ⟨[], [[(2, (.cells ((za p0).map .d))), (3, (.cells [(xi p1)])), (6, (.cells ((za p0).map .d))), (8, (.cells [(xi (w64 ((zo 1 (p0.Slips.1.length : Int)) - 1)))])), (9, (.cells [(.fn 77 [] [(.ptr 0 6 0), (.ptr 0 8 0), (.ptr 0 3 0), (.ptr 0 9 0)])]))], f1, f2, f3, f4, f5, f6, f7, f8, f9]⟩ []), (77, 11, 0, .q (xb true))] [] g6 (ob (zq zm p0.Slips.1) (ob (o_b h2301) (ob (zq eI r0.1) (ob (zq eI r0.1) (ob (zUc (e := eI) (z := 1) r0.1 r0.2) (ob (o_ad (P := TE.P) (φ := fun _ _ => none) (T := 22) (q := (1, [(di 0)])) (c := (ccap r0.2)) (e := eI) r0.1 s22_8 (by kernel_rfl) (fun _ => rfl) h2302 h2303) (ob (zic (x := 1) h2304) (ob (hrc ([] : Fr) ((r0.1 ++ [s22_8]), .ro) (or64 r1 (zo 1 s22_8)) r2 _ h2306) (ob (o_b h2307) ob0))))))))) (by kernel_rfl)
    ·exact zqn (w64 (s22_8 + 1)) [] [(77, 8, 4, .q (xi (p0.Slips.1.length : Int))), (77, 8, 5, .q (xb true)), (77, 10, 3, .q (xi (r0.1.length : Int))), (77, 10, 5, .q (xi (r0.1.length : Int))), (77, 10, 6, .q (.d (dl eI r0.1 (ccap r0.2)))), (77, 10, 9, .q (.d (dl eI (r0.1 ++ [s22_8]) .ro))), (77, 10, 12, .q (xi (zo 1 s22_8))), (77, 10, 15, .i (.tup [(dl eI v2305.1.1 v2305.1.2), (db v2305.2)]) ⟨[], [[(2, (.cells ((za p0).map .d))), (3, (.cells [(xi p1)])), (6, (.cells ((za p0).map .d))), (8, (.cells [(xi (w64 ((zo 1 (p0.Slips.1.length : Int)) - 1)))])), (9, (.cells [(.fn 77 [] [(.ptr 0 6 0), (.ptr 0 8 0), (.ptr 0 3 0), (.ptr 0 9 0)])]))], f1, f2, f3, f4, f5, f6, f7, f8, f9]⟩ []), (77, 11, 0, .q (xb false))] [] g6 (ob (zq zm p0.Slips.1) (ob (o_b h2301) (ob (zq eI r0.1) (ob (zq eI r0.1) (ob (zUc (e := eI) (z := 1) r0.1 r0.2) (ob (o_ad (P := TE.P) (φ := fun _ _ => none) (T := 22) (q := (1, [(di 0)])) (c := (ccap r0.2)) (e := eI) r0.1 s22_8 (by kernel_rfl) (fun _ => rfl) h2302 h2303) (ob (zic (x := 1) h2304) (ob (hrc ([] : Fr) ((r0.1 ++ [s22_8]), .ro) (or64 r1 (zo 1 s22_8)) r2 _ h2306) (ob (o_b h2307) ob0))))))))) (by kernel_rfl)
 ·exact zqo [(77, 8, 4, .q (xi (p0.Slips.1.length : Int))), (77, 8, 5, .q (xb false))] [] g1 (ob (zq zm p0.Slips.1) (ob (o_b h2301) ob0)) (by kernel_rfl)
theorem zlo (k : Nat) (p0 : zd) (p1 : Int) (rc : zt0) (f1 f2 f3 f4 f5 f6 f7 f8 f9 : Fr) (hrc : ∀ (f : Fr) (r0 : (SL Int)) (r1 : Int) (r2 : Int) (r : ((SL Int) × Bool)), rc r0 r1 r2 = some r → zK TE (ev TE) 77 [(.d (dl eI r0.1 r0.2)), (xi r1), (xi r2), (.ptr 0 6 0), (.ptr 0 8 0), (.ptr 0 3 0), (.ptr 0 9 0)] ⟨f, [[(2, (.cells ((za p0).map .d))), (3, (.cells [(xi p1)])), (6, (.cells ((za p0).map .d))), (8, (.cells [(xi (w64 ((zo 1 (p0.Slips.1.length : Int)) - 1)))])), (9, (.cells [(.fn 77 [] [(.ptr 0 6 0), (.ptr 0 8 0), (.ptr 0 3 0), (.ptr 0 9 0)])]))], f1, f2, f3, f4, f5, f6, f7, f8, f9]⟩ [] = some (zt r, ⟨f, [[(2, (.cells ((za p0).map .d))), (3, (.cells [(xi p1)])), (6, (.cells ((za p0).map .d))), (8, (.cells [(xi (w64 ((zo 1 (p0.Slips.1.length : Int)) - 1)))])), (9, (.cells [(.fn 77 [] [(.ptr 0 6 0), (.ptr 0 8 0), (.ptr 0 3 0), (.ptr 0 9 0)])]))], f1, f2, f3, f4, f5, f6, f7, f8, f9]⟩, [])) (r0 : (SL Int)) (r1 r2 : Int) (r : zt15) (h : z8g k p0 p1 rc r0 r1 r2 = some r) : zK TE (ev TE) 77 [(.d (dl eI r0.1 r0.2)), (xi r1), (xi r2), (.ptr 0 6 0), (.ptr 0 8 0), (.ptr 0 3 0), (.ptr 0 9 0)] ⟨f9, [[(zc 2 (za p0)), (3, (.cells [(xi p1)])), (zc 6 (za p0)), (8, (.cells [(xi (w64 ((zo 1 (p0.Slips.1.length : Int)) - 1)))])), (9, (.cells [(.fn 77 [] [(.ptr 0 6 0), (.ptr 0 8 0), (.ptr 0 3 0), (.ptr 0 9 0)])]))], f1, f2, f3, f4, f5, f6, f7, f8]⟩ [] = some (zt r, ⟨f9, [[(zc 2 (za p0)), (3, (.cells [(xi p1)])), (zc 6 (za p0)), (8, (.cells [(xi (w64 ((zo 1 (p0.Slips.1.length : Int)) - 1)))])), (9, (.cells [(.fn 77 [] [(.ptr 0 6 0), (.ptr 0 8 0), (.ptr 0 3 0), (.ptr 0 9 0)])]))], f1, f2, f3, f4, f5, f6, f7, f8]⟩, []) := by
 unfold z8g at h
 refine zn h (fun h2101 g1 => ?_) (fun h2101 g1 => ?_)
 ·refine zk g1 (fun v2102 h2103 g2 => ?_)
  exact zS (g := (fun r => (zt r, ⟨f9, [[(2, (.cells ((za p0).map .d))), (3, (.cells [(xi p1)])), (6, (.cells ((za p0).map .d))), (8, (.cells [(xi (w64 ((zo 1 (p0.Slips.1.length : Int)) - 1)))])), (9, (.cells [(.fn 77 [] [(.ptr 0 6 0), (.ptr 0 8 0), (.ptr 0 3 0), (.ptr 0 9 0)])]))], f1, f2, f3, f4, f5, f6, f7, f8]⟩, []))) g2 (zI (n := 80) (V := [(77, 1, 1, .q (xi (r0.1.length : Int))), (77, 1, 3, .q (xb true)), (77, 2, 6, .c (.tup [(dl (eL eI) v2102.1.1 v2102.1.2), (db v2102.2)]))]) (C := []) (ob (zq eI r0.1) (ob (o_b h2101) (ob (zV k (⟨p0⟩ : zj) (⟨(zsb (w64 ((zo 1 (p0.Slips.1.length : Int)) - 1)) r1), p1⟩ : zr) _ h2103) ob0))) (by kernel_rfl))
 ·refine zk g1 (fun v2102 h2103 g2 => ?_)
  refine zk g2 (fun v2104 h2105 g3 => ?_)
  refine zdc g3 (fun v2107 hh g4_0 => ?_) (fun v2107 hh g4_0 => ?_)
  ·subst hh
   exact zS (g := (fun r => (zt r, ⟨f9, [[(2, (.cells ((za p0).map .d))), (3, (.cells [(xi p1)])), (6, (.cells ((za p0).map .d))), (8, (.cells [(xi (w64 ((zo 1 (p0.Slips.1.length : Int)) - 1)))])), (9, (.cells [(.fn 77 [] [(.ptr 0 6 0), (.ptr 0 8 0), (.ptr 0 3 0), (.ptr 0 9 0)])]))], f1, f2, f3, f4, f5, f6, f7, f8]⟩, []))) g4_0 (zI (n := 80) (V := [(77, 1, 1, .q (xi (r0.1.length : Int))), (77, 1, 3, .q (xb false)), (77, 5, 1, .q (xi (r0.1.length : Int)))]) (C := [(77, 2000036, (.nor, zie p0 p1 r0 r1 r2 (decide ((r0.1.length : Int) > 0)) rc f1 f2 f3 f4 f5 f6 f7 f8 f9 v2102)), (77, 0, (.ret, zdh p0 p1 r0 r1 r2 v2102 rc f1 f2 f3 f4 f5 f6 f7 f8 f9 v2107))]) (ob (zq eI r0.1) (ob (o_b h2101) (ob (zq eI r0.1) (ob (zhk k p0 p1 r0 r1 r2 (decide ((r0.1.length : Int) > 0)) rc f1 f2 f3 f4 f5 f6 f7 f8 f9 hrc _ h2103) (ob (zy (id := 0) (r' := (.ret, zdh p0 p1 r0 r1 r2 v2102 rc f1 f2 f3 f4 f5 f6 f7 f8 f9 v2107)) (zBd (zXk k p0 p1 r0 r1 r2 v2102 rc f1 f2 f3 f4 f5 f6 f7 f8 f9 hrc) k _ _ h2105) rfl) ob0))))) (by kernel_rfl))
  ·subst hh
   exact zS (g := (fun r => (zt r, ⟨f9, [[(2, (.cells ((za p0).map .d))), (3, (.cells [(xi p1)])), (6, (.cells ((za p0).map .d))), (8, (.cells [(xi (w64 ((zo 1 (p0.Slips.1.length : Int)) - 1)))])), (9, (.cells [(.fn 77 [] [(.ptr 0 6 0), (.ptr 0 8 0), (.ptr 0 3 0), (.ptr 0 9 0)])]))], f1, f2, f3, f4, f5, f6, f7, f8]⟩, []))) g4_0 (zI (n := 80) (V := [(77, 1, 1, .q (xi (r0.1.length : Int))), (77, 1, 3, .q (xb false)), (77, 5, 1, .q (xi (r0.1.length : Int)))]) (C := [(77, 2000036, (.nor, zie p0 p1 r0 r1 r2 (decide ((r0.1.length : Int) > 0)) rc f1 f2 f3 f4 f5 f6 f7 f8 f9 v2102)), (77, 0, (.nor, z9g p0 p1 r0 r1 r2 v2102 rc f1 f2 f3 f4 f5 f6 f7 f8 f9 v2107))]) (ob (zq eI r0.1) (ob (o_b h2101) (ob (zq eI r0.1) (ob (zhk k p0 p1 r0 r1 r2 (decide ((r0.1.length : Int) > 0)) rc f1 f2 f3 f4 f5 f6 f7 f8 f9 hrc _ h2103) (ob (zy (id := 0) (r' := (.nor, z9g p0 p1 r0 r1 r2 v2102 rc f1 f2 f3 f4 f5 f6 f7 f8 f9 v2107)) (zBd (zXk k p0 p1 r0 r1 r2 v2102 rc f1 f2 f3 f4 f5 f6 f7 f8 f9 hrc) k _ _ h2105) rfl) ob0))))) (by kernel_rfl))
theorem zDl (k : Nat) (p0 : zd) (p1 : Int) (r0 : (SL Int)) (r1 r2 : Int) (r : zt15) (h : zLk k p0 p1 10 r0 r1 r2 = some r) : zK TE (ev TE) 77 [(.d (dl eI r0.1 r0.2)), (xi r1), (xi r2), (.ptr 0 6 0), (.ptr 0 8 0), (.ptr 0 3 0), (.ptr 0 9 0)] ⟨[(zc 2 (za p0)), (3, (.cells [(xi p1)])), (zc 6 (za p0)), (8, (.cells [(xi (w64 ((zo 1 (p0.Slips.1.length : Int)) - 1)))])), (9, (.cells [(.fn 77 [] [(.ptr 0 6 0), (.ptr 0 8 0), (.ptr 0 3 0), (.ptr 0 9 0)])]))], []⟩ [] = some (zt r, ⟨[(zc 2 (za p0)), (3, (.cells [(xi p1)])), (zc 6 (za p0)), (8, (.cells [(xi (w64 ((zo 1 (p0.Slips.1.length : Int)) - 1)))])), (9, (.cells [(.fn 77 [] [(.ptr 0 6 0), (.ptr 0 8 0), (.ptr 0 3 0), (.ptr 0 9 0)])]))], []⟩, []) := by
 unfold zLk at h
 exact z9o k p0 p1 _ (fun f1 r0 r1 r2 r h => zKo k p0 p1 _ f1 (fun f2 r0 r1 r2 r h => zlp k p0 p1 _ f1 f2 (fun f3 r0 r1 r2 r h => z8o k p0 p1 _ f1 f2 f3 (fun f4 r0 r1 r2 r h => znp k p0 p1 _ f1 f2 f3 f4 (fun f5 r0 r1 r2 r h => zNo k p0 p1 _ f1 f2 f3 f4 f5 (fun f6 r0 r1 r2 r h => zap k p0 p1 _ f1 f2 f3 f4 f5 f6 (fun f7 r0 r1 r2 r h => zFo k p0 p1 _ f1 f2 f3 f4 f5 f6 f7 (fun f8 r0 r1 r2 r h => zJo k p0 p1 _ f1 f2 f3 f4 f5 f6 f7 f8 (fun f9 r0 r1 r2 r h => zlo k p0 p1 _ f1 f2 f3 f4 f5 f6 f7 f8 f9 (fun f r0 r1 r2 r h => by cases h) r0 r1 r2 r h) r0 r1 r2 r h) r0 r1 r2 r h) r0 r1 r2 r h) r0 r1 r2 r h) r0 r1 r2 r h) r0 r1 r2 r h) r0 r1 r2 r h) r0 r1 r2 r h) r0 r1 r2 r h
noncomputable def z6y (p0 : zd) (p1 s1_12 : Int) : TM := [(0, (.d (.agg (za p0)))), (1, (xi p1)), (zsp 2), (zsp 3), (4, (.d (.sl [] .nil))), (5, (xi 0)), (zsp 6), (7, (xi 0)), (20, (xb false)), (zsp 8), (zsp 9), (33, (xi (w64 ((p0.Slips.1.length : Int) + 1)))), (34, (xi s1_12))]
noncomputable def zPq (p0 : zd) (p1 s1_12 : Int) : St := ⟨(z6y p0 p1 s1_12), ⟨[(zc 2 (za p0)), (3, (.cells [(xi p1)])), (zc 6 (za p0)), (8, (.cells [(xi (w64 ((zo 1 (p0.Slips.1.length : Int)) - 1)))])), (9, (.cells [(.fn 77 [] [(.ptr 0 6 0), (.ptr 0 8 0), (.ptr 0 3 0), (.ptr 0 9 0)])]))], []⟩, []⟩
noncomputable def zXy (p0 : zd) (p1 : Int) (r : ((SL Int) × Int × (SL Int) × Bool)) : TM := [(0, (.d (.agg (za p0)))), (1, (xi p1)), (zsp 2), (zsp 3), (4, (.d (dl eI r.1.1 r.1.2))), (5, (xi 0)), (zsp 6), (7, (xi 0)), (20, (xb false)), (zsp 8), (zsp 9), (33, (xi (w64 ((p0.Slips.1.length : Int) + 1)))), (34, (xi r.2.1)), (35, (xb true)), (10, (xi r.2.1)), (11, (.d (dl eI r.2.2.1.1 r.2.2.1.2))), (12, (xb r.2.2.2)), (43, (xb true))]
noncomputable def zai (p0 : zd) (p1 : Int) (r : ((SL Int) × Int × (SL Int) × Bool)) : St := ⟨(zXy p0 p1 r), ⟨[(zc 2 (za p0)), (3, (.cells [(xi p1)])), (zc 6 (za p0)), (8, (.cells [(xi (w64 ((zo 1 (p0.Slips.1.length : Int)) - 1)))])), (9, (.cells [(.fn 77 [] [(.ptr 0 6 0), (.ptr 0 8 0), (.ptr 0 3 0), (.ptr 0 9 0)])]))], []⟩, []⟩
noncomputable def zAz (p0 : zd) (p1 r : Int) : TM := [(0, (.d (.agg (za p0)))), (1, (xi p1)), (zsp 2), (zsp 3), (4, (.d (.sl [] .nil))), (5, (xi 0)), (zsp 6), (7, (xi 0)), (20, (xb false)), (zsp 8), (zsp 9), (33, (xi (w64 ((p0.Slips.1.length : Int) + 1)))), (34, (xi r)), (35, (xb false))]
noncomputable def z0h (p0 : zd) (p1 r : Int) : St := ⟨(zAz p0 p1 r), ⟨[(zc 2 (za p0)), (3, (.cells [(xi p1)])), (zc 6 (za p0)), (8, (.cells [(xi (w64 ((zo 1 (p0.Slips.1.length : Int)) - 1)))])), (9, (.cells [(.fn 77 [] [(.ptr 0 6 0), (.ptr 0 8 0), (.ptr 0 3 0), (.ptr 0 9 0)])]))], []⟩, []⟩
noncomputable def zar (p0 : zd) (p1 : Int) : (((SL Int) × Int × (SL Int) × Bool) ⊕ Int) → Ex × St := Sum.elim (fun r => (.ret, zai p0 p1 r)) (fun r => ((.exit 0), z0h p0 p1 r))
theorem zjl (k : Nat) (p0 : zd) (p1 s1_12 : Int) (x : Int ⊕ (((SL Int) × Int × (SL Int) × Bool) ⊕ Int)) (h : z2k k p0 p1 s1_12 = some x) : zG TE 30 (blk TE 30 0) (fun s : Int => zPq p0 p1 s) (zar p0 p1) s1_12 x := by
 unfold z2k at h
 refine zn h (fun h2301 g1 => ?_) (fun h2301 g1 => ?_)
 ·refine zk g1 (fun v2302 h2303 g2 => ?_)
  refine zn g2 (fun h2304 g3 => ?_) (fun h2304 g3 => ?_)
  ·exact zqo [(30, 8, 0, .q (xb true)), (30, 10, 2, .i (.tup [(dl eI v2302.1.1 v2302.1.2), (db v2302.2)]) ⟨[(2, (.cells ((za p0).map .d))), (3, (.cells [(xi p1)])), (6, (.cells ((za p0).map .d))), (8, (.cells [(xi (w64 ((zo 1 (p0.Slips.1.length : Int)) - 1)))])), (9, (.cells [(.fn 77 [] [(.ptr 0 6 0), (.ptr 0 8 0), (.ptr 0 3 0), (.ptr 0 9 0)])]))], []⟩ []), (30, 11, 0, .q (xb true)), (30, 12, 2, .q (xi (v2302.1.1.length : Int))), (30, 12, 4, .q (xi (v2302.1.1.length : Int))), (30, 12, 5, .q (.d (dl eI v2302.1.1 (ccap v2302.1.2))))] [] g3 (ob (o_b h2301) (ob (zDl k p0 p1 ([], Cap.nil) 0 s1_12 _ h2303) (ob (o_b h2304) (ob (zq eI v2302.1.1) (ob (zq eI v2302.1.1) (ob (zUc (e := eI) (z := 1) v2302.1.1 v2302.1.2) ob0)))))) (by kernel_rfl)
  ·exact zqn (w64 (s1_12 + 1)) [] [(30, 8, 0, .q (xb true)), (30, 10, 2, .i (.tup [(dl eI v2302.1.1 v2302.1.2), (db v2302.2)]) ⟨[(2, (.cells ((za p0).map .d))), (3, (.cells [(xi p1)])), (6, (.cells ((za p0).map .d))), (8, (.cells [(xi (w64 ((zo 1 (p0.Slips.1.length : Int)) - 1)))])), (9, (.cells [(.fn 77 [] [(.ptr 0 6 0), (.ptr 0 8 0), (.ptr 0 3 0), (.ptr 0 9 0)])]))], []⟩ []), (30, 11, 0, .q (xb false))] [] g3 (ob (o_b h2301) (ob (zDl k p0 p1 ([], Cap.nil) 0 s1_12 _ h2303) (ob (o_b h2304) ob0))) (by kernel_rfl)
 ·exact zqo [(30, 8, 0, .q (xb false))] [] g1 (ob (o_b h2301) ob0) (by kernel_rfl)
theorem zCs (k : Nat) (p0 : zd) (p1 : Int) (r : ((SL Int) × Int)) (h : zPn k p0 p1 = some r) : zA TE (ev TE) 30 [(.agg (za p0)), (di p1)] = some (zTg r) := by
 unfold zPn at h
 refine zk h (fun v1 h2 g1 => ?_)
 refine zn g1 (fun h3 g2 => ?_) (fun h3 g2 => ?_)
 ·exact zB (g := zTg) g2 (zqc [(52, 1, 1, .c (di v1)), (52, 2, 1, .q (xb true)), (30, 2, 1, .q (xb true))] [] (ob (zQ k p0 _ h2) (ob (o_b h3) (ob (o_b h3) ob0))) (by kernel_rfl))
 ·refine zk g2 (fun v4 h5 g3 => ?_)
  have y1 := fun (d : D) (P : List Prop) (V : Ovs) (C : Cuts) (q : All P) h => (zqc ([(52, 1, 1, .c (di v1)), (52, 2, 1, .q (xb false)), (76, 1, 1, .c (db v4))] ++ V) C (ob (zQ k p0 _ h2) (ob (o_b h3) (ob (zW k p1 1 5 _ h5) q))) h : zA TE (ev TE) 30 [(.agg (za p0)), (di p1)] = some d)
  refine zn g3 (fun h6 g4 => ?_) (fun h6 g4 => ?_)
  ·exact zB (g := zTg) g4 (y1 _ _ [(52, 4, 4, .q (xb true))] [] (ob (o_b h6) ob0) (by kernel_rfl))
  ·have y2 := fun (d : _) (P : List Prop) (V : Ovs) (C : Cuts) (q : All P) h => y1 d _ ([(52, 4, 4, .q (xb false)), (30, 4, 3, .q (xi (p0.Slips.1.length : Int))), (30, 4, 4, .q (xi (zo 1 (p0.Slips.1.length : Int)))), (30, 7, 3, .q (xi (p0.Slips.1.length : Int)))] ++ V) C (ob (o_b h6) (ob (zq zm p0.Slips.1) q)) h
   refine zn g4 (fun h7 g5 => ?_) (fun h7 g5 => ?_)
   ·cases g5
   ·refine zk g5 (fun v8 h9 g6 => ?_)
    refine zdc g6 (fun v11 hh g7_0 => ?_) (fun v11 hh g7_0 => ?_)
    ·subst hh
     exact zB (g := zTg) g7_0 (y2 _ _ [] [(30, 0, (.ret, zai p0 p1 v11))] (ob (zic (x := 1) h7) (ob (zq zm p0.Slips.1) (ob (zy (id := 0) (r' := (.ret, zai p0 p1 v11)) (zBd (zjl k p0 p1) k _ _ h9) rfl) ob0))) (by kernel_rfl))
    ·subst hh
     exact zB (g := zTg) g7_0 (y2 _ _ [] [(30, 0, (.nor, z0h p0 p1 v11))] (ob (zic (x := 1) h7) (ob (zq zm p0.Slips.1) (ob (zy (id := 0) (r' := (.nor, z0h p0 p1 v11)) (zBd (zjl k p0 p1) k _ _ h9) rfl) ob0))) (by kernel_rfl))
noncomputable def zYy (s1_0 : Int) (p1 : (SL Int)) (s1_5 : Int) : TM := [(0, (xi s1_0)), (1, (.d (dl eI p1.1 p1.2))), (4, (xi 0)), (7, (.d (dl eI p1.1 p1.2))), (8, (xi (p1.1.length : Int))), (9, (xi s1_5))]
noncomputable def zZl (p1 : (SL Int)) (s1_0 s1_5 : Int) : St := ⟨(zYy s1_0 p1 s1_5), ⟨[], []⟩, []⟩
noncomputable def z4y (r : zt9) (p1 : (SL Int)) : TM := [(0, (xi r.1)), (1, (.d (dl eI p1.1 p1.2))), (4, (xi 0)), (7, (.d (dl eI p1.1 p1.2))), (8, (xi (p1.1.length : Int))), (9, (xi r.2)), (10, (xb false))]
noncomputable def z3d (p1 : (SL Int)) (r : zt9) : St := ⟨(z4y r p1), ⟨[], []⟩, []⟩
noncomputable def zgm (p1 : (SL Int)) : (Int × Int) → Ex × St := fun r => ((.exit 0), z3d p1 r)
theorem zel (k : Nat) (p1 : (SL Int)) (s1_0 s1_5 : Int) (x : (Int × Int) ⊕ (Int × Int)) (h : zhf k p1 s1_0 s1_5 = some x) : zG TE 81 (blk TE 81 0) (fun s : (Int × Int) => zZl p1 s.1 s.2) (zgm p1) (s1_0, s1_5) x := by
 unfold zhf at h
 refine zn h (fun h201 g1 => ?_) (fun h201 g1 => ?_)
 ·refine zk g1 (fun v202 h203 g2 => ?_)
  exact zqn ((if v202 > s1_0 then v202 else s1_0), (w64 (s1_5 + 1))) [] [(81, 2, 0, .q (xb true)), (81, 3, 0, .q (.d (.pin [(di v202)])))] [] g2 (ob (o_b h201) (ob (o_ia (e := eI) 1 h203 rfl) ob0)) (by kernel_rfl)
 ·exact zqo [(81, 2, 0, .q (xb false))] [] g1 (ob (o_b h201) ob0) (by kernel_rfl)
theorem zli (k : Nat) (p0 : Int) (p1 : (SL Int)) (r : Int) (h : zNe k p0 p1 = some r) : zA TE (ev TE) 81 [(di p0), (dl eI p1.1 p1.2)] = some (zxi r) := by
 unfold zNe at h
 refine zk h (fun v1 h2 g1 => ?_)
 exact zB (g := zxi) g1 (zqc [(81, 1, 1, .q (xi (p1.1.length : Int)))] [(81, 0, (.nor, z3d p1 v1))] (ob (zq eI p1.1) (ob (zy (id := 0) (r' := (.nor, z3d p1 v1)) (z8b (zel k p1) k _ _ h2) rfl) ob0)) (by kernel_rfl))
noncomputable def z5w (p0 : zd) (p1 : Int) (v7 : zt12) (v11 : Int) (v13 : zl) : TM := [(0, (.d (.agg (za p0)))), (1, (xi p1)), (zsp 2), (zsp 3), (4, (xi 0)), (5, (xi 0)), (zsp 6), (7, (xi 0)), (24, (xb false)), (9, (xi v7.2.1)), (10, (xb v7.2.2)), (33, (xb false)), (zsp 11), (12, (xi v11)), (13, (xi v13.Until))]
noncomputable def znl (p0 : zd) (p1 : Int) (v7 : zt12) (v11 : Int) (v13 : zl) : St := ⟨(z5w p0 p1 v7 v11 v13), ⟨[(zc 2 (za p0)), (3, (.cells [(xi p1)])), (6, (.cells [(.d (dl eI p0.Far.1 p0.Far.2)), (xi p0.Step.Low), (xi p0.Step.High), (.d (dl zw p0.Pick.1 p0.Pick.2)), (xi p0.Carry), (.row 0 57 0)])), (11, (.cells [(xi (w64 ((zo 1 (p0.Slips.1.length : Int)) - 1))), (xi v7.2.1)])), (57, .nrow)], []⟩, []⟩
noncomputable def zah (p0 : zd) (p1 : Int) (v7 : zt12) (v11 : Int) (v13 : zl) (r : Unit) : St := ⟨(z5w p0 p1 v7 v11 v13 ++ [(62, (xb false))]), ⟨[(zc 2 (za p0)), (3, (.cells [(xi p1)])), (6, (.cells [(.d (dl eI p0.Far.1 p0.Far.2)), (xi p0.Step.Low), (xi p0.Step.High), (.d (dl zw p0.Pick.1 p0.Pick.2)), (xi p0.Carry), (.row 0 57 0)])), (11, (.cells [(xi (w64 ((zo 1 (p0.Slips.1.length : Int)) - 1))), (xi v7.2.1)])), (57, .nrow)], []⟩, []⟩
noncomputable def zul (p0 : zd) (p1 : Int) (v7 : zt12) (v11 : Int) (v13 : zl) : Unit → Ex × St := fun r => ((.exit 0), zah p0 p1 v7 v11 v13 r)
theorem zdp (k : Nat) (p0 : zd) (p1 : Int) (v7 : zt12) (v11 : Int) (v13 : zl) (x : Unit ⊕ Unit) (h : z2g k p0 p1 v7 v11 v13 = some x) : zG TE 33 (blk TE 33 0) (fun s : Unit => znl p0 p1 v7 v11 v13) (zul p0 p1 v7 v11 v13) () x := by
 unfold z2g at h
 refine zn h (fun h201 g1 => ?_) (fun h201 g1 => ?_)
 ·cases g1
 ·exact zqo [(33, 10, 2, .q (xb false))] [] g1 (ob (o_b h201) ob0) (by kernel_rfl)
theorem z1o (k : Nat) (p0 : zd) (p1 : Int) (v7 : zt12) (v11 : Int) (v13 : zl) : ∀ (s : Unit) (x : Unit ⊕ Unit), (fun s => z2g k p0 p1 v7 v11 v13) s = some x → zG TE 33 (blk TE 33 0) (fun s : Unit => znl p0 p1 v7 v11 v13) (zul p0 p1 v7 v11 v13) s x := fun s x h => zdp k p0 p1 v7 v11 v13 x h
noncomputable def z2y (p0 : zd) (p1 : Int) (v7 : zt12) (r : (Int × Int × Bool)) (s2_14 s2_15 : Int) (v404 : ((SL (SL Int)) × Bool)) : TM := [(0, (.d (.agg (za p0)))), (1, (xi p1)), (zsp 2), (zsp 3), (4, (xi 0)), (5, (xi 0)), (zsp 6), (7, (xi 0)), (24, (xb false)), (9, (xi v7.2.1)), (10, (xb v7.2.2)), (33, (xb false)), (zsp 11), (12, (xi r.1)), (13, (xi r.2.1)), (62, (xb true)), (14, (xi (w64 ((w64 (s2_14 + s2_15)).tdiv 2)))), (16, (xb v404.2)), (80, (xb r.2.2))]
noncomputable def z7f (p0 : zd) (p1 : Int) (v7 : zt12) (s2_14 s2_15 : Int) (s2_30 : (List zl)) (v402 : zl) (v404 : ((SL (SL Int)) × Bool)) (cb : Bool) (r : (Int × Int × Bool)) : St := ⟨(z2y p0 p1 v7 r s2_14 s2_15 v404), ⟨[(zc 2 (za p0)), (3, (.cells [(xi p1)])), (6, (.cells [(.d (dl eI p0.Far.1 p0.Far.2)), (xi p0.Step.Low), (xi p0.Step.High), (.d (dl zw p0.Pick.1 p0.Pick.2)), (xi p0.Carry), (.row 0 57 (s2_30.set p1.toNat (⟨v402.Lines, (w64 ((w64 (s2_14 + s2_15)).tdiv 2))⟩ : zl)).length)])), (11, (.cells [(xi (w64 ((zo 1 (p0.Slips.1.length : Int)) - 1))), (xi v7.2.1)])), (57, (rowO false 2 zm (s2_30.set p1.toNat (⟨v402.Lines, (w64 ((w64 (s2_14 + s2_15)).tdiv 2))⟩ : zl)) true))], []⟩, []⟩
noncomputable def zMy (p0 : zd) (p1 : Int) (v7 : zt12) (s2_14 s2_15 : Int) (v404 : ((SL (SL Int)) × Bool)) (cb : Bool) : TM := [(0, (.d (.agg (za p0)))), (1, (xi p1)), (zsp 2), (zsp 3), (4, (xi 0)), (5, (xi 0)), (zsp 6), (7, (xi 0)), (24, (xb false)), (9, (xi v7.2.1)), (10, (xb v7.2.2)), (33, (xb false)), (zsp 11), (12, (xi s2_14)), (13, (xi s2_15)), (62, (xb true)), (14, (xi (w64 ((w64 (s2_14 + s2_15)).tdiv 2)))), (16, (xb v404.2)), (80, (xb cb))]
theorem zfp (k : Nat) (p0 : zd) (p1 : Int) (v7 : zt12) (s2_14 s2_15 : Int) (s2_30 : (List zl)) (v402 : zl) (v404 : ((SL (SL Int)) × Bool)) (cb : Bool) (r : (Int × Int × Bool)) (h : zpj k p0 p1 v7 s2_14 s2_15 s2_30 v402 v404 cb = some r) : ev TE 33 (cnd TE 33 80) ⟨(zMy p0 p1 v7 s2_14 s2_15 v404 cb), ⟨[(zc 2 (za p0)), (3, (.cells [(xi p1)])), (6, (.cells [(.d (dl eI p0.Far.1 p0.Far.2)), (xi p0.Step.Low), (xi p0.Step.High), (.d (dl zw p0.Pick.1 p0.Pick.2)), (xi p0.Carry), (.row 0 57 (s2_30.set p1.toNat (⟨v402.Lines, (w64 ((w64 (s2_14 + s2_15)).tdiv 2))⟩ : zl)).length)])), (11, (.cells [(xi (w64 ((zo 1 (p0.Slips.1.length : Int)) - 1))), (xi v7.2.1)])), (57, (rowO false 2 zm (s2_30.set p1.toNat (⟨v402.Lines, (w64 ((w64 (s2_14 + s2_15)).tdiv 2))⟩ : zl)) true))], []⟩, []⟩ = some (.nor, z7f p0 p1 v7 s2_14 s2_15 s2_30 v402 v404 cb r) := by
 unfold zpj at h
 refine zn h (fun h501 g1 => ?_) (fun h501 g1 => ?_)
 ·subst h501
  exact zx (g := fun r => (Ex.nor, z7f p0 p1 v7 s2_14 s2_15 s2_30 v402 v404 true r)) g1 (zqe [] [] ob0 (by kernel_rfl))
 ·subst h501
  exact zx (g := fun r => (Ex.nor, z7f p0 p1 v7 s2_14 s2_15 s2_30 v402 v404 false r)) g1 (zqe [] [] ob0 (by kernel_rfl))
noncomputable def zyy (p0 : zd) (p1 : Int) (v7 : zt12) (s2_14 s2_15 : Int) : TM := [(0, (.d (.agg (za p0)))), (1, (xi p1)), (zsp 2), (zsp 3), (4, (xi 0)), (5, (xi 0)), (zsp 6), (7, (xi 0)), (24, (xb false)), (9, (xi v7.2.1)), (10, (xb v7.2.2)), (33, (xb false)), (zsp 11), (12, (xi s2_14)), (13, (xi s2_15))]
noncomputable def zVp (p0 : zd) (p1 : Int) (v7 : zt12) (s2_14 s2_15 : Int) (s2_30 : (List zl)) : St := ⟨(zyy p0 p1 v7 s2_14 s2_15), ⟨[(zc 2 (za p0)), (3, (.cells [(xi p1)])), (6, (.cells [(.d (dl eI p0.Far.1 p0.Far.2)), (xi p0.Step.Low), (xi p0.Step.High), (.d (dl zw p0.Pick.1 p0.Pick.2)), (xi p0.Carry), (.row 0 57 s2_30.length)])), (11, (.cells [(xi (w64 ((zo 1 (p0.Slips.1.length : Int)) - 1))), (xi v7.2.1)])), (57, (rowO false 2 zm s2_30 true))], []⟩, []⟩
noncomputable def zPy (p0 : zd) (p1 : Int) (v7 : zt12) (r : (Int × Int × (List zl))) : TM := [(0, (.d (.agg (za p0)))), (1, (xi p1)), (zsp 2), (zsp 3), (4, (xi 0)), (5, (xi 0)), (zsp 6), (7, (xi 0)), (24, (xb false)), (9, (xi v7.2.1)), (10, (xb v7.2.2)), (33, (xb false)), (zsp 11), (12, (xi r.1)), (13, (xi r.2.1)), (62, (xb false))]
noncomputable def zeh (p0 : zd) (p1 : Int) (v7 : zt12) (r : (Int × Int × (List zl))) : St := ⟨(zPy p0 p1 v7 r), ⟨[(zc 2 (za p0)), (3, (.cells [(xi p1)])), (6, (.cells [(.d (dl eI p0.Far.1 p0.Far.2)), (xi p0.Step.Low), (xi p0.Step.High), (.d (dl zw p0.Pick.1 p0.Pick.2)), (xi p0.Carry), (.row 0 57 r.2.2.length)])), (11, (.cells [(xi (w64 ((zo 1 (p0.Slips.1.length : Int)) - 1))), (xi v7.2.1)])), (57, (rowO false 2 zm r.2.2 true))], []⟩, []⟩
noncomputable def zxp (p0 : zd) (p1 : Int) (v7 : zt12) : (Int × Int × (List zl)) → Ex × St := fun r => ((.exit 0), zeh p0 p1 v7 r)
theorem zPo (k : Nat) (p0 : zd) (p1 : Int) (v7 : zt12) (s2_14 s2_15 : Int) (s2_30 : (List zl)) (x : (Int × Int × (List zl)) ⊕ (Int × Int × (List zl))) (h : zrj k p0 p1 v7 s2_14 s2_15 s2_30 = some x) : zG TE 33 (blk TE 33 0) (fun s : (Int × Int × (List zl)) => zVp p0 p1 v7 s.1 s.2.1 s.2.2) (zxp p0 p1 v7) (s2_14, s2_15, s2_30) x := by
 unfold zrj at h
 refine zn h (fun h401 g1 => ?_) (fun h401 g1 => ?_)
 ·refine zk g1 (fun v402 h403 g2 => ?_)
  refine zk g2 (fun v404 h405 g3 => ?_)
  refine zk g3 (fun v406 h407 g4 => ?_)
  exact zqn (v406.1, v406.2.1, (s2_30.set p1.toNat (⟨v402.Lines, (w64 ((w64 (s2_14 + s2_15)).tdiv 2))⟩ : zl))) [57] [(33, 10, 2, .q (xb true)), (33, 12, 5, .q (.rp 0 57 s2_30.length p1.toNat 0)), (33, 12, 6, .q (.rp 0 57 s2_30.length p1.toNat 1)), (33, 12, 7, .rs (rowO false 2 zm (s2_30.set p1.toNat (⟨v402.Lines, (w64 ((w64 (s2_14 + s2_15)).tdiv 2))⟩ : zl)) true)), (33, 12, 999, .nm [] [(6, 5, (s2_30.set p1.toNat (⟨v402.Lines, (w64 ((w64 (s2_14 + s2_15)).tdiv 2))⟩ : zl)).length)]), (33, 13, 2, .cr [((dl zm (s2_30.set p1.toNat (⟨v402.Lines, (w64 ((w64 (s2_14 + s2_15)).tdiv 2))⟩ : zl)) (rcap false (s2_30.set p1.toNat (⟨v402.Lines, (w64 ((w64 (s2_14 + s2_15)).tdiv 2))⟩ : zl)))), (rowO false 2 zm (s2_30.set p1.toNat (⟨v402.Lines, (w64 ((w64 (s2_14 + s2_15)).tdiv 2))⟩ : zl)) false))] (.tup [(dl (eL eI) v404.1.1 v404.1.2), (db v404.2)]))] [(33, 2000080, (.nor, z7f p0 p1 v7 s2_14 s2_15 s2_30 v402 v404 v404.2 v406))] g4 (ob (o_b h401) (ob (zqa 26 32 0 57 p1 false 2 zm s2_30 true (by kernel_rfl) (by kernel_rfl) h403) (ob (zqf 52 (1, 1, false) 0 57 0 1 p1 false 2 zm s2_30 true (by kernel_rfl) (by decide) h403) (ob (o_rs (b := false) (z := 2) (e := zm) (l := s2_30) (o := 1) (n := 1) (ds := [(di (w64 ((w64 (s2_14 + s2_15)).tdiv 2)))]) (i := p1) (y' := (⟨v402.Lines, (w64 ((w64 (s2_14 + s2_15)).tdiv 2))⟩ : zl)) h403 (Nat.le_of_ble_eq_true rfl) rfl) (ob (show s2_30.length = (s2_30.set p1.toNat (⟨v402.Lines, (w64 ((w64 (s2_14 + s2_15)).tdiv 2))⟩ : zl)).length by simp) (ob (o_cr false 2 zm (s2_30.set p1.toNat (⟨v402.Lines, (w64 ((w64 (s2_14 + s2_15)).tdiv 2))⟩ : zl)) true 0 57) (ob (zV k (⟨(⟨p0.Far, p0.Step, p0.Pick, p0.Carry, ((s2_30.set p1.toNat (⟨v402.Lines, (w64 ((w64 (s2_14 + s2_15)).tdiv 2))⟩ : zl)), (rcap false (s2_30.set p1.toNat (⟨v402.Lines, (w64 ((w64 (s2_14 + s2_15)).tdiv 2))⟩ : zl))))⟩ : zd)⟩ : zj) (⟨(w64 ((zo 1 (p0.Slips.1.length : Int)) - 1)), v7.2.1⟩ : zr) _ h405) (ob (zfp k p0 p1 v7 s2_14 s2_15 s2_30 v402 v404 v404.2 _ h407) (ob (zmf false 2 zm (s2_30.set p1.toNat (⟨v402.Lines, (w64 ((w64 (s2_14 + s2_15)).tdiv 2))⟩ : zl)) true) ob0))))))))) (by kernel_rfl)
 ·exact zqo [(33, 10, 2, .q (xb false))] [] g1 (ob (o_b h401) ob0) (by kernel_rfl)
theorem zNr (k : Nat) (p0 : zd) (p1 : Int) (r : zt9) (h : zbn k p0 p1 = some r) : zA TE (ev TE) 33 [(.agg (za p0)), (di p1)] = some (zYe r) := by
 unfold zbn at h
 refine zk h (fun v1 h2 g1 => ?_)
 refine zn g1 (fun h3 g2 => ?_) (fun h3 g2 => ?_)
 ·exact zB (g := zYe) g2 (zqc [(52, 1, 1, .c (di v1)), (52, 2, 1, .q (xb true)), (33, 2, 1, .q (xb true))] [] (ob (zQ k p0 _ h2) (ob (o_b h3) (ob (o_b h3) ob0))) (by kernel_rfl))
 ·refine zk g2 (fun v4 h5 g3 => ?_)
  have y1 := fun (d : D) (P : List Prop) (V : Ovs) (C : Cuts) (q : All P) h => (zqc ([(52, 1, 1, .c (di v1)), (52, 2, 1, .q (xb false)), (79, 1, 2, .c (db v4))] ++ V) C (ob (zQ k p0 _ h2) (ob (o_b h3) (ob (zdb k (⟨p0⟩ : zj) p1 _ h5) q))) h : zA TE (ev TE) 33 [(.agg (za p0)), (di p1)] = some d)
  refine zn g3 (fun h6 g4 => ?_) (fun h6 g4 => ?_)
  ·exact zB (g := zYe) g4 (y1 _ _ [(52, 4, 4, .q (xb true))] [] (ob (o_b h6) ob0) (by kernel_rfl))
  ·refine zk g4 (fun v7 h8 g5 => ?_)
   have y2 := fun (d : _) (P : List Prop) (V : Ovs) (C : Cuts) (q : All P) h => y1 d _ ([(52, 4, 4, .q (xb false)), (33, 4, 1, .c (.tup [(dl (eL eI) v7.1.1 v7.1.2), (di v7.2.1), (db v7.2.2)]))] ++ V) C (ob (o_b h6) (ob (zGf k (⟨p0⟩ : zj) _ h8) q)) h
   refine zn g5 (fun h9 g6 => ?_) (fun h9 g6 => ?_)
   ·exact zB (g := zYe) g6 (y2 _ _ [(33, 5, 1, .q (xb true))] [] (ob (o_b h9) ob0) (by kernel_rfl))
   ·refine zn g6 (fun h10 g7 => ?_) (fun h10 g7 => ?_)
    ·cases g7
    ·refine zk g7 (fun v11 h12 g8 => ?_)
     refine zk g8 (fun v13 h14 g9 => ?_)
     have y3 := fun (d : _) (P : List Prop) (V : Ovs) (C : Cuts) (q : All P) h => y2 d _ ([(33, 5, 1, .q (xb false)), (33, 7, 3, .q (xi (p0.Slips.1.length : Int))), (33, 7, 4, .q (xi (zo 1 (p0.Slips.1.length : Int)))), (33, 8, 4, .c (di v11)), (33, 8, 9, .q (.d (.pin [(dl zh v13.Lines.1 v13.Lines.2), (di v13.Until)])))] ++ V) C (ob (o_b h9) (ob (zq zm p0.Slips.1) (ob (zic (x := 1) h10) (ob (zte k (⟨p0⟩ : zj) p1 _ h12) (ob (o_ia (e := zm) 2 h14 rfl) q))))) h
     refine zn g9 (fun h15 g10 => ?_) (fun h15 g10 => ?_)
     ·refine zk g10 (fun v16 h17 g11 => ?_)
      refine zk g11 (fun v18 h19 g12 => ?_)
      exact zB (g := zYe) g12 (y3 _ _ [(80, 1, 1, .q (xb true)), (33, 17, 2, .c (di v18))] [(33, 0, (.nor, zah p0 p1 v7 v11 v13 v16))] (ob (o_b h15) (ob (zy (id := 0) (r' := (.nor, zah p0 p1 v7 v11 v13 v16)) (zwg (z1o k p0 p1 v7 v11 v13) k _ _ h17) rfl) (ob (zli k v11 ([0], .ex) _ h19) ob0))) (by kernel_rfl))
     ·refine zN g10 (fun h16 g11 => ?_)
      refine zk g11 (fun v17 h18 g12 => ?_)
      refine zk g12 (fun v19 h20 g13 => ?_)
      exact zB (g := zYe) g13 (y3 _ _ [(80, 1, 1, .q (xb false)), (80, 3, 2, .ns (p0.Slips.1.map zm) p0.Slips.1.length), (33, 17, 2, .c (di v19))] [(33, 0, (.nor, zeh p0 p1 v7 v17))] (ob (o_b h15) (ob (zpu p0.Slips.1 zm) (ob (o_ns (P := TE.P) (φ := fun _ _ => none) (T := 26) (q := (2, [(.sl [] .nil), (di 0)])) (c := p0.Slips.2) (e := zm) p0.Slips.1 (by kernel_rfl) (fun _ => rfl) h16) (ob (rfl : (([] : List (List D)).isEmpty || !(p0.Slips.1.map zm).isEmpty) = true) (ob (o_rh false 2 zm p0.Slips.1) (ob (zy (id := 0) (r' := (.nor, zeh p0 p1 v7 v17)) (zjp (zPo k p0 p1 v7) k _ _ h18) rfl) (ob (zli k v17.1 ([0], .ex) _ h20) ob0))))))) (by kernel_rfl))
noncomputable def zmz (p0 p1 : (SL zp)) (s1_3 : Bool) (s1_4 : Int) (r : Bool) : TM := [(0, (.d (dl zw p0.1 p0.2))), (1, (.d (dl zw p1.1 p1.2))), (4, (xb false)), (5, (xb s1_3)), (6, (xi s1_4)), (18, (xb r))]
noncomputable def zGb (p0 p1 : (SL zp)) (s1_3 : Bool) (s1_4 : Int) (r : Bool) : St := ⟨(zmz p0 p1 s1_3 s1_4 r), ⟨[], []⟩, []⟩
noncomputable def zUw (p0 p1 : (SL zp)) (s1_3 : Bool) (s1_4 : Int) : TM := [(0, (.d (dl zw p0.1 p0.2))), (1, (.d (dl zw p1.1 p1.2))), (4, (xb false)), (5, (xb s1_3)), (6, (xi s1_4))]
theorem zge (k : Nat) (p0 p1 : (SL zp)) (s1_3 : Bool) (s1_4 : Int) (r : Bool) (h : zdd k p0 p1 s1_3 s1_4 = some r) : ev TE 27 (rgn TE 27 3) ⟨(zUw p0 p1 s1_3 s1_4), ⟨[], []⟩, []⟩ = some (.nor, zGb p0 p1 s1_3 s1_4 r) := by
 unfold zdd at h
 refine zn h (fun h401 g1 => ?_) (fun h401 g1 => ?_)
 ·exact zx (g := fun r => (Ex.nor, zGb p0 p1 s1_3 s1_4 r)) g1 (zqe [(27, 3, 1, .q (xb true)), (27, 3, 4, .q (xi (p0.1.length : Int)))] [] (ob (o_b h401) (ob (zq zw p0.1) ob0)) (by kernel_rfl))
 ·exact zx (g := fun r => (Ex.nor, zGb p0 p1 s1_3 s1_4 r)) g1 (zqe [(27, 3, 1, .q (xb false))] [] (ob (o_b h401) ob0) (by kernel_rfl))
noncomputable def zvi (p0 p1 : (SL zp)) (s1_3 : Bool) (s1_4 : Int) : St := ⟨(zUw p0 p1 s1_3 s1_4), ⟨[], []⟩, []⟩
noncomputable def zjz (p0 p1 : (SL zp)) (r : zt2) : TM := [(0, (.d (dl zw p0.1 p0.2))), (1, (.d (dl zw p1.1 p1.2))), (4, (xb false)), (5, (xb r.1)), (6, (xi r.2)), (18, (xb false))]
noncomputable def zKc (p0 p1 : (SL zp)) (r : zt2) : St := ⟨(zjz p0 p1 r), ⟨[], []⟩, []⟩
noncomputable def zwi (p0 p1 : (SL zp)) : (Bool × Int) → Ex × St := fun r => ((.exit 0), zKc p0 p1 r)
theorem zri (k : Nat) (p0 p1 : (SL zp)) (s1_3 : Bool) (s1_4 : Int) (x : (Bool × Int) ⊕ (Bool × Int)) (h : zmd k p0 p1 s1_3 s1_4 = some x) : zG TE 27 (blk TE 27 0) (fun s : (Bool × Int) => zvi p0 p1 s.1 s.2) (zwi p0 p1) (s1_3, s1_4) x := by
 unfold zmd at h
 refine zk h (fun v301 h302 g1 => ?_)
 refine zn g1 (fun h303 g2 => ?_) (fun h303 g2 => ?_)
 ·subst h303
  refine zk g2 (fun v304 h305 g3 => ?_)
  refine zk g3 (fun v306 h307 g4 => ?_)
  exact zqn (((v304.Low == v306.Low) && ((v304.High == v306.High) && true)), (w64 (s1_4 + 1))) [] [(27, 5, 2, .q (.d (.pin [(di v304.Low), (di v304.High)]))), (27, 5, 6, .q (.d (.pin [(di v306.Low), (di v306.High)])))] [(27, 1000003, (.nor, zGb p0 p1 s1_3 s1_4 true))] g4 (ob (zge k p0 p1 s1_3 s1_4 _ h302) (ob (o_ia (e := zw) 2 h305 rfl) (ob (o_ia (e := zw) 2 h307 rfl) ob0))) (by kernel_rfl)
 ·subst h303
  exact zqo [] [(27, 1000003, (.nor, zGb p0 p1 s1_3 s1_4 false))] g2 (ob (zge k p0 p1 s1_3 s1_4 _ h302) ob0) (by kernel_rfl)
theorem z6i (k : Nat) (p0 p1 : (SL zp)) (r : Bool) (h : zUd k p0 p1 = some r) : zA TE (ev TE) 27 [(dl zw p0.1 p0.2), (dl zw p1.1 p1.2)] = some (zHf r) := by
 unfold zUd at h
 refine zk h (fun v1 h2 g1 => ?_)
 exact zB (g := zHf) g1 (zqc [(27, 1, 1, .q (xi (p0.1.length : Int))), (27, 1, 3, .q (xi (p1.1.length : Int)))] [(27, 0, (.nor, zKc p0 p1 v1))] (ob (zq zw p0.1) (ob (zq zw p1.1) (ob (zy (id := 0) (r' := (.nor, zKc p0 p1 v1)) (z8b (zri k p0 p1) k _ _ h2) rfl) ob0))) (by kernel_rfl))
noncomputable def z3y (p0 p1 : (SL Int)) (s1_3 : Bool) (s1_4 : Int) (r : Bool) : TM := [(0, (.d (dl eI p0.1 p0.2))), (1, (.d (dl eI p1.1 p1.2))), (4, (xb false)), (5, (xb s1_3)), (6, (xi s1_4)), (18, (xb r))]
noncomputable def zec (p0 p1 : (SL Int)) (s1_3 : Bool) (s1_4 : Int) (r : Bool) : St := ⟨(z3y p0 p1 s1_3 s1_4 r), ⟨[], []⟩, []⟩
noncomputable def z3w (p0 p1 : (SL Int)) (s1_3 : Bool) (s1_4 : Int) : TM := [(0, (.d (dl eI p0.1 p0.2))), (1, (.d (dl eI p1.1 p1.2))), (4, (xb false)), (5, (xb s1_3)), (6, (xi s1_4))]
theorem zdg (k : Nat) (p0 p1 : (SL Int)) (s1_3 : Bool) (s1_4 : Int) (r : Bool) (h : zob k p0 p1 s1_3 s1_4 = some r) : ev TE 32 (rgn TE 32 3) ⟨(z3w p0 p1 s1_3 s1_4), ⟨[], []⟩, []⟩ = some (.nor, zec p0 p1 s1_3 s1_4 r) := by
 unfold zob at h
 refine zn h (fun h401 g1 => ?_) (fun h401 g1 => ?_)
 ·exact zx (g := fun r => (Ex.nor, zec p0 p1 s1_3 s1_4 r)) g1 (zqe [(32, 3, 1, .q (xb true)), (32, 3, 4, .q (xi (p0.1.length : Int)))] [] (ob (o_b h401) (ob (zq eI p0.1) ob0)) (by kernel_rfl))
 ·exact zx (g := fun r => (Ex.nor, zec p0 p1 s1_3 s1_4 r)) g1 (zqe [(32, 3, 1, .q (xb false))] [] (ob (o_b h401) ob0) (by kernel_rfl))
noncomputable def zHk (p0 p1 : (SL Int)) (s1_3 : Bool) (s1_4 : Int) : St := ⟨(z3w p0 p1 s1_3 s1_4), ⟨[], []⟩, []⟩
noncomputable def zWy (p0 p1 : (SL Int)) (r : zt2) : TM := [(0, (.d (dl eI p0.1 p0.2))), (1, (.d (dl eI p1.1 p1.2))), (4, (xb false)), (5, (xb r.1)), (6, (xi r.2)), (18, (xb false))]
noncomputable def zKd (p0 p1 : (SL Int)) (r : zt2) : St := ⟨(zWy p0 p1 r), ⟨[], []⟩, []⟩
noncomputable def zVk (p0 p1 : (SL Int)) : (Bool × Int) → Ex × St := fun r => ((.exit 0), zKd p0 p1 r)
theorem z1j (k : Nat) (p0 p1 : (SL Int)) (s1_3 : Bool) (s1_4 : Int) (x : (Bool × Int) ⊕ (Bool × Int)) (h : znb k p0 p1 s1_3 s1_4 = some x) : zG TE 32 (blk TE 32 0) (fun s : (Bool × Int) => zHk p0 p1 s.1 s.2) (zVk p0 p1) (s1_3, s1_4) x := by
 unfold znb at h
 refine zk h (fun v301 h302 g1 => ?_)
 refine zn g1 (fun h303 g2 => ?_) (fun h303 g2 => ?_)
 ·subst h303
  refine zk g2 (fun v304 h305 g3 => ?_)
  refine zk g3 (fun v306 h307 g4 => ?_)
  exact zqn ((v304 == v306), (w64 (s1_4 + 1))) [] [(32, 5, 2, .q (.d (.pin [(di v304)]))), (32, 5, 6, .q (.d (.pin [(di v306)])))] [(32, 1000003, (.nor, zec p0 p1 s1_3 s1_4 true))] g4 (ob (zdg k p0 p1 s1_3 s1_4 _ h302) (ob (o_ia (e := eI) 1 h305 rfl) (ob (o_ia (e := eI) 1 h307 rfl) ob0))) (by kernel_rfl)
 ·subst h303
  exact zqo [] [(32, 1000003, (.nor, zec p0 p1 s1_3 s1_4 false))] g2 (ob (zdg k p0 p1 s1_3 s1_4 _ h302) ob0) (by kernel_rfl)
theorem z8c (k : Nat) (p0 p1 : (SL Int)) (r : Bool) (h : z2b k p0 p1 = some r) : zA TE (ev TE) 32 [(dl eI p0.1 p0.2), (dl eI p1.1 p1.2)] = some (zJh r) := by
 unfold z2b at h
 refine zk h (fun v1 h2 g1 => ?_)
 exact zB (g := zJh) g1 (zqc [(32, 1, 1, .q (xi (p0.1.length : Int))), (32, 1, 3, .q (xi (p1.1.length : Int)))] [(32, 0, (.nor, zKd p0 p1 v1))] (ob (zq eI p0.1) (ob (zq eI p1.1) (ob (zy (id := 0) (r' := (.nor, zKd p0 p1 v1)) (z8b (z1j k p0 p1) k _ _ h2) rfl) ob0))) (by kernel_rfl))
noncomputable def zOy (v3 : zt9) (v7 : (zp × Int)) (v11 : zt14) (v21 : zt2) (r : Bool) : TM := [(0, (xb false)), (1, (xi v3.1)), (2, (xi v3.2)), (zsp 3), (4, (xi v7.2)), (5, (.d (dl (eL zh) v11.1.1 v11.1.2))), (6, (xi v11.2)), (7, (xb v21.1)), (8, (xi v21.2)), (86, (xb r))]
noncomputable def zC (v3 : zt9) (v7 : (zp × Int)) (v11 : zt14) (v21 : zt2) (r : Bool) : St := ⟨(zOy v3 v7 v11 v21 r), ⟨[(3, (.cells [(xi v7.1.Low), (xi v7.1.High)]))], []⟩, []⟩
noncomputable def zdx (v3 : zt9) (v7 : (zp × Int)) (v11 : zt14) (v21 : zt2) : TM := [(0, (xb false)), (1, (xi v3.1)), (2, (xi v3.2)), (zsp 3), (4, (xi v7.2)), (5, (.d (dl (eL zh) v11.1.1 v11.1.2))), (6, (xi v11.2)), (7, (xb v21.1)), (8, (xi v21.2))]
theorem zPj (k : Nat) (v3 : zt9) (v7 : (zp × Int)) (v11 : zt14) (v21 : zt2) (r : Bool) (h : zHe k v3 v7 v11 v21 = some r) : ev TE 23 (rgn TE 23 5) ⟨(zdx v3 v7 v11 v21), ⟨[(3, (.cells [(xi v7.1.Low), (xi v7.1.High)]))], []⟩, []⟩ = some (.nor, zC v3 v7 v11 v21 r) := by
 unfold zHe at h
 refine zn h (fun h201 g1 => ?_) (fun h201 g1 => ?_)
 ·exact zx (g := fun r => (Ex.nor, zC v3 v7 v11 v21 r)) g1 (zqe [(23, 5, 2, .q (xb true))] [] (ob (o_b h201) ob0) (by kernel_rfl))
 ·have y1 := fun (d : Ex × St) (P : List Prop) (V : Ovs) (C : Cuts) (q : All P) h => (zqe ([(23, 5, 2, .q (xb false))] ++ V) C (ob (o_b h201) q) h : ev TE 23 (rgn TE 23 5) ⟨(zdx v3 v7 v11 v21), ⟨[(3, (.cells [(xi v7.1.Low), (xi v7.1.High)]))], []⟩, []⟩ = some d)
  refine zn g1 (fun h202 g2 => ?_) (fun h202 g2 => ?_)
  ·exact zx (g := fun r => (Ex.nor, zC v3 v7 v11 v21 r)) g2 (y1 _ _ [(23, 5, 6, .q (xb true))] [] (ob (o_b h202) ob0) (by kernel_rfl))
  ·have y2 := fun (d : _) (P : List Prop) (V : Ovs) (C : Cuts) (q : All P) h => y1 d _ ([(23, 5, 6, .q (xb false))] ++ V) C (ob (o_b h202) q) h
   refine zn g2 (fun h203 g3 => ?_) (fun h203 g3 => ?_)
   ·exact zx (g := fun r => (Ex.nor, zC v3 v7 v11 v21 r)) g3 (y2 _ _ [(23, 5, 10, .q (xb true))] [] (ob (o_b h203) ob0) (by kernel_rfl))
   ·have y3 := fun (d : _) (P : List Prop) (V : Ovs) (C : Cuts) (q : All P) h => y2 d _ ([(23, 5, 10, .q (xb false))] ++ V) C (ob (o_b h203) q) h
    refine zn g3 (fun h204 g4 => ?_) (fun h204 g4 => ?_)
    ·exact zx (g := fun r => (Ex.nor, zC v3 v7 v11 v21 r)) g4 (y3 _ _ [(23, 5, 14, .q (xb true))] [] (ob (o_b h204) ob0) (by kernel_rfl))
    ·have y4 := fun (d : _) (P : List Prop) (V : Ovs) (C : Cuts) (q : All P) h => y3 d _ ([(23, 5, 14, .q (xb false))] ++ V) C (ob (o_b h204) q) h
     refine zn g4 (fun h205 g5 => ?_) (fun h205 g5 => ?_)
     ·exact zx (g := fun r => (Ex.nor, zC v3 v7 v11 v21 r)) g5 (y4 _ _ [(23, 5, 18, .q (xb true))] [] (ob (o_b h205) ob0) (by kernel_rfl))
     ·refine zk g5 (fun v206 h207 g6 => ?_)
      have y5 := fun (d : _) (P : List Prop) (V : Ovs) (C : Cuts) (q : All P) h => y4 d _ ([(23, 5, 18, .q (xb false)), (23, 5, 20, .c (.agg [(di v206.Low), (di v206.High)]))] ++ V) C (ob (o_b h205) (ob (zvb k 140 252 _ h207) q)) h
      refine zn g6 (fun h208 g7 => ?_) (fun h208 g7 => ?_)
      ·exact zx (g := fun r => (Ex.nor, zC v3 v7 v11 v21 r)) g7 (y5 _ _ [(23, 5, 23, .q (xb true))] [] (ob (o_b h208) ob0) (by kernel_rfl))
      ·have y6 := fun (d : _) (P : List Prop) (V : Ovs) (C : Cuts) (q : All P) h => y5 d _ ([(23, 5, 23, .q (xb false)), (23, 5, 25, .q (xi (v11.1.1.length : Int)))] ++ V) C (ob (o_b h208) (ob (zq (eL zh) v11.1.1) q)) h
       refine zn g7 (fun h209 g8 => ?_) (fun h209 g8 => ?_)
       ·exact zx (g := fun r => (Ex.nor, zC v3 v7 v11 v21 r)) g8 (y6 _ _ [(23, 5, 28, .q (xb true))] [] (ob (o_b h209) ob0) (by kernel_rfl))
       ·refine zk g8 (fun v210 h211 g9 => ?_)
        have y7 := fun (d : _) (P : List Prop) (V : Ovs) (C : Cuts) (q : All P) h => y6 d _ ([(23, 5, 28, .q (xb false)), (23, 5, 30, .q (.d (.pin [(dl zh v210.1 v210.2)]))), (23, 5, 32, .q (xi (v210.1.length : Int)))] ++ V) C (ob (o_b h209) (ob (o_ia (e := (eL zh)) 1 h211 rfl) (ob (zq zh v210.1) q))) h
        refine zn g9 (fun h212 g10 => ?_) (fun h212 g10 => ?_)
        ·exact zx (g := fun r => (Ex.nor, zC v3 v7 v11 v21 r)) g10 (y7 _ _ [(23, 5, 35, .q (xb true))] [] (ob (o_b h212) ob0) (by kernel_rfl))
        ·refine zk g10 (fun v213 h214 g11 => ?_)
         refine zk g11 (fun v215 h216 g12 => ?_)
         refine zk g12 (fun v217 h218 g13 => ?_)
         have y8 := fun (d : _) (P : List Prop) (V : Ovs) (C : Cuts) (q : All P) h => y7 d _ ([(23, 5, 35, .q (xb false)), (23, 5, 37, .q (.d (.pin [(dl zh v213.1 v213.2)]))), (23, 5, 39, .q (.d (.pin [(di v215.Shelf), (di v215.Many)]))), (23, 5, 41, .c (.agg [(di v217.Shelf), (di v217.Many)]))] ++ V) C (ob (o_b h212) (ob (o_ia (e := (eL zh)) 1 h214 rfl) (ob (o_ia (e := zh) 2 h216 rfl) (ob (zab k 0 1 _ h218) q)))) h
         refine zn g13 (fun h219 g14 => ?_) (fun h219 g14 => ?_)
         ·exact zx (g := fun r => (Ex.nor, zC v3 v7 v11 v21 r)) g14 (y8 _ _ [(23, 5, 44, .q (xb true))] [] (ob (o_b h219) ob0) (by kernel_rfl))
         ·exact zx (g := fun r => (Ex.nor, zC v3 v7 v11 v21 r)) g14 (y8 _ _ [(23, 5, 44, .q (xb false))] [] (ob (o_b h219) ob0) (by kernel_rfl))
theorem zOg (k : Nat) (r : Bool) (h : zwc k = some r) : zA TE (ev TE) 23 [] = some (zcb r) := by
 unfold zwc at h
 refine zk h (fun v1 h2 g1 => ?_)
 refine zk g1 (fun v3 h4 g2 => ?_)
 refine zk g2 (fun v5 h6 g3 => ?_)
 refine zk g3 (fun v7 h8 g4 => ?_)
 refine zk g4 (fun v9 h10 g5 => ?_)
 refine zk g5 (fun v11 h12 g6 => ?_)
 refine zk g6 (fun v13 h14 g7 => ?_)
 refine zk g7 (fun v15 h16 g8 => ?_)
 refine zk g8 (fun v17 h18 g9 => ?_)
 refine zk g9 (fun v19 h20 g10 => ?_)
 refine zk g10 (fun v21 h22 g11 => ?_)
 refine zk g11 (fun v23 h24 g12 => ?_)
 have y1 := fun (d : D) (P : List Prop) (V : Ovs) (C : Cuts) (q : All P) h => (zqc ([(23, 1, 0, .c (.agg (za v1))), (23, 1, 1, .c (.tup [(di v3.1), (di v3.2)])), (23, 2, 0, .c (.agg (za v5))), (23, 2, 1, .c (.tup [(.agg [(di v7.1.Low), (di v7.1.High)]), (di v7.2)])), (23, 3, 0, .c (.agg (za v9))), (23, 3, 1, .c (.tup [(dl (eL zh) v11.1.1 v11.1.2), (di v11.2)])), (23, 4, 0, .c (.agg (za v13))), (23, 4, 1, .c (.agg [(di v15.Shelf), (di v15.Many)])), (23, 4, 2, .c (.agg [(di v17.Shelf), (di v17.Many)])), (23, 4, 4, .c (.agg [(di v19.Shelf), (di v19.Many)])), (23, 4, 7, .c (.tup [(db v21.1), (di v21.2)]))] ++ V) C (ob (zkb k _ h2) (ob (zrn k v1 3 _ h4) (ob (zkb k _ h6) (ob (zQr k v5 0 _ h8) (ob (zkb k _ h10) (ob (zsn k v9 2 _ h12) (ob (zkb k _ h14) (ob (zab k 0 1 _ h16) (ob (zab k 2 3 _ h18) (ob (zab k 0 1 _ h20) (ob (z8h k v13 0 ([([v15, v17], .ex), ([v19], .ex)], .ex) _ h22) (ob (zPj k v3 v7 v11 v21 _ h24) q)))))))))))) h : zA TE (ev TE) 23 [] = some d)
 refine zn g12 (fun h25 g13 => ?_) (fun h25 g13 => ?_)
 ·subst h25
  exact zB (g := zcb) g13 (y1 _ _ [] [(23, 1000005, (.nor, zC v3 v7 v11 v21 true))] ob0 (by kernel_rfl))
 ·subst h25
  refine zk g13 (fun v26 h27 g14 => ?_)
  refine zk g14 (fun v28 h29 g15 => ?_)
  refine zk g15 (fun v30 h31 g16 => ?_)
  refine zk g16 (fun v32 h33 g17 => ?_)
  refine zk g17 (fun v34 h35 g18 => ?_)
  refine zk g18 (fun v36 h37 g19 => ?_)
  refine zk g19 (fun v38 h39 g20 => ?_)
  refine zk g20 (fun v40 h41 g21 => ?_)
  have y2 := fun (d : _) (P : List Prop) (V : Ovs) (C : Cuts) (q : All P) h => y1 d _ ([(23, 7, 0, .c (.agg (za v26))), (23, 7, 4, .c (.tup [(dl zw v28.1.1 v28.1.2), (di v28.2)])), (23, 8, 0, .c (.agg (za v30))), (23, 8, 1, .c (.tup [(dl (eL eI) v32.1.1 v32.1.2), (di v32.2)])), (23, 9, 0, .c (.agg (za v34))), (23, 9, 1, .c (.tup [(dl eI v36.1.1 v36.1.2), (di v36.2)])), (23, 10, 0, .c (.agg (za v38))), (23, 10, 1, .c (.tup [(di v40.1), (di v40.2)]))] ++ V) C (ob (zkb k _ h27) (ob (zAs k v26 ([([2, 1], .ex), ([0, 3], .ex)], .ex) _ h29) (ob (zkb k _ h31) (ob (zYq k v30 _ h33) (ob (zkb k _ h35) (ob (zCs k v34 1 _ h37) (ob (zkb k _ h39) (ob (zNr k v38 3 _ h41) q)))))))) h
  refine zn g21 (fun h42 g22 => ?_) (fun h42 g22 => ?_)
  ·have y3 := fun (d : _) (P : List Prop) (V : Ovs) (C : Cuts) (q : All P) h => y2 d _ ([(23, 11, 2, .q (xb true))] ++ V) C (ob (o_b h42) q) h
   refine zn g22 (fun h43 g23 => ?_) (fun h43 g23 => ?_)
   ·have y4 := fun (d : _) (P : List Prop) (V : Ovs) (C : Cuts) (q : All P) h => y3 d _ ([(23, 11, 6, .q (xb true))] ++ V) C (ob (o_b h43) q) h
    refine zn g23 (fun h44 g24 => ?_) (fun h44 g24 => ?_)
    ·refine zn g24 (fun h45 g25 => ?_) (fun h45 g25 => ?_)
     ·refine zk g25 (fun v46 h47 g26 => ?_)
      refine zk g26 (fun v48 h49 g27 => ?_)
      refine zk g27 (fun v50 h51 g28 => ?_)
      refine zk g28 (fun v52 h53 g29 => ?_)
      refine zk g29 (fun v54 h55 g30 => ?_)
      have y5 := fun (d : _) (P : List Prop) (V : Ovs) (C : Cuts) (q : All P) h => y4 d _ ([(23, 11, 10, .q (xb true)), (23, 11, 14, .q (xb true)), (23, 11, 16, .c (.agg [(di v46.Low), (di v46.High)])), (23, 11, 17, .c (.agg [(di v48.Low), (di v48.High)])), (23, 11, 18, .c (.agg [(di v50.Low), (di v50.High)])), (23, 11, 19, .c (.agg [(di v52.Low), (di v52.High)])), (23, 11, 21, .c (db v54))] ++ V) C (ob (o_b h44) (ob (o_b h45) (ob (zvb k 140 252 _ h47) (ob (zvb k 95 188 _ h49) (ob (zvb k 25 48 _ h51) (ob (zvb k 365 654 _ h53) (ob (z6i k v28.1 ([v46, v48, v50, v52], .ex) _ h55) q))))))) h
      refine zn g30 (fun h56 g31 => ?_) (fun h56 g31 => ?_)
      ·have y6 := fun (d : _) (P : List Prop) (V : Ovs) (C : Cuts) (q : All P) h => y5 d _ ([(23, 11, 23, .q (xb true)), (23, 11, 25, .q (xi (v32.1.1.length : Int)))] ++ V) C (ob (o_b h56) (ob (zq (eL eI) v32.1.1) q)) h
       refine zn g31 (fun h57 g32 => ?_) (fun h57 g32 => ?_)
       ·refine zk g32 (fun v58 h59 g33 => ?_)
        refine zn g33 (fun h60 g34 => ?_) (fun h60 g34 => ?_)
        ·exact zB (g := zcb) g34 (y6 _ _ [(23, 11, 28, .q (xb true)), (23, 11, 31, .c (db v58)), (23, 11, 33, .q (xb true))] [(23, 1000005, (.nor, zC v3 v7 v11 v21 false))] (ob (o_b h57) (ob (z8c k v36.1 ([0], .ex) _ h59) (ob (o_b h60) ob0))) (by kernel_rfl))
        ·exact zB (g := zcb) g34 (y6 _ _ [(23, 11, 28, .q (xb true)), (23, 11, 31, .c (db v58)), (23, 11, 33, .q (xb false))] [(23, 1000005, (.nor, zC v3 v7 v11 v21 false))] (ob (o_b h57) (ob (z8c k v36.1 ([0], .ex) _ h59) (ob (o_b h60) ob0))) (by kernel_rfl))
       ·exact zB (g := zcb) g32 (y6 _ _ [(23, 11, 28, .q (xb false))] [(23, 1000005, (.nor, zC v3 v7 v11 v21 false))] (ob (o_b h57) ob0) (by kernel_rfl))
      ·exact zB (g := zcb) g31 (y5 _ _ [(23, 11, 23, .q (xb false))] [(23, 1000005, (.nor, zC v3 v7 v11 v21 false))] (ob (o_b h56) ob0) (by kernel_rfl))
     ·exact zB (g := zcb) g25 (y4 _ _ [(23, 11, 10, .q (xb true)), (23, 11, 14, .q (xb false))] [(23, 1000005, (.nor, zC v3 v7 v11 v21 false))] (ob (o_b h44) (ob (o_b h45) ob0)) (by kernel_rfl))
    ·exact zB (g := zcb) g24 (y4 _ _ [(23, 11, 10, .q (xb false))] [(23, 1000005, (.nor, zC v3 v7 v11 v21 false))] (ob (o_b h44) ob0) (by kernel_rfl))
   ·exact zB (g := zcb) g23 (y3 _ _ [(23, 11, 6, .q (xb false))] [(23, 1000005, (.nor, zC v3 v7 v11 v21 false))] (ob (o_b h43) ob0) (by kernel_rfl))
  ·exact zB (g := zcb) g22 (y2 _ _ [(23, 11, 2, .q (xb false))] [(23, 1000005, (.nor, zC v3 v7 v11 v21 false))] (ob (o_b h42) ob0) (by kernel_rfl))
noncomputable def zfz (p0 p1 : Int) (r : zt1) : TM := [(0, (xi p0)), (1, (xi p1)), (4, (xi 0)), (7, (xb false)), (5, (xi r.1)), (12, (xb r.2))]
noncomputable def zTc (p0 p1 : Int) (cb : Bool) (r : zt1) : St := ⟨(zfz p0 p1 r), ⟨[], []⟩, []⟩
noncomputable def z5y (p0 p1 : Int) (cb : Bool) : TM := [(0, (xi p0)), (1, (xi p1)), (4, (xi 0)), (7, (xb false)), (5, (xi (p0.tmod p1))), (12, (xb cb))]
theorem zBk (k : Nat) (p0 p1 : Int) (cb : Bool) (r : zt1) (h : zDc k p0 p1 cb = some r) : ev TE 36 (cnd TE 36 12) ⟨(z5y p0 p1 cb), ⟨[], []⟩, []⟩ = some (.nor, zTc p0 p1 cb r) := by
 unfold zDc at h
 refine zn h (fun h201 g1 => ?_) (fun h201 g1 => ?_)
 ·subst h201
  exact zx (g := fun r => (Ex.nor, zTc p0 p1 true r)) g1 (zqe [] [] ob0 (by kernel_rfl))
 ·subst h201
  exact zx (g := fun r => (Ex.nor, zTc p0 p1 false r)) g1 (zqe [] [] ob0 (by kernel_rfl))
theorem z3e (k : Nat) (p0 p1 r : Int) (h : zjb k p0 p1 = some r) : zA TE (ev TE) 36 [(di p0), (di p1)] = some (zwf r) := by
 unfold zjb at h
 refine zn h (fun h1 g1 => ?_) (fun h1 g1 => ?_)
 ·exact zB (g := zwf) g1 (zqc [(36, 1, 1, .q (xb true))] [] (ob (o_b h1) ob0) (by kernel_rfl))
 ·refine zn g1 (fun h2 g2 => ?_) (fun h2 g2 => ?_)
  ·cases g2
  ·refine zk g2 (fun v3 h4 g3 => ?_)
   exact zB (g := zwf) g3 (zqc [(36, 1, 1, .q (xb false)), (36, 3, 2, .q (xi (p0.tmod p1)))] [(36, 2000012, (.nor, zTc p0 p1 (decide ((p0.tmod p1) < 0)) v3))] (ob (o_b h1) (ob (z7y (x := p0) .i64 h2) (ob (zBk k p0 p1 (decide ((p0.tmod p1) < 0)) _ h4) ob0))) (by kernel_rfl))
noncomputable def zrz (p0 : zd) (p1 : (SL (SL zi))) (s6_23 : zt5) (s1_10 s1_11 s6_13 s6_14 s6_15 s6_16 : Int) (r : Bool) : TM := [(0, (.d (.agg (za p0)))), (1, (.d (dl (eL zh) p1.1 p1.2))), (zsp 2), (4, (.d (.sl [] .nil))), (5, (xi 0)), (6, (xb false)), (7, (.row 0 18 s6_23.length)), (8, (xi s1_10)), (9, (xi s1_11)), (22, (xb true)), (10, (xi s6_13)), (11, (xi s6_14)), (12, (xi s6_15)), (13, (xi s6_16)), (31, (xb true)), (zsp 14), (62, (xb r))]
noncomputable def zBb (p0 : zd) (p1 : (SL (SL zi))) (s1_10 s1_11 s6_13 s6_14 s6_15 s6_16 : Int) (s6_23 : zt5) (v806 : zi) (r : Bool) : St := ⟨(zrz p0 p1 s6_23 s1_10 s1_11 s6_13 s6_14 s6_15 s6_16 r), ⟨[(zc 2 (za p0)), (18, (rowO false 1 eI s6_23 true)), (14, (.cells [(xi v806.Shelf), (xi v806.Many)]))], []⟩, []⟩
noncomputable def zBz (p0 : zd) (p1 : (SL (SL zi))) (s6_23 : zt5) (s1_10 s1_11 s6_13 s6_14 s6_15 s6_16 : Int) : TM := [(0, (.d (.agg (za p0)))), (1, (.d (dl (eL zh) p1.1 p1.2))), (zsp 2), (4, (.d (.sl [] .nil))), (5, (xi 0)), (6, (xb false)), (7, (.row 0 18 s6_23.length)), (8, (xi s1_10)), (9, (xi s1_11)), (22, (xb true)), (10, (xi s6_13)), (11, (xi s6_14)), (12, (xi s6_15)), (13, (xi s6_16)), (31, (xb true)), (zsp 14)]
theorem z8e (k : Nat) (p0 : zd) (p1 : (SL (SL zi))) (s1_10 s1_11 s6_13 s6_14 s6_15 s6_16 : Int) (s6_23 : zt5) (v806 : zi) (r : Bool) (h : zIc k p0 p1 s1_10 s1_11 s6_13 s6_14 s6_15 s6_16 s6_23 v806 = some r) : ev TE 37 (rgn TE 37 10) ⟨(zBz p0 p1 s6_23 s1_10 s1_11 s6_13 s6_14 s6_15 s6_16), ⟨[(zc 2 (za p0)), (18, (rowO false 1 eI s6_23 true)), (14, (.cells [(xi v806.Shelf), (xi v806.Many)]))], []⟩, []⟩ = some (.nor, zBb p0 p1 s1_10 s1_11 s6_13 s6_14 s6_15 s6_16 s6_23 v806 r) := by
 unfold zIc at h
 refine zk h (fun v901 h902 g1 => ?_)
 refine zn g1 (fun h903 g2 => ?_) (fun h903 g2 => ?_)
 ·exact zx (g := fun r => (Ex.nor, zBb p0 p1 s1_10 s1_11 s6_13 s6_14 s6_15 s6_16 s6_23 v806 r)) g2 (zqe [(37, 10, 6, .q (xi (p0.Far.1.length : Int))), (37, 10, 8, .c (db v901)), (37, 10, 10, .q (xb true))] [] (ob (zq eI p0.Far.1) (ob (zT k v806.Shelf (w64 (s6_15 + 1)) (w64 ((p0.Far.1.length : Int) - 1)) _ h902) (ob (o_b h903) ob0))) (by kernel_rfl))
 ·refine zn g2 (fun h904 g3 => ?_) (fun h904 g3 => ?_)
  ·exact zx (g := fun r => (Ex.nor, zBb p0 p1 s1_10 s1_11 s6_13 s6_14 s6_15 s6_16 s6_23 v806 r)) g3 (zqe [(37, 10, 6, .q (xi (p0.Far.1.length : Int))), (37, 10, 8, .c (db v901)), (37, 10, 10, .q (xb false)), (37, 10, 15, .q (xb true))] [] (ob (zq eI p0.Far.1) (ob (zT k v806.Shelf (w64 (s6_15 + 1)) (w64 ((p0.Far.1.length : Int) - 1)) _ h902) (ob (o_b h903) (ob (o_b h904) ob0)))) (by kernel_rfl))
  ·exact zx (g := fun r => (Ex.nor, zBb p0 p1 s1_10 s1_11 s6_13 s6_14 s6_15 s6_16 s6_23 v806 r)) g3 (zqe [(37, 10, 6, .q (xi (p0.Far.1.length : Int))), (37, 10, 8, .c (db v901)), (37, 10, 10, .q (xb false)), (37, 10, 15, .q (xb false))] [] (ob (zq eI p0.Far.1) (ob (zT k v806.Shelf (w64 (s6_15 + 1)) (w64 ((p0.Far.1.length : Int) - 1)) _ h902) (ob (o_b h903) (ob (o_b h904) ob0)))) (by kernel_rfl))
noncomputable def zxz (p0 : zd) (p1 : (SL (SL zi))) (s6_23 : zt5) (s1_10 s1_11 s6_13 s6_14 s6_15 s6_16 : Int) : TM := [(0, (.d (.agg (za p0)))), (1, (.d (dl (eL zh) p1.1 p1.2))), (zsp 2), (4, (.d (.sl [] .nil))), (5, (xi 0)), (6, (xb false)), (7, (.row 0 18 s6_23.length)), (8, (xi s1_10)), (9, (xi s1_11)), (22, (xb true)), (10, (xi s6_13)), (11, (xi s6_14)), (12, (xi s6_15)), (13, (xi s6_16))]
noncomputable def zDj (p0 : zd) (p1 : (SL (SL zi))) (s1_10 s1_11 s6_13 s6_14 s6_15 s6_16 : Int) (s6_23 : zt5) : St := ⟨(zxz p0 p1 s6_23 s1_10 s1_11 s6_13 s6_14 s6_15 s6_16), ⟨[(zc 2 (za p0)), (18, (rowO false 1 eI s6_23 true))], []⟩, []⟩
noncomputable def zlz (p0 : zd) (p1 : (SL (SL zi))) (r : (Int × Int × Int × Int × (List Int) × Int × Int)) (s1_10 s1_11 : Int) : TM := [(0, (.d (.agg (za p0)))), (1, (.d (dl (eL zh) p1.1 p1.2))), (zsp 2), (4, (.d (.sl [] .nil))), (5, (xi 0)), (6, (xb false)), (7, (.row 0 18 r.2.2.2.2.1.length)), (8, (xi s1_10)), (9, (xi s1_11)), (22, (xb true)), (10, (xi r.1)), (11, (xi r.2.1)), (12, (xi r.2.2.1)), (13, (xi r.2.2.2.1)), (31, (xb true)), (zsp 14), (62, (xb true))]
noncomputable def zpd (p0 : zd) (p1 : (SL (SL zi))) (s1_10 s1_11 : Int) (r : (Int × Int × Int × Int × (List Int) × Int × Int)) : St := ⟨(zlz p0 p1 r s1_10 s1_11), ⟨[(zc 2 (za p0)), (18, (rowO false 1 eI r.2.2.2.2.1 true)), (14, (.cells [(xi r.2.2.2.2.2.1), (xi r.2.2.2.2.2.2)]))], []⟩, []⟩
noncomputable def ziz (p0 : zd) (p1 : (SL (SL zi))) (r : (Int × Int × Int × Int × (List Int))) (s1_10 s1_11 : Int) : TM := [(0, (.d (.agg (za p0)))), (1, (.d (dl (eL zh) p1.1 p1.2))), (zsp 2), (4, (.d (.sl [] .nil))), (5, (xi 0)), (6, (xb false)), (7, (.row 0 18 r.2.2.2.2.length)), (8, (xi s1_10)), (9, (xi s1_11)), (22, (xb true)), (10, (xi r.1)), (11, (xi r.2.1)), (12, (xi r.2.2.1)), (13, (xi r.2.2.2.1)), (31, (xb false))]
noncomputable def zOb (p0 : zd) (p1 : (SL (SL zi))) (s1_10 s1_11 : Int) (r : (Int × Int × Int × Int × (List Int))) : St := ⟨(ziz p0 p1 r s1_10 s1_11), ⟨[(zc 2 (za p0)), (18, (rowO false 1 eI r.2.2.2.2 true))], []⟩, []⟩
noncomputable def zjj (p0 : zd) (p1 : (SL (SL zi))) (s1_10 s1_11 : Int) : ((Int × Int × Int × Int × (List Int) × Int × Int) ⊕ (Int × Int × Int × Int × (List Int))) → Ex × St := Sum.elim (fun r => (.ret, zpd p0 p1 s1_10 s1_11 r)) (fun r => ((.exit 2), zOb p0 p1 s1_10 s1_11 r))
theorem zkd (k : Nat) (p0 : zd) (p1 : (SL (SL zi))) (s1_10 s1_11 s6_13 s6_14 s6_15 s6_16 : Int) (s6_23 : zt5) (x : (Int × Int × Int × Int × (List Int)) ⊕ ((Int × Int × Int × Int × (List Int) × Int × Int) ⊕ (Int × Int × Int × Int × (List Int)))) (h : zKb k p0 p1 s1_10 s1_11 s6_13 s6_14 s6_15 s6_16 s6_23 = some x) : zG TE 37 (blk TE 37 2) (fun s : (Int × Int × Int × Int × (List Int)) => zDj p0 p1 s1_10 s1_11 s.1 s.2.1 s.2.2.1 s.2.2.2.1 s.2.2.2.2) (zjj p0 p1 s1_10 s1_11) (s6_13, s6_14, s6_15, s6_16, s6_23) x := by
 unfold zKb at h
 refine zk h (fun v801 h802 g1 => ?_)
 refine zn g1 (fun h803 g2 => ?_) (fun h803 g2 => ?_)
 ·refine zk g2 (fun v804 h805 g3 => ?_)
  refine zk g3 (fun v806 h807 g4 => ?_)
  refine zk g4 (fun v808 h809 g5 => ?_)
  refine zn g5 (fun h810 g6 => ?_) (fun h810 g6 => ?_)
  ·subst h810
   exact zqo [(37, 7, 3, .q (.d (.pin [(dl zh v801.1 v801.2)]))), (37, 7, 5, .q (xi (v801.1.length : Int))), (37, 7, 6, .q (xb true)), (37, 9, 2, .q (.d (.pin [(dl zh v804.1 v804.2)]))), (37, 9, 5, .q (.d (.pin [(di v806.Shelf), (di v806.Many)])))] [(37, 1000010, (.nor, zBb p0 p1 s1_10 s1_11 s6_13 s6_14 s6_15 s6_16 s6_23 v806 true))] g6 (ob (o_ia (e := (eL zh)) 1 h802 rfl) (ob (zq zh v801.1) (ob (o_b h803) (ob (o_ia (e := (eL zh)) 1 h805 rfl) (ob (o_ia (e := zh) 2 h807 rfl) (ob (z8e k p0 p1 s1_10 s1_11 s6_13 s6_14 s6_15 s6_16 s6_23 v806 _ h809) ob0)))))) (by kernel_rfl)
  ·subst h810
   refine zk g6 (fun v811 h812 g7 => ?_)
   refine zk g7 (fun v813 h814 g8 => ?_)
   refine zk g8 (fun v815 h816 g9 => ?_)
   exact zqn ((w64 (s6_13 + v806.Many)), (if v815 > s6_14 then v815 else s6_14), v806.Shelf, (w64 (s6_16 + 1)), (s6_23.set v806.Shelf.toNat (w64 (v811 + v806.Many)))) [18] [(37, 7, 3, .q (.d (.pin [(dl zh v801.1 v801.2)]))), (37, 7, 5, .q (xi (v801.1.length : Int))), (37, 7, 6, .q (xb true)), (37, 9, 2, .q (.d (.pin [(dl zh v804.1 v804.2)]))), (37, 9, 5, .q (.d (.pin [(di v806.Shelf), (di v806.Many)]))), (37, 12, 3, .q (.rp 0 18 s6_23.length v806.Shelf.toNat 0)), (37, 12, 4, .q (xi v811)), (37, 12, 8, .q (.rp 0 18 s6_23.length v806.Shelf.toNat 0)), (37, 12, 9, .rs (rowO false 1 eI (s6_23.set v806.Shelf.toNat (w64 (v811 + v806.Many))) true)), (37, 12, 999, .nm [(7, (s6_23.set v806.Shelf.toNat (w64 (v811 + v806.Many))).length)] []), (37, 13, 9, .q (.d (.pin [(di v815)])))] [(37, 1000010, (.nor, zBb p0 p1 s1_10 s1_11 s6_13 s6_14 s6_15 s6_16 s6_23 v806 false))] g9 (ob (o_ia (e := (eL zh)) 1 h802 rfl) (ob (zq zh v801.1) (ob (o_b h803) (ob (o_ia (e := (eL zh)) 1 h805 rfl) (ob (o_ia (e := zh) 2 h807 rfl) (ob (z8e k p0 p1 s1_10 s1_11 s6_13 s6_14 s6_15 s6_16 s6_23 v806 _ h809) (ob (zqa 22 8 0 18 v806.Shelf false 1 eI s6_23 true (by kernel_rfl) (by kernel_rfl) h812) (ob (zql 3 (1, false) 0 18 0 v806.Shelf (xi v811) false 1 eI s6_23 true (by kernel_rfl) h812 (by kernel_rfl)) (ob (zqa 22 8 0 18 v806.Shelf false 1 eI s6_23 true (by kernel_rfl) (by kernel_rfl) h814) (ob (o_rs (b := false) (z := 1) (e := eI) (l := s6_23) (o := 0) (n := 1) (ds := [(di (w64 (v811 + v806.Many)))]) (i := v806.Shelf) (y' := (w64 (v811 + v806.Many))) h814 (Nat.le_of_ble_eq_true rfl) rfl) (ob (show s6_23.length = (s6_23.set v806.Shelf.toNat (w64 (v811 + v806.Many))).length by simp) (ob (o_ia (e := eI) 1 h816 rfl) (ob (zmf false 1 eI (s6_23.set v806.Shelf.toNat (w64 (v811 + v806.Many))) true) ob0))))))))))))) (by kernel_rfl)
 ·exact zqo [(37, 7, 3, .q (.d (.pin [(dl zh v801.1 v801.2)]))), (37, 7, 5, .q (xi (v801.1.length : Int))), (37, 7, 6, .q (xb false))] [] g2 (ob (o_ia (e := (eL zh)) 1 h802 rfl) (ob (zq zh v801.1) (ob (o_b h803) ob0))) (by kernel_rfl)
noncomputable def zFz (p0 : zd) (p1 : (SL (SL zi))) (v605 : (Int × Int × Int × Int × (List Int))) (s1_10 s1_11 : Int) (r : Bool) : TM := [(0, (.d (.agg (za p0)))), (1, (.d (dl (eL zh) p1.1 p1.2))), (zsp 2), (4, (.d (.sl [] .nil))), (5, (xi 0)), (6, (xb false)), (7, (.row 0 18 v605.2.2.2.2.length)), (8, (xi s1_10)), (9, (xi s1_11)), (22, (xb true)), (10, (xi v605.1)), (11, (xi v605.2.1)), (12, (xi v605.2.2.1)), (13, (xi v605.2.2.2.1)), (31, (xb false)), (93, (xb r))]
noncomputable def zWb (p0 : zd) (p1 : (SL (SL zi))) (s1_10 s1_11 : Int) (v605 : (Int × Int × Int × Int × (List Int))) (r : Bool) : St := ⟨(zFz p0 p1 v605 s1_10 s1_11 r), ⟨[(zc 2 (za p0)), (18, (rowO false 1 eI v605.2.2.2.2 true))], []⟩, []⟩
noncomputable def zEy (p0 : zd) (p1 : (SL (SL zi))) (v605 : (Int × Int × Int × Int × (List Int))) (s1_10 s1_11 : Int) : TM := [(0, (.d (.agg (za p0)))), (1, (.d (dl (eL zh) p1.1 p1.2))), (zsp 2), (4, (.d (.sl [] .nil))), (5, (xi 0)), (6, (xb false)), (7, (.row 0 18 v605.2.2.2.2.length)), (8, (xi s1_10)), (9, (xi s1_11)), (22, (xb true)), (10, (xi v605.1)), (11, (xi v605.2.1)), (12, (xi v605.2.2.1)), (13, (xi v605.2.2.2.1)), (31, (xb false))]
theorem zaf (k : Nat) (p0 : zd) (p1 : (SL (SL zi))) (s1_10 s1_11 : Int) (v605 : (Int × Int × Int × Int × (List Int))) (r : Bool) (h : zMc k p0 p1 s1_10 s1_11 v605 = some r) : ev TE 37 (rgn TE 37 14) ⟨(zEy p0 p1 v605 s1_10 s1_11), ⟨[(zc 2 (za p0)), (18, (rowO false 1 eI v605.2.2.2.2 true))], []⟩, []⟩ = some (.nor, zWb p0 p1 s1_10 s1_11 v605 r) := by
 unfold zMc at h
 refine zn h (fun h1001 g1 => ?_) (fun h1001 g1 => ?_)
 ·exact zx (g := fun r => (Ex.nor, zWb p0 p1 s1_10 s1_11 v605 r)) g1 (zqe [(37, 14, 2, .q (xb true))] [] (ob (o_b h1001) ob0) (by kernel_rfl))
 ·exact zx (g := fun r => (Ex.nor, zWb p0 p1 s1_10 s1_11 v605 r)) g1 (zqe [(37, 14, 2, .q (xb false))] [] (ob (o_b h1001) ob0) (by kernel_rfl))
noncomputable def zcz (p0 : zd) (p1 : (SL (SL zi))) (s1_18 : zt5) (s1_10 s1_11 : Int) : TM := [(0, (.d (.agg (za p0)))), (1, (.d (dl (eL zh) p1.1 p1.2))), (zsp 2), (4, (.d (.sl [] .nil))), (5, (xi 0)), (6, (xb false)), (7, (.row 0 18 s1_18.length)), (8, (xi s1_10)), (9, (xi s1_11))]
noncomputable def zlj (p0 : zd) (p1 : (SL (SL zi))) (s1_10 s1_11 : Int) (s1_18 : zt5) : St := ⟨(zcz p0 p1 s1_18 s1_10 s1_11), ⟨[(zc 2 (za p0)), (18, (rowO false 1 eI s1_18 true))], []⟩, []⟩
noncomputable def zry (p0 : zd) (p1 : (SL (SL zi))) (r : (Int × Int × Int × Int × Int × Int × (List Int) × Int × Int)) : TM := [(0, (.d (.agg (za p0)))), (1, (.d (dl (eL zh) p1.1 p1.2))), (zsp 2), (4, (.d (.sl [] .nil))), (5, (xi 0)), (6, (xb false)), (7, (.row 0 18 r.2.2.2.2.2.2.1.length)), (8, (xi r.1)), (9, (xi r.2.1)), (22, (xb true)), (10, (xi r.2.2.1)), (11, (xi r.2.2.2.1)), (12, (xi r.2.2.2.2.1)), (13, (xi r.2.2.2.2.2.1)), (31, (xb true)), (zsp 14), (62, (xb true))]
noncomputable def zid (p0 : zd) (p1 : (SL (SL zi))) (r : (Int × Int × Int × Int × Int × Int × (List Int) × Int × Int)) : St := ⟨(zry p0 p1 r), ⟨[(zc 2 (za p0)), (18, (rowO false 1 eI r.2.2.2.2.2.2.1 true)), (14, (.cells [(xi r.2.2.2.2.2.2.2.1), (xi r.2.2.2.2.2.2.2.2)]))], []⟩, []⟩
noncomputable def zez (p0 : zd) (p1 : (SL (SL zi))) (r : (Int × Int × Int × Int × Int × Int × (List Int))) : TM := [(0, (.d (.agg (za p0)))), (1, (.d (dl (eL zh) p1.1 p1.2))), (zsp 2), (4, (.d (.sl [] .nil))), (5, (xi 0)), (6, (xb false)), (7, (.row 0 18 r.2.2.2.2.2.2.length)), (8, (xi r.1)), (9, (xi r.2.1)), (22, (xb true)), (10, (xi r.2.2.1)), (11, (xi r.2.2.2.1)), (12, (xi r.2.2.2.2.1)), (13, (xi r.2.2.2.2.2.1)), (31, (xb false)), (93, (xb true))]
noncomputable def znd (p0 : zd) (p1 : (SL (SL zi))) (r : (Int × Int × Int × Int × Int × Int × (List Int))) : St := ⟨(zez p0 p1 r), ⟨[(zc 2 (za p0)), (18, (rowO false 1 eI r.2.2.2.2.2.2 true))], []⟩, []⟩
noncomputable def zTy (p0 : zd) (p1 : (SL (SL zi))) (r : zt10) : TM := [(0, (.d (.agg (za p0)))), (1, (.d (dl (eL zh) p1.1 p1.2))), (zsp 2), (4, (.d (.sl [] .nil))), (5, (xi 0)), (6, (xb false)), (7, (.row 0 18 r.2.2.length)), (8, (xi r.1)), (9, (xi r.2.1)), (22, (xb false))]
noncomputable def zld (p0 : zd) (p1 : (SL (SL zi))) (r : zt10) : St := ⟨(zTy p0 p1 r), ⟨[(zc 2 (za p0)), (18, (rowO false 1 eI r.2.2 true))], []⟩, []⟩
noncomputable def zfj (p0 : zd) (p1 : (SL (SL zi))) : ((Int × Int × Int × Int × Int × Int × (List Int) × Int × Int) ⊕ ((Int × Int × Int × Int × Int × Int × (List Int)) ⊕ (Int × Int × (List Int)))) → Ex × St := Sum.elim (fun r => (.ret, zid p0 p1 r)) (Sum.elim (fun r => (.ret, znd p0 p1 r)) (fun r => ((.exit 0), zld p0 p1 r)))
theorem zfd (k : Nat) (p0 : zd) (p1 : (SL (SL zi))) (s1_10 s1_11 : Int) (s1_18 : zt5) (x : (Int × Int × (List Int)) ⊕ ((Int × Int × Int × Int × Int × Int × (List Int) × Int × Int) ⊕ ((Int × Int × Int × Int × Int × Int × (List Int)) ⊕ (Int × Int × (List Int))))) (h : zbc k p0 p1 s1_10 s1_11 s1_18 = some x) : zG TE 37 (blk TE 37 0) (fun s : (Int × Int × (List Int)) => zlj p0 p1 s.1 s.2.1 s.2.2) (zfj p0 p1) (s1_10, s1_11, s1_18) x := by
 unfold zbc at h
 refine zn h (fun h601 g1 => ?_) (fun h601 g1 => ?_)
 ·refine zk g1 (fun v602 h603 g2 => ?_)
  refine zdc g2 (fun v605 hh g3_0 => ?_) (fun v605 hh g3_0 => ?_)
  ·subst hh
   exact zqo [(37, 3, 2, .q (xi (p1.1.length : Int))), (37, 3, 3, .q (xb true))] [(37, 2, (.ret, zpd p0 p1 s1_10 s1_11 v605))] g3_0 (ob (zq (eL zh) p1.1) (ob (o_b h601) (ob (zy (id := 2) (r' := (.ret, zpd p0 p1 s1_10 s1_11 v605)) (z8v (zkd k p0 p1 s1_10 s1_11) k _ _ h603) rfl) ob0))) (by kernel_rfl)
  ·subst hh
   refine zk g3_0 (fun v606 h607 g4 => ?_)
   refine zn g4 (fun h608 g5 => ?_) (fun h608 g5 => ?_)
   ·subst h608
    exact zqo [(37, 3, 2, .q (xi (p1.1.length : Int))), (37, 3, 3, .q (xb true))] [(37, 2, (.nor, zOb p0 p1 s1_10 s1_11 v605)), (37, 1000014, (.nor, zWb p0 p1 s1_10 s1_11 v605 true))] g5 (ob (zq (eL zh) p1.1) (ob (o_b h601) (ob (zy (id := 2) (r' := (.nor, zOb p0 p1 s1_10 s1_11 v605)) (z8v (zkd k p0 p1 s1_10 s1_11) k _ _ h603) rfl) (ob (zaf k p0 p1 s1_10 s1_11 v605 _ h607) ob0)))) (by kernel_rfl)
   ·subst h608
    exact zqn ((w64 (s1_10 + (w64 (2 * v605.2.1)))), (w64 (s1_11 + 1)), v605.2.2.2.2) [18] [(37, 3, 2, .q (xi (p1.1.length : Int))), (37, 3, 3, .q (xb true))] [(37, 2, (.nor, zOb p0 p1 s1_10 s1_11 v605)), (37, 1000014, (.nor, zWb p0 p1 s1_10 s1_11 v605 false))] g5 (ob (zq (eL zh) p1.1) (ob (o_b h601) (ob (zy (id := 2) (r' := (.nor, zOb p0 p1 s1_10 s1_11 v605)) (z8v (zkd k p0 p1 s1_10 s1_11) k _ _ h603) rfl) (ob (zaf k p0 p1 s1_10 s1_11 v605 _ h607) (ob (zmf false 1 eI v605.2.2.2.2 true) ob0))))) (by kernel_rfl)
 ·exact zqo [(37, 3, 2, .q (xi (p1.1.length : Int))), (37, 3, 3, .q (xb false))] [] g1 (ob (zq (eL zh) p1.1) (ob (o_b h601) ob0)) (by kernel_rfl)
theorem zkg (k : Nat) (p0 : zd) (p1 : (SL (SL zi))) (r : zt11) (h : z9b k p0 p1 = some r) : zA TE (ev TE) 37 [(.agg (za p0)), (dl (eL zh) p1.1 p1.2)] = some (zQc r) := by
 unfold z9b at h
 refine zN h (fun h1 g1 => ?_)
 refine zk g1 (fun v2 h3 g2 => ?_)
 have y1 := fun (d : D) (P : List Prop) (V : Ovs) (C : Cuts) (q : All P) h => (zqc ([(37, 1, 2, .q (xi (p0.Far.1.length : Int))), (37, 1, 3, .ms (List.replicate (p0.Far.1.length : Int).toNat 0 : List Int).length ((List.replicate (p0.Far.1.length : Int).toNat 0 : List Int).map eI))] ++ V) C (ob (zq eI p0.Far.1) (ob (o_ms (z := 0) (n := (p0.Far.1.length : Int)) 0 h1) (ob (by simp : (p0.Far.1.length : Int).toNat = (List.replicate (p0.Far.1.length : Int).toNat 0 : List Int).length) (ob (zao (e := eI) (p0.Far.1.length : Int).toNat 0) q)))) h : zA TE (ev TE) 37 [(.agg (za p0)), (dl (eL zh) p1.1 p1.2)] = some d)
 refine zdc g2 (fun v5 hh g3_0 => ?_) (fun w2_0 hh g3_0 => ?_)
 ·subst hh
  exact zB (g := zQc) g3_0 (y1 _ _ [] [(37, 0, (.ret, zid p0 p1 v5))] (ob (zy (id := 0) (r' := (.ret, zid p0 p1 v5)) (zjp (zfd k p0 p1) k _ _ h3) rfl) ob0) (by kernel_rfl))
 ·subst hh
  refine zdc g3_0 (fun v5 hh g3_1 => ?_) (fun v5 hh g3_1 => ?_)
  ·subst hh
   exact zB (g := zQc) g3_1 (y1 _ _ [] [(37, 0, (.ret, znd p0 p1 v5))] (ob (zy (id := 0) (r' := (.ret, znd p0 p1 v5)) (zjp (zfd k p0 p1) k _ _ h3) rfl) ob0) (by kernel_rfl))
  ·subst hh
   exact zB (g := zQc) g3_1 (zqr [(37, 1, 2, .q (xi (p0.Far.1.length : Int))), (37, 1, 3, .ms (List.replicate (p0.Far.1.length : Int).toNat 0 : List Int).length ((List.replicate (p0.Far.1.length : Int).toNat 0 : List Int).map eI))] [(37, 0, (.nor, zld p0 p1 v5))] [(dl eI v5.2.2 (rcap false v5.2.2)), (di v5.1), (db true)] (ob (zq eI p0.Far.1) (ob (o_ms (z := 0) (n := (p0.Far.1.length : Int)) 0 h1) (ob (by simp : (p0.Far.1.length : Int).toNat = (List.replicate (p0.Far.1.length : Int).toNat 0 : List Int).length) (ob (zao (e := eI) (p0.Far.1.length : Int).toNat 0) (ob (zy (id := 0) (r' := (.nor, zld p0 p1 v5)) (zjp (zfd k p0 p1) k _ _ h3) rfl) (ob (show ztc ⟨[(18, (rowO false 1 eI v5.2.2 true))], []⟩ _ = _ from (o_s1 (x := (.row 0 18 v5.2.2.length)) (zCn false 1 eI v5.2.2 true rfl) (o_s1 (x := (xi v5.1)) rfl (o_s1 (x := (xb true)) rfl o_s0)))) ob0)))))) (by kernel_rfl))
theorem zmm (k : Nat) (p0 : (SL Int)) (p1 r : Int) (h : zhd k p0 p1 = some r) : zA TE (ev TE) 82 [(dl eI p0.1 p0.2), (di p1)] = some (zsf r) := by
 unfold zhd at h
 refine zn h (fun h1 g1 => ?_) (fun h1 g1 => ?_)
 ·exact zB (g := zsf) g1 (zqc [(82, 1, 1, .q (xi (p0.1.length : Int))), (82, 1, 2, .q (xb true))] [] (ob (zq eI p0.1) (ob (o_b h1) ob0)) (by kernel_rfl))
 ·refine zk g1 (fun v2 h3 g2 => ?_)
  refine zk g2 (fun v4 h5 g3 => ?_)
  exact zB (g := zsf) g3 (zqc [(82, 1, 1, .q (xi (p0.1.length : Int))), (82, 1, 2, .q (xb false)), (82, 3, 3, .q (xi (p0.1.length : Int))), (82, 3, 4, .c (di v2)), (82, 3, 5, .q (.d (.pin [(di v4)])))] [] (ob (zq eI p0.1) (ob (o_b h1) (ob (zq eI p0.1) (ob (z3e k p1 (p0.1.length : Int) _ h3) (ob (o_ia (e := eI) 1 h5 rfl) ob0))))) (by kernel_rfl))
noncomputable def zLy (p0 : zd) (p1 : Int) (p2 : (SL Int)) (s23_21 : zt8) (s23_9 s23_10 : Int) (v1 : zl) (s1_12 s23_14 : Int) (r : Bool) : TM := [(0, (.d (.agg (za p0)))), (1, (xi p1)), (2, (.d (dl eI p2.1 p2.2))), (zsp 3), (6, (.d (.sl [] .nil))), (7, (.row 0 7 s23_21.length)), (8, (xi s23_9)), (9, (xi (w64 (s23_10 + 1)))), (10, (.d (dl zh v1.Lines.1 v1.Lines.2))), (11, (xi s1_12)), (25, (xb true)), (12, (xi s23_14)), (34, (xb true)), (49, (xb r))]
noncomputable def zUb (p0 : zd) (p1 : Int) (p2 : (SL Int)) (v1 : zl) (s1_12 s23_9 s23_10 s23_14 : Int) (s23_21 : zt8) (r : Bool) : St := ⟨(zLy p0 p1 p2 s23_21 s23_9 s23_10 v1 s1_12 s23_14 r), ⟨[(zc 3 (za p0)), (7, (rowO true 1 (eL zh) s23_21 true))], []⟩, []⟩
noncomputable def z9w (p0 : zd) (p1 : Int) (p2 : (SL Int)) (s23_21 : zt8) (s23_9 s23_10 : Int) (v1 : zl) (s1_12 s23_14 : Int) : TM := [(0, (.d (.agg (za p0)))), (1, (xi p1)), (2, (.d (dl eI p2.1 p2.2))), (zsp 3), (6, (.d (.sl [] .nil))), (7, (.row 0 7 s23_21.length)), (8, (xi s23_9)), (9, (xi (w64 (s23_10 + 1)))), (10, (.d (dl zh v1.Lines.1 v1.Lines.2))), (11, (xi s1_12)), (25, (xb true)), (12, (xi s23_14)), (34, (xb true))]
theorem z5e (k : Nat) (p0 : zd) (p1 : Int) (p2 : (SL Int)) (v1 : zl) (s1_12 s23_9 s23_10 s23_14 : Int) (s23_21 : zt8) (r : Bool) (h : zfc k p0 p1 p2 v1 s1_12 s23_9 s23_10 s23_14 s23_21 = some r) : ev TE 38 (rgn TE 38 11) ⟨(z9w p0 p1 p2 s23_21 s23_9 s23_10 v1 s1_12 s23_14), ⟨[(zc 3 (za p0)), (7, (rowO true 1 (eL zh) s23_21 true))], []⟩, []⟩ = some (.nor, zUb p0 p1 p2 v1 s1_12 s23_9 s23_10 s23_14 s23_21 r) := by
 unfold zfc at h
 refine zn h (fun h2901 g1 => ?_) (fun h2901 g1 => ?_)
 ·exact zx (g := fun r => (Ex.nor, zUb p0 p1 p2 v1 s1_12 s23_9 s23_10 s23_14 s23_21 r)) g1 (zqe [(38, 11, 4, .q (xb true))] [] (ob (o_b h2901) ob0) (by kernel_rfl))
 ·refine zk g1 (fun v2902 h2903 g2 => ?_)
  refine zk g2 (fun v2904 h2905 g3 => ?_)
  exact zx (g := fun r => (Ex.nor, zUb p0 p1 p2 v1 s1_12 s23_9 s23_10 s23_14 s23_21 r)) g3 (zqe [(38, 11, 4, .q (xb false)), (38, 11, 7, .c (di v2902)), (38, 11, 8, .c (di v2904))] [] (ob (o_b h2901) (ob (zmm k p2 (w64 (s23_10 + 1)) _ h2903) (ob (z3e k v2902 4 _ h2905) ob0))) (by kernel_rfl))
noncomputable def zly (p0 : zd) (p1 : Int) (p2 : (SL Int)) (r : zt18) (s23_10 : Int) (v1 : zl) (s1_12 s23_14 : Int) : TM := [(0, (.d (.agg (za p0)))), (1, (xi p1)), (2, (.d (dl eI p2.1 p2.2))), (zsp 3), (6, (.d (.sl [] .nil))), (7, (.row 0 7 r.2.2.length)), (8, (xi r.1)), (9, (xi (w64 (s23_10 + 1)))), (10, (.d (dl zh v1.Lines.1 v1.Lines.2))), (11, (xi s1_12)), (25, (xb true)), (12, (xi s23_14)), (34, (xb true)), (49, (xb r.2.1))]
noncomputable def zXb (p0 : zd) (p1 : Int) (p2 : (SL Int)) (v1 : zl) (s1_12 s23_9 s23_10 s23_14 : Int) (s23_21 : zt8) (v2804 : Bool) (r : zt18) : St := ⟨(zly p0 p1 p2 r s23_10 v1 s1_12 s23_14), ⟨[(zc 3 (za p0)), (7, (rowO true 1 (eL zh) r.2.2 true))], []⟩, []⟩
theorem z6e (k : Nat) (p0 : zd) (p1 : Int) (p2 : (SL Int)) (v1 : zl) (s1_12 s23_9 s23_10 s23_14 : Int) (s23_21 : zt8) (v2804 : Bool) (r : zt18) (h : zac k p0 p1 p2 v1 s1_12 s23_9 s23_10 s23_14 s23_21 v2804 = some r) : ev TE 38 (cnd TE 38 49) ⟨(z9w p0 p1 p2 s23_21 s23_9 s23_10 v1 s1_12 s23_14 ++ [(49, (xb v2804))]), ⟨[(zc 3 (za p0)), (7, (rowO true 1 (eL zh) s23_21 true))], []⟩, []⟩ = some (.nor, zXb p0 p1 p2 v1 s1_12 s23_9 s23_10 s23_14 s23_21 v2804 r) := by
 unfold zac at h
 refine zn h (fun h3001 g1 => ?_) (fun h3001 g1 => ?_)
 ·subst h3001
  refine zN g1 (fun h3002 g2 => ?_)
  exact zx (g := fun r => (Ex.nor, zXb p0 p1 p2 v1 s1_12 s23_9 s23_10 s23_14 s23_21 true r)) g2 (zqe [(38, 12, 2, .ap (s23_21 ++ [([], Cap.nil)]).length (rowO true 1 (eL zh) (s23_21 ++ [([], Cap.nil)]) true))] [] (ob (o_ap (b := true) (z := 1) (e := (eL zh)) (l := s23_21) (w := true) ([], Cap.nil) (fun _ => rfl) h3002) ob0) (by kernel_rfl))
 ·subst h3001
  exact zx (g := fun r => (Ex.nor, zXb p0 p1 p2 v1 s1_12 s23_9 s23_10 s23_14 s23_21 false r)) g1 (zqe [] [] ob0 (by kernel_rfl))
noncomputable def zkz (p0 : zd) (p1 : Int) (p2 : (SL Int)) (v2806 : zt18) (s23_10 : Int) (v1 : zl) (s1_12 s23_14 : Int) (v2808 : (SL zi)) (r : Bool) : TM := [(0, (.d (.agg (za p0)))), (1, (xi p1)), (2, (.d (dl eI p2.1 p2.2))), (zsp 3), (6, (.d (.sl [] .nil))), (7, (.row 0 7 v2806.2.2.length)), (8, (xi (w64 (v2806.1 + 1)))), (9, (xi (w64 (s23_10 + 1)))), (10, (.d (dl zh v1.Lines.1 v1.Lines.2))), (11, (xi s1_12)), (25, (xb true)), (12, (xi s23_14)), (34, (xb true)), (49, (xb v2806.2.1)), (13, (.d (dl zh v2808.1 v2808.2))), (78, (xb r))]
noncomputable def zYb (p0 : zd) (p1 : Int) (p2 : (SL Int)) (v1 : zl) (s1_12 s23_10 s23_14 : Int) (v2806 : zt18) (v2808 : (SL zi)) (r : Bool) : St := ⟨(zkz p0 p1 p2 v2806 s23_10 v1 s1_12 s23_14 v2808 r), ⟨[(zc 3 (za p0)), (7, (rowO true 1 (eL zh) v2806.2.2 true))], []⟩, []⟩
noncomputable def zbz (p0 : zd) (p1 : Int) (p2 : (SL Int)) (v2806 : zt18) (s23_10 : Int) (v1 : zl) (s1_12 s23_14 : Int) (v2808 : (SL zi)) : TM := [(0, (.d (.agg (za p0)))), (1, (xi p1)), (2, (.d (dl eI p2.1 p2.2))), (zsp 3), (6, (.d (.sl [] .nil))), (7, (.row 0 7 v2806.2.2.length)), (8, (xi (w64 (v2806.1 + 1)))), (9, (xi (w64 (s23_10 + 1)))), (10, (.d (dl zh v1.Lines.1 v1.Lines.2))), (11, (xi s1_12)), (25, (xb true)), (12, (xi s23_14)), (34, (xb true)), (49, (xb v2806.2.1)), (13, (.d (dl zh v2808.1 v2808.2)))]
theorem z9e (k : Nat) (p0 : zd) (p1 : Int) (p2 : (SL Int)) (v1 : zl) (s1_12 s23_10 s23_14 : Int) (v2806 : zt18) (v2808 : (SL zi)) (r : Bool) (h : zNb k p0 p1 p2 v1 s1_12 s23_10 s23_14 v2806 v2808 = some r) : ev TE 38 (rgn TE 38 15) ⟨(zbz p0 p1 p2 v2806 s23_10 v1 s1_12 s23_14 v2808), ⟨[(zc 3 (za p0)), (7, (rowO true 1 (eL zh) v2806.2.2 true))], []⟩, []⟩ = some (.nor, zYb p0 p1 p2 v1 s1_12 s23_10 s23_14 v2806 v2808 r) := by
 unfold zNb at h
 refine zn h (fun h3101 g1 => ?_) (fun h3101 g1 => ?_)
 ·refine zk g1 (fun v3102 h3103 g2 => ?_)
  refine zk g2 (fun v3104 h3105 g3 => ?_)
  exact zx (g := fun r => (Ex.nor, zYb p0 p1 p2 v1 s1_12 s23_10 s23_14 v2806 v2808 r)) g3 (zqe [(38, 15, 1, .q (xi (v2808.1.length : Int))), (38, 15, 3, .q (xb true)), (38, 15, 6, .q (xi (v2808.1.length : Int))), (38, 15, 8, .q (.d (.pin [(di v3102.Shelf), (di v3102.Many)]))), (38, 15, 13, .q (.d (.pin [(di v3104.Shelf), (di v3104.Many)])))] [] (ob (zq zh v2808.1) (ob (o_b h3101) (ob (zq zh v2808.1) (ob (o_ia (e := zh) 2 h3103 rfl) (ob (o_ia (e := zh) 2 h3105 rfl) ob0))))) (by kernel_rfl))
 ·exact zx (g := fun r => (Ex.nor, zYb p0 p1 p2 v1 s1_12 s23_10 s23_14 v2806 v2808 r)) g1 (zqe [(38, 15, 1, .q (xi (v2808.1.length : Int))), (38, 15, 3, .q (xb false))] [] (ob (zq zh v2808.1) (ob (o_b h3101) ob0)) (by kernel_rfl))
noncomputable def zzz (p0 : zd) (p1 : Int) (p2 : (SL Int)) (s23_21 : zt8) (s23_9 s23_10 : Int) (v1 : zl) (s1_12 s23_14 : Int) : TM := [(0, (.d (.agg (za p0)))), (1, (xi p1)), (2, (.d (dl eI p2.1 p2.2))), (zsp 3), (6, (.d (.sl [] .nil))), (7, (.row 0 7 s23_21.length)), (8, (xi s23_9)), (9, (xi s23_10)), (10, (.d (dl zh v1.Lines.1 v1.Lines.2))), (11, (xi s1_12)), (25, (xb true)), (12, (xi s23_14))]
noncomputable def zgj (p0 : zd) (p1 : Int) (p2 : (SL Int)) (v1 : zl) (s1_12 s23_9 s23_10 s23_14 : Int) (s23_21 : zt8) : St := ⟨(zzz p0 p1 p2 s23_21 s23_9 s23_10 v1 s1_12 s23_14), ⟨[(zc 3 (za p0)), (7, (rowO true 1 (eL zh) s23_21 true))], []⟩, []⟩
noncomputable def zuy (p0 : zd) (p1 : Int) (p2 : (SL Int)) (r : (Int × Int × Int × (List (SL zi)))) (v1 : zl) (s1_12 : Int) : TM := [(0, (.d (.agg (za p0)))), (1, (xi p1)), (2, (.d (dl eI p2.1 p2.2))), (zsp 3), (6, (.d (.sl [] .nil))), (7, (.row 0 7 r.2.2.2.length)), (8, (xi r.1)), (9, (xi r.2.1)), (10, (.d (dl zh v1.Lines.1 v1.Lines.2))), (11, (xi s1_12)), (25, (xb true)), (12, (xi r.2.2.1)), (34, (xb false))]
noncomputable def zjd (p0 : zd) (p1 : Int) (p2 : (SL Int)) (v1 : zl) (s1_12 : Int) (r : (Int × Int × Int × (List (SL zi)))) : St := ⟨(zuy p0 p1 p2 r v1 s1_12), ⟨[(zc 3 (za p0)), (7, (rowO true 1 (eL zh) r.2.2.2 true))], []⟩, []⟩
noncomputable def zEj (p0 : zd) (p1 : Int) (p2 : (SL Int)) (v1 : zl) (s1_12 : Int) : (Int × Int × Int × (List (SL zi))) → Ex × St := fun r => ((.exit 2), zjd p0 p1 p2 v1 s1_12 r)
theorem z4i (k : Nat) (p0 : zd) (p1 : Int) (p2 : (SL Int)) (v1 : zl) (s1_12 s23_9 s23_10 s23_14 : Int) (s23_21 : zt8) (x : (Int × Int × Int × (List (SL zi))) ⊕ (Int × Int × Int × (List (SL zi)))) (h : ztb k p0 p1 p2 v1 s1_12 s23_9 s23_10 s23_14 s23_21 = some x) : zG TE 38 (blk TE 38 2) (fun s : (Int × Int × Int × (List (SL zi))) => zgj p0 p1 p2 v1 s1_12 s.1 s.2.1 s.2.2.1 s.2.2.2) (zEj p0 p1 p2 v1 s1_12) (s23_9, s23_10, s23_14, s23_21) x := by
 unfold ztb at h
 refine zk h (fun v2801 h2802 g1 => ?_)
 refine zn g1 (fun h2803 g2 => ?_) (fun h2803 g2 => ?_)
 ·refine zk g2 (fun v2804 h2805 g3 => ?_)
  refine zk g3 (fun v2806 h2807 g4 => ?_)
  refine zk g4 (fun v2808 h2809 g5 => ?_)
  refine zk g5 (fun v2810 h2811 g6 => ?_)
  refine zn g6 (fun h2812 g7 => ?_) (fun h2812 g7 => ?_)
  ·subst h2812
   refine zN g7 (fun h2813 g8 => ?_)
   refine zN g8 (fun h2814 g9 => ?_)
   refine zk g9 (fun v2815 h2816 g10 => ?_)
   refine zk g10 (fun v2817 h2818 g11 => ?_)
   refine zk g11 (fun v2819 h2820 g12 => ?_)
   refine zN g12 (fun h2821 g13 => ?_)
   refine zk g13 (fun v2822 h2823 g14 => ?_)
   exact zqn ((w64 (v2806.1 + 1)), (w64 (s23_10 + 1)), (w64 (s23_14 + 1)), (v2806.2.2.set (w64 ((v2806.2.2.length : Int) - 1)).toNat (((v2808.1.take (w64 ((v2808.1.length : Int) - 1)).toNat) ++ [v2819]), (rcap false ((v2808.1.take (w64 ((v2808.1.length : Int) - 1)).toNat) ++ [v2819]))))) [7] [(38, 8, 3, .q (.d (.pin [(di v2801.Shelf), (di v2801.Many)]))), (38, 8, 6, .q (xb true)), (38, 14, 2, .q (xi (v2806.2.2.length : Int))), (38, 14, 4, .q (.rp 0 7 v2806.2.2.length (w64 ((v2806.2.2.length : Int) - 1)).toNat 0)), (38, 14, 5, .q (.d (dl zh v2808.1 v2808.2))), (38, 16, 3, .q (xi (v2808.1.length : Int))), (38, 16, 5, .q (.d (dl zh (v2808.1.take (w64 ((v2808.1.length : Int) - 1)).toNat) (pcap v2808.2 ((w64 ((v2808.1.length : Int) - 1)) == (v2808.1.length : Int)))))), (38, 16, 6, .ns ((v2808.1.take (w64 ((v2808.1.length : Int) - 1)).toNat).map zh) (v2808.1.take (w64 ((v2808.1.length : Int) - 1)).toNat).length), (38, 16, 9, .q (.d (.pin [(di v2815.Shelf), (di v2815.Many)]))), (38, 16, 14, .q (xi (v2808.1.length : Int))), (38, 16, 16, .q (.d (.pin [(di v2817.Shelf), (di v2817.Many)]))), (38, 16, 20, .c (.agg [(di v2819.Shelf), (di v2819.Many)])), (38, 16, 22, .ap ((v2808.1.take (w64 ((v2808.1.length : Int) - 1)).toNat) ++ [v2819]).length (rowO false 2 zh ((v2808.1.take (w64 ((v2808.1.length : Int) - 1)).toNat) ++ [v2819]) true)), (38, 16, 23, .fz (dl zh ((v2808.1.take (w64 ((v2808.1.length : Int) - 1)).toNat) ++ [v2819]) (rcap false ((v2808.1.take (w64 ((v2808.1.length : Int) - 1)).toNat) ++ [v2819]))) (rowO false 2 zh ((v2808.1.take (w64 ((v2808.1.length : Int) - 1)).toNat) ++ [v2819]) false)), (38, 18, 2, .q (xi (v2806.2.2.length : Int))), (38, 18, 5, .q (.rp 0 7 v2806.2.2.length (w64 ((v2806.2.2.length : Int) - 1)).toNat 0)), (38, 18, 6, .rs (rowO true 1 (eL zh) (v2806.2.2.set (w64 ((v2806.2.2.length : Int) - 1)).toNat (((v2808.1.take (w64 ((v2808.1.length : Int) - 1)).toNat) ++ [v2819]), (rcap false ((v2808.1.take (w64 ((v2808.1.length : Int) - 1)).toNat) ++ [v2819])))) true)), (38, 18, 999, .nm [(7, (v2806.2.2.set (w64 ((v2806.2.2.length : Int) - 1)).toNat (((v2808.1.take (w64 ((v2808.1.length : Int) - 1)).toNat) ++ [v2819]), (rcap false ((v2808.1.take (w64 ((v2808.1.length : Int) - 1)).toNat) ++ [v2819])))).length)] [])] [(38, 1000011, (.nor, zUb p0 p1 p2 v1 s1_12 s23_9 s23_10 s23_14 s23_21 v2804)), (38, 2000049, (.nor, zXb p0 p1 p2 v1 s1_12 s23_9 s23_10 s23_14 s23_21 v2804 v2806)), (38, 1000015, (.nor, zYb p0 p1 p2 v1 s1_12 s23_10 s23_14 v2806 v2808 true))] g14 (ob (o_ia (e := zh) 2 h2802 rfl) (ob (o_b h2803) (ob (z5e k p0 p1 p2 v1 s1_12 s23_9 s23_10 s23_14 s23_21 _ h2805) (ob (z6e k p0 p1 p2 v1 s1_12 s23_9 s23_10 s23_14 s23_21 v2804 _ h2807) (ob (zwe true 1 (eL zh) v2806.2.2 true) (ob (zqa 29 24 0 7 (w64 ((v2806.2.2.length : Int) - 1)) true 1 (eL zh) v2806.2.2 true (by kernel_rfl) (by kernel_rfl) h2809) (ob (zql 50 (1, false) 0 7 0 (w64 ((v2806.2.2.length : Int) - 1)) (.d (dl zh v2808.1 v2808.2)) true 1 (eL zh) v2806.2.2 true (by kernel_rfl) h2809 (by kernel_rfl)) (ob (z9e k p0 p1 p2 v1 s1_12 s23_10 s23_14 v2806 v2808 _ h2811) (ob (zq zh v2808.1) (ob (z8x (e := zh) (z := 2) (n := (w64 ((v2808.1.length : Int) - 1))) v2808.1 v2808.2 h2813) (ob (zpu (v2808.1.take (w64 ((v2808.1.length : Int) - 1)).toNat) zh) (ob (o_ns (P := TE.P) (φ := fun _ _ => none) (T := 50) (q := (2, [(di 0), (di 0)])) (c := (pcap v2808.2 ((w64 ((v2808.1.length : Int) - 1)) == (v2808.1.length : Int)))) (e := zh) (v2808.1.take (w64 ((v2808.1.length : Int) - 1)).toNat) (by kernel_rfl) (fun _ => rfl) h2814) (ob (rfl : (([] : List (List D)).isEmpty || !((v2808.1.take (w64 ((v2808.1.length : Int) - 1)).toNat).map zh).isEmpty) = true) (ob (o_ia (e := zh) 2 h2816 rfl) (ob (zq zh v2808.1) (ob (o_ia (e := zh) 2 h2818 rfl) (ob (zab k v2815.Shelf (w64 (v2817.Many + 1)) _ h2820) (ob (o_ap (b := false) (z := 2) (e := zh) (l := (v2808.1.take (w64 ((v2808.1.length : Int) - 1)).toNat)) (w := true) v2819 (fun _ => rfl) h2821) (ob (o_cr false 2 zh ((v2808.1.take (w64 ((v2808.1.length : Int) - 1)).toNat) ++ [v2819]) true 0 85) (ob (zwe true 1 (eL zh) v2806.2.2 true) (ob (zqa 29 24 0 7 (w64 ((v2806.2.2.length : Int) - 1)) true 1 (eL zh) v2806.2.2 true (by kernel_rfl) (by kernel_rfl) h2823) (ob (o_rs (b := true) (z := 1) (e := (eL zh)) (l := v2806.2.2) (o := 0) (n := 1) (ds := [(dl zh ((v2808.1.take (w64 ((v2808.1.length : Int) - 1)).toNat) ++ [v2819]) (rcap false ((v2808.1.take (w64 ((v2808.1.length : Int) - 1)).toNat) ++ [v2819])))]) (i := (w64 ((v2806.2.2.length : Int) - 1))) (y' := (((v2808.1.take (w64 ((v2808.1.length : Int) - 1)).toNat) ++ [v2819]), (rcap false ((v2808.1.take (w64 ((v2808.1.length : Int) - 1)).toNat) ++ [v2819])))) h2823 (Nat.le_of_ble_eq_true rfl) rfl) (ob (show v2806.2.2.length = (v2806.2.2.set (w64 ((v2806.2.2.length : Int) - 1)).toNat (((v2808.1.take (w64 ((v2808.1.length : Int) - 1)).toNat) ++ [v2819]), (rcap false ((v2808.1.take (w64 ((v2808.1.length : Int) - 1)).toNat) ++ [v2819])))).length by simp) (ob (zmf true 1 (eL zh) (v2806.2.2.set (w64 ((v2806.2.2.length : Int) - 1)).toNat (((v2808.1.take (w64 ((v2808.1.length : Int) - 1)).toNat) ++ [v2819]), (rcap false ((v2808.1.take (w64 ((v2808.1.length : Int) - 1)).toNat) ++ [v2819])))) true) ob0)))))))))))))))))))))))) (by kernel_rfl)
  ·subst h2812
   refine zN g7 (fun h2813 g8 => ?_)
   refine zk g8 (fun v2814 h2815 g9 => ?_)
   refine zk g9 (fun v2816 h2817 g10 => ?_)
   refine zN g10 (fun h2818 g11 => ?_)
   refine zk g11 (fun v2819 h2820 g12 => ?_)
   exact zqn ((w64 (v2806.1 + 1)), (w64 (s23_10 + 1)), (w64 (s23_14 + 1)), (v2806.2.2.set (w64 ((v2806.2.2.length : Int) - 1)).toNat ((v2808.1 ++ [v2816]), (rcap false (v2808.1 ++ [v2816]))))) [7] [(38, 8, 3, .q (.d (.pin [(di v2801.Shelf), (di v2801.Many)]))), (38, 8, 6, .q (xb true)), (38, 14, 2, .q (xi (v2806.2.2.length : Int))), (38, 14, 4, .q (.rp 0 7 v2806.2.2.length (w64 ((v2806.2.2.length : Int) - 1)).toNat 0)), (38, 14, 5, .q (.d (dl zh v2808.1 v2808.2))), (38, 17, 2, .ns (v2808.1.map zh) v2808.1.length), (38, 17, 5, .q (.d (.pin [(di v2814.Shelf), (di v2814.Many)]))), (38, 17, 8, .c (.agg [(di v2816.Shelf), (di v2816.Many)])), (38, 17, 10, .ap (v2808.1 ++ [v2816]).length (rowO false 2 zh (v2808.1 ++ [v2816]) true)), (38, 17, 11, .fz (dl zh (v2808.1 ++ [v2816]) (rcap false (v2808.1 ++ [v2816]))) (rowO false 2 zh (v2808.1 ++ [v2816]) false)), (38, 18, 2, .q (xi (v2806.2.2.length : Int))), (38, 18, 5, .q (.rp 0 7 v2806.2.2.length (w64 ((v2806.2.2.length : Int) - 1)).toNat 0)), (38, 18, 6, .rs (rowO true 1 (eL zh) (v2806.2.2.set (w64 ((v2806.2.2.length : Int) - 1)).toNat ((v2808.1 ++ [v2816]), (rcap false (v2808.1 ++ [v2816])))) true)), (38, 18, 999, .nm [(7, (v2806.2.2.set (w64 ((v2806.2.2.length : Int) - 1)).toNat ((v2808.1 ++ [v2816]), (rcap false (v2808.1 ++ [v2816])))).length)] [])] [(38, 1000011, (.nor, zUb p0 p1 p2 v1 s1_12 s23_9 s23_10 s23_14 s23_21 v2804)), (38, 2000049, (.nor, zXb p0 p1 p2 v1 s1_12 s23_9 s23_10 s23_14 s23_21 v2804 v2806)), (38, 1000015, (.nor, zYb p0 p1 p2 v1 s1_12 s23_10 s23_14 v2806 v2808 false))] g12 (ob (o_ia (e := zh) 2 h2802 rfl) (ob (o_b h2803) (ob (z5e k p0 p1 p2 v1 s1_12 s23_9 s23_10 s23_14 s23_21 _ h2805) (ob (z6e k p0 p1 p2 v1 s1_12 s23_9 s23_10 s23_14 s23_21 v2804 _ h2807) (ob (zwe true 1 (eL zh) v2806.2.2 true) (ob (zqa 29 24 0 7 (w64 ((v2806.2.2.length : Int) - 1)) true 1 (eL zh) v2806.2.2 true (by kernel_rfl) (by kernel_rfl) h2809) (ob (zql 50 (1, false) 0 7 0 (w64 ((v2806.2.2.length : Int) - 1)) (.d (dl zh v2808.1 v2808.2)) true 1 (eL zh) v2806.2.2 true (by kernel_rfl) h2809 (by kernel_rfl)) (ob (z9e k p0 p1 p2 v1 s1_12 s23_10 s23_14 v2806 v2808 _ h2811) (ob (zpu v2808.1 zh) (ob (o_ns (P := TE.P) (φ := fun _ _ => none) (T := 50) (q := (2, [(di 0), (di 0)])) (c := v2808.2) (e := zh) v2808.1 (by kernel_rfl) (fun _ => rfl) h2813) (ob (rfl : (([] : List (List D)).isEmpty || !(v2808.1.map zh).isEmpty) = true) (ob (o_ia (e := zh) 2 h2815 rfl) (ob (zab k v2814.Shelf 1 _ h2817) (ob (o_ap (b := false) (z := 2) (e := zh) (l := v2808.1) (w := true) v2816 (fun _ => rfl) h2818) (ob (o_cr false 2 zh (v2808.1 ++ [v2816]) true 0 104) (ob (zwe true 1 (eL zh) v2806.2.2 true) (ob (zqa 29 24 0 7 (w64 ((v2806.2.2.length : Int) - 1)) true 1 (eL zh) v2806.2.2 true (by kernel_rfl) (by kernel_rfl) h2820) (ob (o_rs (b := true) (z := 1) (e := (eL zh)) (l := v2806.2.2) (o := 0) (n := 1) (ds := [(dl zh (v2808.1 ++ [v2816]) (rcap false (v2808.1 ++ [v2816])))]) (i := (w64 ((v2806.2.2.length : Int) - 1))) (y' := ((v2808.1 ++ [v2816]), (rcap false (v2808.1 ++ [v2816])))) h2820 (Nat.le_of_ble_eq_true rfl) rfl) (ob (show v2806.2.2.length = (v2806.2.2.set (w64 ((v2806.2.2.length : Int) - 1)).toNat ((v2808.1 ++ [v2816]), (rcap false (v2808.1 ++ [v2816])))).length by simp) (ob (zmf true 1 (eL zh) (v2806.2.2.set (w64 ((v2806.2.2.length : Int) - 1)).toNat ((v2808.1 ++ [v2816]), (rcap false (v2808.1 ++ [v2816])))) true) ob0)))))))))))))))))))) (by kernel_rfl)
 ·exact zqo [(38, 8, 3, .q (.d (.pin [(di v2801.Shelf), (di v2801.Many)]))), (38, 8, 6, .q (xb false))] [] g2 (ob (o_ia (e := zh) 2 h2802 rfl) (ob (o_b h2803) ob0)) (by kernel_rfl)
noncomputable def z8y (p0 : zd) (p1 : Int) (p2 : (SL Int)) (s1_19 : zt8) (s1_9 s1_10 : Int) (v1 : zl) (s1_12 : Int) : TM := [(0, (.d (.agg (za p0)))), (1, (xi p1)), (2, (.d (dl eI p2.1 p2.2))), (zsp 3), (6, (.d (.sl [] .nil))), (7, (.row 0 7 s1_19.length)), (8, (xi s1_9)), (9, (xi s1_10)), (10, (.d (dl zh v1.Lines.1 v1.Lines.2))), (11, (xi s1_12))]
noncomputable def zQj (p0 : zd) (p1 : Int) (p2 : (SL Int)) (v1 : zl) (s1_9 s1_10 s1_12 : Int) (s1_19 : zt8) : St := ⟨(z8y p0 p1 p2 s1_19 s1_9 s1_10 v1 s1_12), ⟨[(zc 3 (za p0)), (7, (rowO true 1 (eL zh) s1_19 true))], []⟩, []⟩
noncomputable def zuz (p0 : zd) (p1 : Int) (p2 : (SL Int)) (r : (Int × Int × Int × (List (SL zi)))) (v1 : zl) : TM := [(0, (.d (.agg (za p0)))), (1, (xi p1)), (2, (.d (dl eI p2.1 p2.2))), (zsp 3), (6, (.d (.sl [] .nil))), (7, (.row 0 7 r.2.2.2.length)), (8, (xi r.1)), (9, (xi r.2.1)), (10, (.d (dl zh v1.Lines.1 v1.Lines.2))), (11, (xi r.2.2.1)), (25, (xb false))]
noncomputable def zxd (p0 : zd) (p1 : Int) (p2 : (SL Int)) (v1 : zl) (r : (Int × Int × Int × (List (SL zi)))) : St := ⟨(zuz p0 p1 p2 r v1), ⟨[(zc 3 (za p0)), (7, (rowO true 1 (eL zh) r.2.2.2 true))], []⟩, []⟩
noncomputable def zXj (p0 : zd) (p1 : Int) (p2 : (SL Int)) (v1 : zl) : (Int × Int × Int × (List (SL zi))) → Ex × St := fun r => ((.exit 0), zxd p0 p1 p2 v1 r)
theorem zwj (k : Nat) (p0 : zd) (p1 : Int) (p2 : (SL Int)) (v1 : zl) (s1_9 s1_10 s1_12 : Int) (s1_19 : zt8) (x : (Int × Int × Int × (List (SL zi))) ⊕ (Int × Int × Int × (List (SL zi)))) (h : zmc k p0 p1 p2 v1 s1_9 s1_10 s1_12 s1_19 = some x) : zG TE 38 (blk TE 38 0) (fun s : (Int × Int × Int × (List (SL zi))) => zQj p0 p1 p2 v1 s.1 s.2.1 s.2.2.1 s.2.2.2) (zXj p0 p1 p2 v1) (s1_9, s1_10, s1_12, s1_19) x := by
 unfold zmc at h
 refine zn h (fun h2301 g1 => ?_) (fun h2301 g1 => ?_)
 ·refine zk g1 (fun v2302 h2303 g2 => ?_)
  exact zqn (v2302.1, v2302.2.1, (w64 (s1_12 + 1)), v2302.2.2.2) [7] [(38, 5, 2, .q (xi (v1.Lines.1.length : Int))), (38, 5, 3, .q (xb true))] [(38, 2, (.nor, zjd p0 p1 p2 v1 s1_12 v2302))] g2 (ob (zq zh v1.Lines.1) (ob (o_b h2301) (ob (zy (id := 2) (r' := (.nor, zjd p0 p1 p2 v1 s1_12 v2302)) (zDn (z4i k p0 p1 p2 v1 s1_12) k _ _ h2303) rfl) (ob (zmf true 1 (eL zh) v2302.2.2.2 true) ob0)))) (by kernel_rfl)
 ·exact zqo [(38, 5, 2, .q (xi (v1.Lines.1.length : Int))), (38, 5, 3, .q (xb false))] [] g1 (ob (zq zh v1.Lines.1) (ob (o_b h2301) ob0)) (by kernel_rfl)
theorem z6k (k : Nat) (p0 : zd) (p1 : Int) (p2 : (SL Int)) (r : (SL (SL zi))) (h : zNc k p0 p1 p2 = some r) : zA TE (ev TE) 38 [(.agg (za p0)), (di p1), (dl eI p2.1 p2.2)] = some (zRg r) := by
 unfold zNc at h
 refine zk h (fun v1 h2 g1 => ?_)
 refine zk g1 (fun v3 h4 g2 => ?_)
 exact zB (g := zRg) g2 (zqr [(38, 3, 3, .q (.d (.pin [(dl zh v1.Lines.1 v1.Lines.2), (di v1.Until)])))] [(38, 0, (.nor, zxd p0 p1 p2 v1 v3))] [(dl (eL zh) v3.2.2.2 (rcap true v3.2.2.2))] (ob (o_ia (e := zm) 2 h2 rfl) (ob (zy (id := 0) (r' := (.nor, zxd p0 p1 p2 v1 v3)) (zDn (zwj k p0 p1 p2 v1) k _ _ h4) rfl) (ob (show ztc ⟨[(7, (rowO true 1 (eL zh) v3.2.2.2 true))], []⟩ _ = _ from (o_s1 (x := (.row 0 7 v3.2.2.2.length)) (zCn true 1 (eL zh) v3.2.2.2 true rfl) o_s0)) ob0))) (by kernel_rfl))
noncomputable def zoz (p0 : zd) (p1 : Int) (p2 : (SL Int)) (r : Bool) : TM := [(0, (.d (.agg (za p0)))), (1, (xi p1)), (2, (.d (dl eI p2.1 p2.2))), (zsp 3), (6, (xb false)), (30, (xb r))]
noncomputable def zF (p0 : zd) (p1 : Int) (p2 : (SL Int)) (r : Bool) : St := ⟨(zoz p0 p1 p2 r), ⟨[(zc 3 (za p0))], []⟩, []⟩
noncomputable def zeu (p0 : zd) (p1 : Int) (p2 : (SL Int)) : TM := [(0, (.d (.agg (za p0)))), (1, (xi p1)), (2, (.d (dl eI p2.1 p2.2))), (zsp 3), (6, (xb false))]
theorem zKh (k : Nat) (p0 : zd) (p1 : Int) (p2 : (SL Int)) (r : Bool) (h : zjc k p0 p1 p2 = some r) : ev TE 6 (rgn TE 6 1) ⟨(zeu p0 p1 p2), ⟨[(zc 3 (za p0))], []⟩, []⟩ = some (.nor, zF p0 p1 p2 r) := by
 unfold zjc at h
 refine zk h (fun v201 h202 g1 => ?_)
 refine zn g1 (fun h203 g2 => ?_) (fun h203 g2 => ?_)
 ·exact zx (g := fun r => (Ex.nor, zF p0 p1 p2 r)) g2 (zqe [(6, 1, 1, .c (db v201)), (6, 1, 3, .q (xb true))] [] (ob (zWg k p0 _ h202) (ob (o_b h203) ob0)) (by kernel_rfl))
 ·exact zx (g := fun r => (Ex.nor, zF p0 p1 p2 r)) g2 (zqe [(6, 1, 1, .c (db v201)), (6, 1, 3, .q (xb false)), (6, 1, 6, .q (xi (p0.Slips.1.length : Int)))] [] (ob (zWg k p0 _ h202) (ob (o_b h203) (ob (zq zm p0.Slips.1) ob0))) (by kernel_rfl))
noncomputable def zwz (p0 : zd) (p1 : Int) (p2 : (SL Int)) (v4 : Int) (v6 : zt14) (v8 : zt9) (v10 : zt2) (r : Bool) : TM := zeu p0 p1 p2 ++ [(30, (xb false)), (7, (xi v4)), (8, (.d (dl (eL zh) v6.1.1 v6.1.2))), (9, (xi v6.2)), (10, (xi v8.1)), (11, (xi v8.2)), (12, (xb v10.1)), (13, (xi v10.2)), (69, (xb r))]
noncomputable def zE (p0 : zd) (p1 : Int) (p2 : (SL Int)) (v4 : Int) (v6 : zt14) (v8 : zt9) (v10 : zt2) (r : Bool) : St := ⟨(zwz p0 p1 p2 v4 v6 v8 v10 r), ⟨[(zc 3 (za p0))], []⟩, []⟩
noncomputable def zYu (p0 : zd) (p1 : Int) (p2 : (SL Int)) (v4 : Int) (v6 : zt14) (v8 : zt9) (v10 : zt2) : TM := zeu p0 p1 p2 ++ [(30, (xb false)), (7, (xi v4)), (8, (.d (dl (eL zh) v6.1.1 v6.1.2))), (9, (xi v6.2)), (10, (xi v8.1)), (11, (xi v8.2)), (12, (xb v10.1)), (13, (xi v10.2))]
theorem zMh (k : Nat) (p0 : zd) (p1 : Int) (p2 : (SL Int)) (v4 : Int) (v6 : zt14) (v8 : zt9) (v10 : zt2) (r : Bool) (h : zMb k p0 p1 p2 v4 v6 v8 v10 = some r) : ev TE 6 (rgn TE 6 7) ⟨(zYu p0 p1 p2 v4 v6 v8 v10), ⟨[(zc 3 (za p0))], []⟩, []⟩ = some (.nor, zE p0 p1 p2 v4 v6 v8 v10 r) := by
 unfold zMb at h
 refine zn h (fun h301 g1 => ?_) (fun h301 g1 => ?_)
 ·exact zx (g := fun r => (Ex.nor, zE p0 p1 p2 v4 v6 v8 v10 r)) g1 (zqe [(6, 7, 2, .q (xb true))] [] (ob (o_b h301) ob0) (by kernel_rfl))
 ·refine zn g1 (fun h302 g2 => ?_) (fun h302 g2 => ?_)
  ·exact zx (g := fun r => (Ex.nor, zE p0 p1 p2 v4 v6 v8 v10 r)) g2 (zqe [(6, 7, 2, .q (xb false)), (6, 7, 6, .q (xb true))] [] (ob (o_b h301) (ob (o_b h302) ob0)) (by kernel_rfl))
  ·refine zn g2 (fun h303 g3 => ?_) (fun h303 g3 => ?_)
   ·exact zx (g := fun r => (Ex.nor, zE p0 p1 p2 v4 v6 v8 v10 r)) g3 (zqe [(6, 7, 2, .q (xb false)), (6, 7, 6, .q (xb false)), (6, 7, 10, .q (xb true))] [] (ob (o_b h301) (ob (o_b h302) (ob (o_b h303) ob0))) (by kernel_rfl))
   ·exact zx (g := fun r => (Ex.nor, zE p0 p1 p2 v4 v6 v8 v10 r)) g3 (zqe [(6, 7, 2, .q (xb false)), (6, 7, 6, .q (xb false)), (6, 7, 10, .q (xb false))] [] (ob (o_b h301) (ob (o_b h302) (ob (o_b h303) ob0))) (by kernel_rfl))
noncomputable def ztz (p0 : zd) (p1 : Int) (p2 : (SL Int)) (v4 : Int) (v6 : zt14) (v8 : zt9) (v10 : zt2) (v15 : zt11) (r : Bool) : TM := zYu p0 p1 p2 v4 v6 v8 v10 ++ [(69, (xb false)), (14, (.d (dl eI v15.1.1 v15.1.2))), (15, (xi v15.2.1)), (16, (xb v15.2.2)), (83, (xb r))]
noncomputable def zJ (p0 : zd) (p1 : Int) (p2 : (SL Int)) (v4 : Int) (v6 : zt14) (v8 : zt9) (v10 : zt2) (v15 : zt11) (r : Bool) : St := ⟨(ztz p0 p1 p2 v4 v6 v8 v10 v15 r), ⟨[(zc 3 (za p0))], []⟩, []⟩
noncomputable def zFu (p0 : zd) (p1 : Int) (p2 : (SL Int)) (v4 : Int) (v6 : zt14) (v8 : zt9) (v10 : zt2) (v15 : zt11) : TM := zYu p0 p1 p2 v4 v6 v8 v10 ++ [(69, (xb false)), (14, (.d (dl eI v15.1.1 v15.1.2))), (15, (xi v15.2.1)), (16, (xb v15.2.2))]
theorem zLh (k : Nat) (p0 : zd) (p1 : Int) (p2 : (SL Int)) (v4 : Int) (v6 : zt14) (v8 : zt9) (v10 : zt2) (v15 : zt11) (r : Bool) (h : zLb k p0 p1 p2 v4 v6 v8 v10 v15 = some r) : ev TE 6 (rgn TE 6 10) ⟨(zFu p0 p1 p2 v4 v6 v8 v10 v15), ⟨[(zc 3 (za p0))], []⟩, []⟩ = some (.nor, zJ p0 p1 p2 v4 v6 v8 v10 v15 r) := by
 unfold zLb at h
 refine zn h (fun h401 g1 => ?_) (fun h401 g1 => ?_)
 ·exact zx (g := fun r => (Ex.nor, zJ p0 p1 p2 v4 v6 v8 v10 v15 r)) g1 (zqe [(6, 10, 2, .q (xb true))] [] (ob (o_b h401) ob0) (by kernel_rfl))
 ·exact zx (g := fun r => (Ex.nor, zJ p0 p1 p2 v4 v6 v8 v10 v15 r)) g1 (zqe [(6, 10, 2, .q (xb false))] [] (ob (o_b h401) ob0) (by kernel_rfl))
noncomputable def zbi (p0 : zd) (p1 : Int) (p2 : (SL Int)) (v4 : Int) (v6 : zt14) (v8 : zt9) (v10 : zt2) (v15 : zt11) (s4_22 : Int) (s4_29 : zt5) : St := ⟨(zFu p0 p1 p2 v4 v6 v8 v10 v15 ++ [(83, (xb false)), (17, (.row 0 87 s4_29.length)), (18, (xi s4_22))]), ⟨[(zc 3 (za p0)), (87, (rowO false 1 eI s4_29 true))], []⟩, []⟩
noncomputable def zjy (p0 : zd) (p1 : Int) (p2 : (SL Int)) (v4 : Int) (v6 : zt14) (v8 : zt9) (v10 : zt2) (v15 : zt11) (r : zt3) : TM := zFu p0 p1 p2 v4 v6 v8 v10 v15 ++ [(83, (xb false)), (17, (.row 0 87 r.2.length)), (18, (xi r.1)), (96, (xb false))]
noncomputable def zR (p0 : zd) (p1 : Int) (p2 : (SL Int)) (v4 : Int) (v6 : zt14) (v8 : zt9) (v10 : zt2) (v15 : zt11) (r : zt3) : St := ⟨(zjy p0 p1 p2 v4 v6 v8 v10 v15 r), ⟨[(zc 3 (za p0)), (87, (rowO false 1 eI r.2 true))], []⟩, []⟩
noncomputable def zdi (p0 : zd) (p1 : Int) (p2 : (SL Int)) (v4 : Int) (v6 : zt14) (v8 : zt9) (v10 : zt2) (v15 : zt11) : (Int × (List Int)) → Ex × St := fun r => ((.exit 0), zR p0 p1 p2 v4 v6 v8 v10 v15 r)
theorem zNh (k : Nat) (p0 : zd) (p1 : Int) (p2 : (SL Int)) (v4 : Int) (v6 : zt14) (v8 : zt9) (v10 : zt2) (v15 : zt11) (s4_22 : Int) (s4_29 : zt5) (x : (Int × (List Int)) ⊕ (Int × (List Int))) (h : zpb k p0 p1 p2 v4 v6 v8 v10 v15 s4_22 s4_29 = some x) : zG TE 6 (blk TE 6 0) (fun s : (Int × (List Int)) => zbi p0 p1 p2 v4 v6 v8 v10 v15 s.1 s.2) (zdi p0 p1 p2 v4 v6 v8 v10 v15) (s4_22, s4_29) x := by
 unfold zpb at h
 refine zk h (fun v501 h502 g1 => ?_)
 refine zn g1 (fun h503 g2 => ?_) (fun h503 g2 => ?_)
 ·refine zk g2 (fun v504 h505 g3 => ?_)
  refine zk g3 (fun v506 h507 g4 => ?_)
  refine zk g4 (fun v508 h509 g5 => ?_)
  refine zk g5 (fun v510 h511 g6 => ?_)
  refine zk g6 (fun v512 h513 g7 => ?_)
  exact zqn ((w64 (s4_22 + 1)), (s4_29.set v506.Shelf.toNat v510.Many)) [87] [(6, 14, 4, .q (.d (.pin [(dl zh v501.Lines.1 v501.Lines.2), (di v501.Until)]))), (6, 14, 7, .q (xi (v501.Lines.1.length : Int))), (6, 14, 8, .q (xb true)), (6, 16, 4, .q (.d (.pin [(dl zh v504.Lines.1 v504.Lines.2), (di v504.Until)]))), (6, 16, 8, .q (.d (.pin [(di v506.Shelf), (di v506.Many)]))), (6, 16, 14, .q (.d (.pin [(dl zh v508.Lines.1 v508.Lines.2), (di v508.Until)]))), (6, 16, 18, .q (.d (.pin [(di v510.Shelf), (di v510.Many)]))), (6, 16, 21, .q (.rp 0 87 s4_29.length v506.Shelf.toNat 0)), (6, 16, 22, .rs (rowO false 1 eI (s4_29.set v506.Shelf.toNat v510.Many) true)), (6, 16, 999, .nm [(17, (s4_29.set v506.Shelf.toNat v510.Many).length)] [])] [] g7 (ob (o_ia (e := zm) 2 h502 rfl) (ob (zq zh v501.Lines.1) (ob (o_b h503) (ob (o_ia (e := zm) 2 h505 rfl) (ob (o_ia (e := zh) 2 h507 rfl) (ob (o_ia (e := zm) 2 h509 rfl) (ob (o_ia (e := zh) 2 h511 rfl) (ob (zqa 22 8 0 87 v506.Shelf false 1 eI s4_29 true (by kernel_rfl) (by kernel_rfl) h513) (ob (o_rs (b := false) (z := 1) (e := eI) (l := s4_29) (o := 0) (n := 1) (ds := [(di v510.Many)]) (i := v506.Shelf) (y' := v510.Many) h513 (Nat.le_of_ble_eq_true rfl) rfl) (ob (show s4_29.length = (s4_29.set v506.Shelf.toNat v510.Many).length by simp) (ob (zmf false 1 eI (s4_29.set v506.Shelf.toNat v510.Many) true) ob0))))))))))) (by kernel_rfl)
 ·exact zqo [(6, 14, 4, .q (.d (.pin [(dl zh v501.Lines.1 v501.Lines.2), (di v501.Until)]))), (6, 14, 7, .q (xi (v501.Lines.1.length : Int))), (6, 14, 8, .q (xb false))] [] g2 (ob (o_ia (e := zm) 2 h502 rfl) (ob (zq zh v501.Lines.1) (ob (o_b h503) ob0))) (by kernel_rfl)
theorem zJi (k : Nat) (p0 : zd) (p1 : Int) (p2 : (SL Int)) (r : Bool) (h : zEb k p0 p1 p2 = some r) : zA TE (ev TE) 6 [(.agg (za p0)), (di p1), (dl eI p2.1 p2.2)] = some (zM r) := by
 unfold zEb at h
 refine zk h (fun v1 h2 g1 => ?_)
 have y1 := fun (d : D) (P : List Prop) (V : Ovs) (C : Cuts) (q : All P) h => (zqc V C (ob (zKh k p0 p1 p2 _ h2) q) h : zA TE (ev TE) 6 [(.agg (za p0)), (di p1), (dl eI p2.1 p2.2)] = some d)
 refine zn g1 (fun h3 g2 => ?_) (fun h3 g2 => ?_)
 ·subst h3
  refine zk g2 (fun v4 h5 g3 => ?_)
  exact zB (g := zM) g3 (y1 _ _ [(6, 2, 0, .c (db v4))] [(6, 1000001, (.nor, zF p0 p1 p2 true))] (ob (zOg k _ h5) ob0) (by kernel_rfl))
 ·subst h3
  refine zk g2 (fun v4 h5 g3 => ?_)
  refine zk g3 (fun v6 h7 g4 => ?_)
  refine zk g4 (fun v8 h9 g5 => ?_)
  refine zk g5 (fun v10 h11 g6 => ?_)
  refine zk g6 (fun v12 h13 g7 => ?_)
  have y2 := fun (d : _) (P : List Prop) (V : Ovs) (C : Cuts) (q : All P) h => y1 d _ ([(6, 3, 3, .q (xi (p0.Slips.1.length : Int))), (6, 3, 4, .c (di v4)), (6, 4, 2, .c (.tup [(dl (eL zh) v6.1.1 v6.1.2), (di v6.2)])), (6, 5, 2, .c (.tup [(di v8.1), (di v8.2)])), (6, 6, 3, .c (.tup [(db v10.1), (di v10.2)]))] ++ V) C (ob (zq zm p0.Slips.1) (ob (z3e k p1 (p0.Slips.1.length : Int) _ h5) (ob (zsn k p0 v4 _ h7) (ob (zrn k p0 v4 _ h9) (ob (z8h k p0 v4 v6.1 _ h11) (ob (zMh k p0 p1 p2 v4 v6 v8 v10 _ h13) q)))))) h
  refine zn g7 (fun h14 g8 => ?_) (fun h14 g8 => ?_)
  ·subst h14
   exact zB (g := zM) g8 (y2 _ _ [] [(6, 1000001, (.nor, zF p0 p1 p2 false)), (6, 1000007, (.nor, zE p0 p1 p2 v4 v6 v8 v10 true))] ob0 (by kernel_rfl))
  ·subst h14
   refine zk g8 (fun v15 h16 g9 => ?_)
   refine zk g9 (fun v17 h18 g10 => ?_)
   have y3 := fun (d : _) (P : List Prop) (V : Ovs) (C : Cuts) (q : All P) h => y2 d _ ([(6, 9, 2, .c (.tup [(dl eI v15.1.1 v15.1.2), (di v15.2.1), (db v15.2.2)]))] ++ V) C (ob (zkg k p0 v6.1 _ h16) (ob (zLh k p0 p1 p2 v4 v6 v8 v10 v15 _ h18) q)) h
   refine zn g10 (fun h19 g11 => ?_) (fun h19 g11 => ?_)
   ·subst h19
    exact zB (g := zM) g11 (y3 _ _ [] [(6, 1000001, (.nor, zF p0 p1 p2 false)), (6, 1000007, (.nor, zE p0 p1 p2 v4 v6 v8 v10 false)), (6, 1000010, (.nor, zJ p0 p1 p2 v4 v6 v8 v10 v15 true))] ob0 (by kernel_rfl))
   ·subst h19
    refine zN g11 (fun h20 g12 => ?_)
    refine zk g12 (fun v21 h22 g13 => ?_)
    refine zk g13 (fun v23 h24 g14 => ?_)
    refine zk g14 (fun v25 h26 g15 => ?_)
    refine zk g15 (fun v27 h28 g16 => ?_)
    refine zk g16 (fun v29 h30 g17 => ?_)
    have y4 := fun (d : _) (P : List Prop) (V : Ovs) (C : Cuts) (q : All P) h => y3 d _ ([(6, 12, 2, .q (xi (p0.Far.1.length : Int))), (6, 12, 3, .ms (List.replicate (p0.Far.1.length : Int).toNat 0 : List Int).length ((List.replicate (p0.Far.1.length : Int).toNat 0 : List Int).map eI)), (6, 17, 3, .c (dl (eL zh) v23.1 v23.2)), (6, 18, 3, .c (.tup [(db v25.1), (di v25.2)])), (6, 19, 2, .c (.tup [(dl eI v27.1.1 v27.1.2), (di v27.2.1), (db v27.2.2)])), (6, 20, 2, .cr [((dl eI v21.2 (rcap false v21.2)), (rowO false 1 eI v21.2 false))] (db v29))] ++ V) C (ob (zq eI p0.Far.1) (ob (o_ms (z := 0) (n := (p0.Far.1.length : Int)) 0 h20) (ob (by simp : (p0.Far.1.length : Int).toNat = (List.replicate (p0.Far.1.length : Int).toNat 0 : List Int).length) (ob (zao (e := eI) (p0.Far.1.length : Int).toNat 0) (ob (zy (id := 0) (r' := (.nor, zR p0 p1 p2 v4 v6 v8 v10 v15 v21)) (z8b (zNh k p0 p1 p2 v4 v6 v8 v10 v15) k _ _ h22) rfl) (ob (z6k k p0 v4 p2 _ h24) (ob (z8h k p0 v4 v23 _ h26) (ob (zkg k p0 v23 _ h28) (ob (o_cr false 1 eI v21.2 true 0 87) (ob (z8c k v15.1 (v21.2, (rcap false v21.2)) _ h30) q)))))))))) h
    refine zn g17 (fun h31 g18 => ?_) (fun h31 g18 => ?_)
    ·have y5 := fun (d : _) (P : List Prop) (V : Ovs) (C : Cuts) (q : All P) h => y4 d _ ([(6, 20, 3, .q (xb true))] ++ V) C (ob (o_b h31) q) h
     refine zn g18 (fun h32 g19 => ?_) (fun h32 g19 => ?_)
     ·refine zn g19 (fun h33 g20 => ?_) (fun h33 g20 => ?_)
      ·have y6 := fun (d : _) (P : List Prop) (V : Ovs) (C : Cuts) (q : All P) h => y5 d _ ([(6, 20, 7, .q (xb true)), (6, 20, 10, .q (xb true))] ++ V) C (ob (o_b h32) (ob (o_b h33) q)) h
       refine zn g20 (fun h34 g21 => ?_) (fun h34 g21 => ?_)
       ·refine zk g21 (fun v35 h36 g22 => ?_)
        have y7 := fun (d : _) (P : List Prop) (V : Ovs) (C : Cuts) (q : All P) h => y6 d _ ([(6, 20, 13, .q (xb true)), (6, 20, 16, .cr [((dl eI v21.2 (rcap false v21.2)), (rowO false 1 eI v21.2 false))] (db v35))] ++ V) C (ob (o_b h34) (ob (o_cr false 1 eI v21.2 false 0 87) (ob (z8c k v27.1 (v21.2, (rcap false v21.2)) _ h36) q))) h
        refine zn g22 (fun h37 g23 => ?_) (fun h37 g23 => ?_)
        ·refine zn g23 (fun h38 g24 => ?_) (fun h38 g24 => ?_)
         ·refine zk g24 (fun v39 h40 g25 => ?_)
          exact zB (g := zM) g25 (y7 _ _ [(6, 20, 18, .q (xb true)), (6, 20, 23, .q (xb true)), (6, 20, 24, .c (db v39))] [(6, 1000001, (.nor, zF p0 p1 p2 false)), (6, 1000007, (.nor, zE p0 p1 p2 v4 v6 v8 v10 false)), (6, 1000010, (.nor, zJ p0 p1 p2 v4 v6 v8 v10 v15 false)), (6, 0, (.nor, zR p0 p1 p2 v4 v6 v8 v10 v15 v21))] (ob (o_b h37) (ob (o_b h38) (ob (zOg k _ h40) ob0))) (by kernel_rfl))
         ·exact zB (g := zM) g24 (y7 _ _ [(6, 20, 18, .q (xb true)), (6, 20, 23, .q (xb false))] [(6, 1000001, (.nor, zF p0 p1 p2 false)), (6, 1000007, (.nor, zE p0 p1 p2 v4 v6 v8 v10 false)), (6, 1000010, (.nor, zJ p0 p1 p2 v4 v6 v8 v10 v15 false)), (6, 0, (.nor, zR p0 p1 p2 v4 v6 v8 v10 v15 v21))] (ob (o_b h37) (ob (o_b h38) ob0)) (by kernel_rfl))
        ·exact zB (g := zM) g23 (y7 _ _ [(6, 20, 18, .q (xb false))] [(6, 1000001, (.nor, zF p0 p1 p2 false)), (6, 1000007, (.nor, zE p0 p1 p2 v4 v6 v8 v10 false)), (6, 1000010, (.nor, zJ p0 p1 p2 v4 v6 v8 v10 v15 false)), (6, 0, (.nor, zR p0 p1 p2 v4 v6 v8 v10 v15 v21))] (ob (o_b h37) ob0) (by kernel_rfl))
       ·exact zB (g := zM) g21 (y6 _ _ [(6, 20, 13, .q (xb false))] [(6, 1000001, (.nor, zF p0 p1 p2 false)), (6, 1000007, (.nor, zE p0 p1 p2 v4 v6 v8 v10 false)), (6, 1000010, (.nor, zJ p0 p1 p2 v4 v6 v8 v10 v15 false)), (6, 0, (.nor, zR p0 p1 p2 v4 v6 v8 v10 v15 v21))] (ob (o_b h34) ob0) (by kernel_rfl))
      ·exact zB (g := zM) g20 (y5 _ _ [(6, 20, 7, .q (xb true)), (6, 20, 10, .q (xb false))] [(6, 1000001, (.nor, zF p0 p1 p2 false)), (6, 1000007, (.nor, zE p0 p1 p2 v4 v6 v8 v10 false)), (6, 1000010, (.nor, zJ p0 p1 p2 v4 v6 v8 v10 v15 false)), (6, 0, (.nor, zR p0 p1 p2 v4 v6 v8 v10 v15 v21))] (ob (o_b h32) (ob (o_b h33) ob0)) (by kernel_rfl))
     ·exact zB (g := zM) g19 (y5 _ _ [(6, 20, 7, .q (xb false))] [(6, 1000001, (.nor, zF p0 p1 p2 false)), (6, 1000007, (.nor, zE p0 p1 p2 v4 v6 v8 v10 false)), (6, 1000010, (.nor, zJ p0 p1 p2 v4 v6 v8 v10 v15 false)), (6, 0, (.nor, zR p0 p1 p2 v4 v6 v8 v10 v15 v21))] (ob (o_b h32) ob0) (by kernel_rfl))
    ·exact zB (g := zM) g18 (y4 _ _ [(6, 20, 3, .q (xb false))] [(6, 1000001, (.nor, zF p0 p1 p2 false)), (6, 1000007, (.nor, zE p0 p1 p2 v4 v6 v8 v10 false)), (6, 1000010, (.nor, zJ p0 p1 p2 v4 v6 v8 v10 v15 false)), (6, 0, (.nor, zR p0 p1 p2 v4 v6 v8 v10 v15 v21))] (ob (o_b h31) ob0) (by kernel_rfl))
end Go.AM

namespace Go.AM
open Go
def Ok {α : Type} (o : Option α) (Q : α → Prop) : Prop := ∃ a, o = some a ∧ Q a
section
variable {α β : Type}
theorem Ok.pure {a : α} {Q : α → Prop} (h : Q a) : Ok (some a) Q := ⟨a, rfl, h⟩
theorem Ok.bind {o : Option α} {g : α → Option β} {P : α → Prop} {Q : β → Prop} (h : Ok o P) (hg : ∀ a, P a → Ok (g a) Q) : Ok (o.bind g) Q := by
 obtain ⟨a, rfl, ha⟩ := h
 exact hg a ha
theorem Ok.mono {o : Option α} {P Q : α → Prop} (h : Ok o P) (hq : ∀ a, P a → Q a) : Ok o Q := by
 obtain ⟨a, ha, hp⟩ := h
 exact ⟨a, ha, hq a hp⟩
theorem Ok.cond {b : Bool} {x y : Option α} {Q : α → Prop} (ht : b = true → Ok x Q) (hf : b = false → Ok y Q) : Ok (cond b x y) Q := by
 cases b
 ·exact hf rfl
 ·exact ht rfl
theorem Ok.eq {o : Option α} {a : α} (h : Ok o (· = a)) : o = some a := by
 obtain ⟨b, hb, rfl⟩ := h
 exact hb
theorem Ok.imp {o : Option α} {a : α} {Q : α → Prop} (h : Ok o Q) (ho : o = some a) : Q a := by
 obtain ⟨b, hb, hq⟩ := h
 rw [ho] at hb; cases hb; exact hq
theorem Ok.iter {S R : Type} {f : S → Option (S ⊕ R)} {Q : R → Prop} (I : Nat → S → Prop) (n : Nat)
  (h : ∀ j s, j ≤ n → I j s → Ok (f s) (fun x => match x with
   | .inl s' => j < n ∧ I (j + 1) s'
   | .inr r => Q r)) {k : Nat} {s : S} (h0 : I 0 s) (hk : n < k) : Ok (Go.AM.iter f k s) Q := by
 suffices ∀ m j s, j + m = n → I j s → ∀ k, m < k → Ok (Go.AM.iter f k s) Q from this n 0 s (by omega) h0 k hk
 intro m
 induction m with
 | zero =>
  intro j s hj hi k hk
  obtain ⟨k, rfl⟩ : ∃ k', k = k' + 1 := ⟨k - 1, by omega⟩
  obtain ⟨x, hx, hq⟩ := h j s (by omega) hi
  cases x with
  | inl s' => exact absurd hq.1 (by omega)
  | inr r => exact ⟨r, by simp [Go.AM.iter, hx], hq⟩
 | succ m ih =>
  intro j s hj hi k hk
  obtain ⟨k, rfl⟩ : ∃ k', k = k' + 1 := ⟨k - 1, by omega⟩
  obtain ⟨x, hx, hq⟩ := h j s (by omega) hi
  cases x with
  | inl s' =>
   obtain ⟨r, hr, hq'⟩ := ih (j + 1) s' (by omega) hq.2 k (by omega)
   exact ⟨r, by simp [Go.AM.iter, hx, hr], hq'⟩
  | inr r => exact ⟨r, by simp [Go.AM.iter, hx], hq⟩
def Goes {S R : Type} (I : S → Prop) (Q : R → Prop) : S ⊕ R → Prop
 | .inl s => I s
 | .inr r => Q r
theorem Ok.count {S R : Type} {f : S → Option (S ⊕ R)} {Q : R → Prop} (n : Nat) (I : Nat → S → Prop)
  (next : ∀ j s, j < n → I j s → Ok (f s) (Goes (I (j + 1)) Q))
  (last : ∀ s, I n s → Ok (f s) (Goes (fun _ => False) Q)) {k : Nat} {s : S} (h0 : I 0 s) (hk : n < k) : Ok (Go.AM.iter f k s) Q := by
 refine Ok.iter I n (fun j s hj hi => ?_) h0 hk
 by_cases h : j < n
 ·refine (next j s h hi).mono fun x hx => ?_
  cases x with
  | inl s' => exact ⟨h, hx⟩
  | inr r => exact hx
 ·obtain rfl : j = n := by omega
  refine (last s hi).mono fun x hx => ?_
  cases x with
  | inl s' => exact hx.elim
  | inr r => exact hx
end
theorem znc {n : Int} (h1 : -9223372036854775808 ≤ n) (h2 : n ≤ 9223372036854775807) : w64 n = n := by
 have hd : w64 n = if n % 18446744073709551616 ≥ 9223372036854775808 then n % 18446744073709551616 - 18446744073709551616 else n % 18446744073709551616 := by
  show IntKind.wrap .i64 n = _
  have e : IntKind.wrap .i64 n = if (true && decide (n % 18446744073709551616 ≥ 9223372036854775808)) = true then n % 18446744073709551616 - 18446744073709551616 else n % 18446744073709551616 := rfl
  rw [e]
  simp
 rw [hd]
 split <;> omega
theorem z4x {α : Type} {l : List α} {i : Int} (h0 : 0 ≤ i) (h : i.toNat < l.length) : idx l i = some l[i.toNat] := by
 simp [idx, h0, List.getElem?_eq_getElem h]
theorem zSb {α : Type} {l : List α} {i : Nat} (h : i < l.length) : idx l (i : Int) = some l[i] := by
 simp [idx, List.getElem?_eq_getElem h]
theorem Ok.idx {α : Type} {l : List α} {i : Int} (h0 : 0 ≤ i) (h : i < l.length) : Ok (Go.AM.idx l i) (fun x => l[i.toNat]? = some x) :=
 ⟨l[i.toNat]'(by omega), z4x h0 (by omega), List.getElem?_eq_getElem (by omega)⟩
open Classical in
theorem zvs {κ ν : Type} {q : κ → κ → Bool} (hq : ∀ a b, q a b = true ↔ a = b) (k k' : κ) (v : ν) : ∀ m, z6 q k' (mset q k v m) = if k' = k then some v else z6 q k' m
 | [] => by
  simp only [mset, z6]
  by_cases h : k' = k
  ·rw [(hq k' k).2 h, if_pos h]; rfl
  ·have : q k' k = false := by cases hb : q k' k; rfl; exact absurd ((hq _ _).1 hb) h
   rw [this, if_neg h]; rfl
 | p :: t => by
  have ih := zvs hq k k' v t
  simp only [mset]
  cases hk : q k p.1 with
  | true =>
   have hk' := (hq _ _).1 hk
   simp only [cond_true, z6]
   by_cases h : k' = k
   ·rw [if_pos h, h, hk]; rfl
   ·have : q k' p.1 = false := by cases hb : q k' p.1; rfl; exact absurd ((hq _ _).1 hb) (by rw [← hk']; exact h)
    rw [this, if_neg h]; rfl
  | false =>
   simp only [cond_false, z6]
   cases hp : q k' p.1 with
   | true =>
    by_cases h : k' = k
    ·rw [h, hk] at hp; cases hp
    ·rw [if_neg h]; rfl
   | false => exact ih
end Go.AM
set_option linter.unusedVariables false
namespace Go.AM
open Go
theorem zVd (c x : Bool) : cond c (some x) (some false) = some (c && x) := by cases c <;> rfl
theorem zhc {j n : Nat} (h : j < n) (hn : n < 9223372036854775808) : w64 ((j : Int) + 1) = ((j + 1 : Nat) : Int) := by
 rw [znc (by omega) (by omega)]; push_cast; rfl
theorem zQf {n : Nat} (hn : n < 9223372036854775808) : w64 ((n : Int) - 1) = (n : Int) - 1 := znc (by omega) (by omega)
theorem zOc {α : Type} {j : Nat} {l : List α} (h : j < l.length) : decide ((j : Int) < (l.length : Int)) = true := by simp; omega
theorem zig {α : Type} {l : List α} : decide ((l.length : Int) < (l.length : Int)) = false := by simp
theorem Ok.everyI {α : Type} {f : Bool × Int → Option ((Bool × Int) ⊕ (Bool × Int))} (l : List α) (p : Nat → α → Prop)
  (next : ∀ acc (j : Nat) (h : j < l.length), Ok (f (acc, (j : Int))) (fun x => ∃ r, x = .inl (r, ((j + 1 : Nat) : Int)) ∧ (r = true ↔ acc = true ∧ p j l[j])))
  (last : ∀ acc, f (acc, (l.length : Int)) = some (.inr (acc, (l.length : Int)))) {k : Nat} {acc : Bool} (hk : l.length < k) :
  Ok (Go.AM.iter f k (acc, 0)) (fun r => r.1 = true ↔ acc = true ∧ ∀ j (h : j < l.length), p j l[j]) := by
 refine Ok.count l.length (fun j s => s.2 = (j : Int) ∧ (s.1 = true ↔ acc = true ∧ ∀ i (h : i < l.length), i < j → p i l[i])) ?_ ?_ ⟨rfl, by simp⟩ hk
 ·rintro j ⟨a, i⟩ hj ⟨hi, ha⟩
  obtain rfl : i = (j : Int) := hi
  refine (next a j hj).mono ?_
  rintro x ⟨r, rfl, hr⟩
  refine ⟨rfl, hr.trans ?_⟩
  rw [ha]
  constructor
  ·rintro ⟨⟨h1, h2⟩, h3⟩
   refine ⟨h1, fun i h hij => ?_⟩
   by_cases e : i = j
   ·subst e; exact h3
   ·exact h2 i h (by omega)
  ·rintro ⟨h1, h2⟩
   exact ⟨⟨h1, fun i h hij => h2 i h (by omega)⟩, h2 j hj (by omega)⟩
 ·rintro ⟨a, i⟩ ⟨hi, ha⟩
  obtain rfl : i = (l.length : Int) := hi
  rw [last a]
  refine Ok.pure ?_
  show a = true ↔ _
  rw [ha]
  exact ⟨fun h => ⟨h.1, fun i hi => h.2 i hi hi⟩, fun h => ⟨h.1, fun i hi _ => h.2 i hi⟩⟩
theorem Ok.everyWI {α : Type} {f : Bool × Int → Option ((Bool × Int) ⊕ (Bool × Int))} (l : List α) (p : Nat → α → Prop)
  (next : ∀ (j : Nat) (h : j < l.length), (∀ i (h : i < l.length), i < j → p i l[i]) → Ok (f (true, (j : Int))) (fun x => ∃ r, x = .inl (r, ((j + 1 : Nat) : Int)) ∧ (r = true ↔ p j l[j])))
  (out : ∀ i, f (false, i) = some (.inr (false, i)))
  (last : f (true, (l.length : Int)) = some (.inr (true, (l.length : Int)))) {k : Nat} {acc : Bool} (hk : l.length < k) :
  Ok (Go.AM.iter f k (acc, 0)) (fun r => r.1 = true ↔ acc = true ∧ ∀ j (h : j < l.length), p j l[j]) := by
 refine Ok.count l.length (fun j s => s.2 = (j : Int) ∧ (s.1 = true ↔ acc = true ∧ ∀ i (h : i < l.length), i < j → p i l[i])) ?_ ?_ ⟨rfl, by simp⟩ hk
 ·rintro j ⟨a, i⟩ hj ⟨hi, ha⟩
  obtain rfl : i = (j : Int) := hi
  cases a with
  | false =>
   rw [out]
   refine Ok.pure ?_
   constructor
   ·intro h; cases h
   ·rintro ⟨h1, h2⟩
    exact ha.2 ⟨h1, fun i h _ => h2 i h⟩
  | true =>
   obtain ⟨h1, h2⟩ := ha.1 rfl
   refine (next j hj h2).mono ?_
   rintro x ⟨r, rfl, hr⟩
   refine ⟨rfl, hr.trans ?_⟩
   constructor
   ·intro h3
    refine ⟨h1, fun i h hij => ?_⟩
    by_cases e : i = j
    ·subst e; exact h3
    ·exact h2 i h (by omega)
   ·rintro ⟨_, h3⟩
    exact h3 j hj (by omega)
 ·rintro ⟨a, i⟩ ⟨hi, ha⟩
  obtain rfl : i = (l.length : Int) := hi
  have fin : a = true ↔ acc = true ∧ ∀ j (h : j < l.length), p j l[j] := ⟨fun h => ⟨(ha.1 h).1, fun j hj => (ha.1 h).2 j hj hj⟩, fun h => ha.2 ⟨h.1, fun j hj _ => h.2 j hj⟩⟩
  cases a with
  | false => rw [out]; exact Ok.pure fin
  | true => rw [last]; exact Ok.pure fin
def ex (f : Nat → Nat) : Nat → List Nat
 | 0 => []
 | m + 1 => List.replicate (f m) m ++ ex f m
def hi (f : Nat → Nat) (m : Nat) : Nat → List Nat
 | 0 => []
 | d + 1 => List.replicate (f (m + d)) (m + d) ++ hi f m d
theorem zls (f : Nat → Nat) (m : Nat) : ∀ d, hi f m (d + 1) = hi f (m + 1) d ++ List.replicate (f m) m
 | 0 => by simp [hi]
 | d + 1 => by
  have ih := zls f m d
  rw [hi, ih, hi]
  have : m + 1 + d = m + (d + 1) := by omega
  rw [this, List.append_assoc]
theorem z6o {f g : Nat → Nat} {m : Nat} : ∀ {d}, (∀ j, m ≤ j → j < m + d → f j = g j) → hi f m d = hi g m d
 | 0, _ => rfl
 | d + 1, h => by
  rw [hi, hi, h (m + d) (by omega) (by omega), z6o fun j h1 h2 => h j h1 (by omega)]
theorem z3r {f g : Nat → Nat} : ∀ {n}, (∀ j, j < n → f j = g j) → ex f n = ex g n
 | 0, _ => rfl
 | n + 1, h => by rw [ex, ex, h n (by omega), z3r fun j hj => h j (by omega)]
theorem zHt (f : Nat → Nat) : ∀ n, hi f 0 n = ex f n
 | 0 => rfl
 | n + 1 => by rw [hi, ex, zHt f n]; simp
theorem zum {f : Nat → Nat} : ∀ {n}, ex f n = [] ↔ ∀ j, j < n → f j = 0
 | 0 => by simp [ex]
 | n + 1 => by
  rw [ex, List.append_eq_nil_iff, zum, List.replicate_eq_nil_iff]
  constructor
  ·rintro ⟨h1, h2⟩ j hj
   by_cases e : j = n
   ·rw [e]; exact h1
   ·exact h2 j (by omega)
  ·intro h
   exact ⟨h n (by omega), fun j hj => h j (by omega)⟩
theorem zQs {f : Nat → Nat} {x : Nat} : ∀ {n}, x ∈ ex f n → x < n ∧ 0 < f x
 | 0, h => by simp [ex] at h
 | n + 1, h => by
  rw [ex, List.mem_append, List.mem_replicate] at h
  rcases h with ⟨h1, rfl⟩ | h
  ·exact ⟨by omega, by omega⟩
  ·have := zQs h
   exact ⟨by omega, this.2⟩
theorem zil {f : Nat → Nat} {b : Nat} : ∀ {n}, (∀ j, j < n → f j ≤ b) → (ex f n).length ≤ b * n
 | 0, _ => by simp [ex]
 | n + 1, h => by
  have := zil (n := n) fun j hj => h j (by omega)
  have := h n (by omega)
  rw [ex, List.length_append, List.length_replicate, Nat.mul_succ]
  omega
theorem zOw (r c m : Nat) (t : List Nat) : (List.replicate c m ++ t).drop r = List.replicate (c - r) m ++ t.drop (r - c) := by
 rw [List.drop_append, List.drop_replicate, List.length_replicate]
theorem zzw (r c m : Nat) (t : List Nat) : (List.replicate c m ++ t).take r = List.replicate (min r c) m ++ t.take (r - c) := by
 rw [List.take_append, List.take_replicate, List.length_replicate]
def topF (b : Nat → Nat) (far : Nat → Int) : Nat → Int
 | 0 => 0
 | j + 1 => if 0 < b j then far j else topF b far j
theorem z8q {b : Nat → Nat} {far : Nat → Int} {x : Nat} {t : List Nat} : ∀ {n}, ex b n = x :: t → topF b far n = far x
 | 0, h => by simp [ex] at h
 | n + 1, h => by
  rw [ex] at h
  rw [topF]
  by_cases hb : 0 < b n
  ·rw [if_pos hb]
   obtain ⟨c, hc⟩ : ∃ c, b n = c + 1 := ⟨b n - 1, by omega⟩
   rw [hc, List.replicate_succ, List.cons_append] at h
   injection h with h1 h2
   rw [h1]
  ·rw [if_neg hb]
   have : b n = 0 := by omega
   rw [this] at h
   exact z8q (by simpa using h)
def wk (C : Nat) (far : Nat → Int) : Nat → List Nat → Int
 | _, [] => 0
 | 0, x :: t => 2 * far x + wk C far (C - 1) t
 | r + 1, _ :: t => wk C far r t
theorem zNt (C : Nat) (far : Nat → Int) : ∀ (r : Nat) (l : List Nat), wk C far r l = wk C far 0 (l.drop r)
 | 0, _ => by simp
 | r + 1, [] => by simp [wk]
 | r + 1, x :: t => by rw [wk, List.drop_succ_cons, zNt C far r t]
theorem zdr {C : Nat} (hC : 0 < C) (far : Nat → Int) (x : Nat) (t : List Nat) : wk C far 0 (x :: t) = 2 * far x + wk C far 0 ((x :: t).drop C) := by
 rw [wk, zNt C far (C - 1) t]
 obtain ⟨c, rfl⟩ : ∃ c, C = c + 1 := ⟨C - 1, by omega⟩
 simp
theorem zen {C : Nat} {far : Nat → Int} {b : Int} (hb : 0 ≤ b) : ∀ (l : List Nat) (r : Nat), (∀ x ∈ l, 0 ≤ far x ∧ far x ≤ b) → 0 ≤ wk C far r l ∧ wk C far r l ≤ 2 * b * l.length
 | [], r, _ => by cases r <;> simp [wk]
 | x :: t, 0, h => by
  have := zen (C := C) hb t (C - 1) fun y hy => h y (by simp [hy])
  have hx := h x (by simp)
  rw [wk, List.length_cons]
  push_cast
  rw [Int.mul_add]
  omega
 | x :: t, r + 1, h => by
  have := zen (C := C) hb t r fun y hy => h y (by simp [hy])
  rw [wk, List.length_cons]
  push_cast
  rw [Int.mul_add]
  omega
end Go.AM
set_option linter.unusedVariables false
namespace Go.AM
open Go
abbrev nF (f : zd) : Nat := f.Far.1.length
abbrev nS (f : zd) : Nat := f.Slips.1.length
def fr (f : zd) (i : Nat) : Int := (f.Far.1[i]?).getD 0
theorem zSy {f : zd} {i : Nat} (h : i < nF f) : f.Far.1[i] = fr f i := by
 unfold fr
 rw [List.getElem?_eq_getElem h]; rfl
theorem zIm {f : zd} {i : Nat} (h : i < nF f) : idx f.Far.1 (i : Int) = some (fr f i) := by rw [zSb h, zSy h]
def frB (f : zd) : Nat → Int
 | 0 => 0
 | i + 1 => fr f i
def sh (l : List zi) (i : Nat) : Int := ((l[i]?).map (·.Shelf)).getD 0
def shB (l : List zi) : Nat → Int
 | 0 => -1
 | i + 1 => sh l i
theorem z4f {l : List zi} {i : Nat} (h : i < l.length) : l[i].Shelf = sh l i := by
 unfold sh
 rw [List.getElem?_eq_getElem h]; rfl
def z2c (lo hi : Int) (s : zp) : Prop := lo ≤ s.Low ∧ s.Low ≤ s.High ∧ s.High ≤ hi
def zL (n : Nat) (l : List zi) : Prop := ∀ j (h : j < l.length), (shB l j + 1 ≤ l[j].Shelf ∧ l[j].Shelf ≤ (n : Int) - 1) ∧ (1 ≤ l[j].Many ∧ l[j].Many ≤ 20)
def zIi (n : Nat) (s : zl) : Prop := ((0 ≤ s.Until ∧ s.Until ≤ 100000) ∧ 0 < s.Lines.1.length) ∧ zL n s.Lines.1
structure Fine (f : zd) : Prop where
 nfar : 1 ≤ nF f ∧ nF f ≤ 12
 npick : f.Pick.1.length = nF f
 step : z2c 1 10 f.Step
 carry : 1 ≤ f.Carry ∧ f.Carry ≤ 20
 nslips : nS f ≤ 9
 far : ∀ i, i < nF f → frB f i ≤ fr f i ∧ fr f i ≤ 500
 pick : ∀ i (h : i < f.Pick.1.length), z2c 0 300 f.Pick.1[i]
 slips : ∀ i (h : i < nS f), zIi (nF f) f.Slips.1[i]
structure zZd (f : zd) : Prop where
 far : nF f < 9223372036854775808
 pick : f.Pick.1.length < 9223372036854775808
 slips : nS f < 9223372036854775808
 lines : ∀ s ∈ f.Slips.1, s.Lines.1.length < 9223372036854775808
structure Fuel (k : Nat) (f : zd) : Prop where
 k0 : 5000 < k
 far : nF f < k
 pick : f.Pick.1.length < k
 slips : nS f < k
 lines : ∀ s ∈ f.Slips.1, s.Lines.1.length < k
theorem zjg (k : Nat) (a b c : Int) : zxb k a b c = some (decide (b ≤ a) && decide (a ≤ c)) := by
 simp only [zxb, zVd]
theorem zUk (k : Nat) (a b c : Int) : z9 k a b c = some (decide (b ≤ a) && decide (a ≤ c)) := by
 simp only [z9, zVd]
theorem ztr (k : Nat) (s : zp) (a b : Int) : zOf k s a b = some (decide (a ≤ s.Low) && (decide (s.Low ≤ s.High) && decide (s.High ≤ b))) := by
 simp only [zOf, zVd]
theorem znr (k : Nat) (s : zp) (a b : Int) : zTb k s a b = some (decide (a ≤ s.Low) && (decide (s.Low ≤ s.High) && decide (s.High ≤ b))) := by
 simp only [zTb, zVd]
theorem zmw (k : Nat) (f : zd) : Ok (zJf k f) (fun r => r = true ↔ (1 ≤ nF f ∧ nF f ≤ 12) ∧ f.Pick.1.length = nF f ∧ z2c 1 10 f.Step ∧ (1 ≤ f.Carry ∧ f.Carry ≤ 20) ∧ nS f ≤ 9) := by
 simp only [zJf, zjg, ztr, Option.bind_some, zVd]
 refine Ok.pure ?_
 simp only [Bool.and_eq_true, decide_eq_true_eq, beq_iff_eq, nF, nS, z2c]
 omega
theorem zJw {k : Nat} {f : zd} (hs : zZd f) (hk : Fuel k f) (acc : Bool) : Ok (iter (fun s => zce k f s.1 s.2.1 s.2.2) k (acc, 0, 0)) (fun r => r.1 = true ↔ acc = true ∧ ∀ i, i < nF f → frB f i ≤ fr f i ∧ fr f i ≤ 500) := by
 refine Ok.count (nF f) (fun j s => s.2.2 = (j : Int) ∧ s.2.1 = frB f j ∧ (s.1 = true ↔ acc = true ∧ ∀ i, i < j → frB f i ≤ fr f i ∧ fr f i ≤ 500)) ?_ ?_ ⟨rfl, rfl, by simp⟩ hk.far
 ·rintro j ⟨a, d, i⟩ hj ⟨hi, hd, ha⟩
  obtain rfl : i = (j : Int) := hi
  obtain rfl : d = frB f j := hd
  simp only [zce, z1g, zOc hj, cond_true, zIm hj, zjg, Option.bind_some, zVd, zhc hj hs.far]
  refine Ok.pure ⟨rfl, rfl, ?_⟩
  simp only [Bool.and_eq_true, decide_eq_true_eq]
  have ha' : a = true ↔ acc = true ∧ ∀ i, i < j → frB f i ≤ fr f i ∧ fr f i ≤ 500 := ha
  rw [ha']
  constructor
  ·rintro ⟨⟨h1, h2⟩, h3⟩
   refine ⟨h1, fun i hij => ?_⟩
   by_cases e : i = j
   ·subst e; exact h3
   ·exact h2 i (by omega)
  ·rintro ⟨h1, h2⟩
   exact ⟨⟨h1, fun i hij => h2 i (by omega)⟩, h2 j (by omega)⟩
 ·rintro ⟨a, d, i⟩ ⟨hi, hd, ha⟩
  obtain rfl : i = (nF f : Int) := hi
  simp only [zce, zig, cond_false]
  exact Ok.pure ha
theorem zyw {k : Nat} {f : zd} (hs : zZd f) (hk : Fuel k f) (v : Bool × Int × Int) (acc : Bool) : Ok (iter (fun s => zae k f v s.1 s.2) k (acc, 0)) (fun r => r.1 = true ↔ acc = true ∧ ∀ i (h : i < f.Pick.1.length), z2c 0 300 f.Pick.1[i]) := by
 refine Ok.everyI f.Pick.1 (fun _ s => z2c 0 300 s) (fun a j hj => ?_) (fun a => by simp [zae]) hk.pick
 simp only [zae, zZg, zOc hj, cond_true, zSb hj, ztr, Option.bind_some, zVd]
 refine Ok.pure ⟨_, by rw [zhc hj hs.pick], ?_⟩
 simp only [Bool.and_eq_true, decide_eq_true_eq, z2c]
theorem zwm {l : List zi} : ∀ {j}, j ≤ l.length → (∀ i (h : i < l.length), i < j → shB l i + 1 ≤ l[i].Shelf) → -1 ≤ shB l j
 | 0, _, _ => by simp [shB]
 | j + 1, hj, h => by
  have ih := zwm (j := j) (by omega) fun i hi hij => h i hi (by omega)
  have := h j (by omega) (by omega)
  rw [z4f (by omega)] at this
  simp only [shB]
  omega
theorem zZo {n : Nat} {l : List zi} (h : zL n l) : ∀ i, i < l.length → (i : Int) ≤ sh l i
 | 0, hi => by
  have := (h 0 hi).1.1
  rw [z4f hi] at this
  simpa [shB] using this
 | i + 1, hi => by
  have ih := zZo h i (by omega)
  have := (h (i + 1) hi).1.1
  rw [z4f hi] at this
  simp only [shB] at this
  push_cast
  omega
theorem zcd {n : Nat} {l : List zi} (h : zL n l) : l.length ≤ n := by
 cases hl : l.length with
 | zero => omega
 | succ m =>
  have h1 := zZo h m (by omega)
  have h2 := (h m (by omega)).1.2
  rw [z4f (by omega)] at h2
  omega
theorem zJv {k : Nat} {f : zd} (hs : zZd f) (v3 : Bool × Int × Int) (v5 : Bool × Int) (i0 : Int) (s : zl) (hl : s.Lines.1.length < 9223372036854775808) (hlk : s.Lines.1.length < k) (acc : Bool) (hn : acc = true → nF f ≤ 12) :
  Ok (iter (fun t => zQd k f v3 v5 i0 s t.1 t.2.1 t.2.2) k (acc, (-1), 0)) (fun r => r.1 = true ↔ acc = true ∧ zL (nF f) s.Lines.1) := by
 let P := fun i (h : i < s.Lines.1.length) => (shB s.Lines.1 i + 1 ≤ s.Lines.1[i].Shelf ∧ s.Lines.1[i].Shelf ≤ (nF f : Int) - 1) ∧ (1 ≤ s.Lines.1[i].Many ∧ s.Lines.1[i].Many ≤ 20)
 refine Ok.count s.Lines.1.length (fun j t => t.2.2 = (j : Int) ∧ t.2.1 = shB s.Lines.1 j ∧ (t.1 = true ↔ acc = true ∧ ∀ i (h : i < s.Lines.1.length), i < j → P i h)) ?_ ?_ ⟨rfl, rfl, by simp⟩ hlk
 ·rintro j ⟨a, d, i⟩ hj ⟨hi, hd, ha⟩
  obtain rfl : i = (j : Int) := hi
  obtain rfl : d = shB s.Lines.1 j := hd
  simp only [zQd, zFg, zOc hj, cond_true, zSb hj, zjg, Option.bind_some, zVd, zhc hj hl, zQf hs.far]
  refine Ok.pure ⟨rfl, by rw [z4f hj]; rfl, ?_⟩
  simp only [Bool.and_eq_true, decide_eq_true_eq]
  cases a with
  | false =>
   constructor
   ·rintro ⟨h, _⟩; cases h
   ·rintro ⟨h1, h2⟩
    exact absurd (ha.2 ⟨h1, fun i h hij => h2 i h (by omega)⟩) (by simp)
  | true =>
   obtain ⟨h1, h2⟩ := ha.1 rfl
   have hw : w64 (shB s.Lines.1 j + 1) = shB s.Lines.1 j + 1 := by
    have hlow := zwm (l := s.Lines.1) (j := j) (by omega) fun i hi hij => (h2 i hi hij).1.1
    have hn := hn h1
    have hup : shB s.Lines.1 j ≤ 12 := by
     cases j with
     | zero => simp [shB]
     | succ j =>
      have := (h2 j (by omega) (by omega)).1.2
      rw [z4f (by omega)] at this
      simp only [shB]
      have : ((nF f : Nat) : Int) ≤ 12 := by exact_mod_cast hn
      omega
    exact znc (by omega) (by omega)
   rw [hw]
   constructor
   ·rintro ⟨_, h3⟩
    refine ⟨h1, fun i h hij => ?_⟩
    by_cases e : i = j
    ·subst e; exact h3
    ·exact h2 i h (by omega)
   ·rintro ⟨_, h3⟩
    exact ⟨rfl, h3 j hj (by omega)⟩
 ·rintro ⟨a, d, i⟩ ⟨hi, hd, ha⟩
  obtain rfl : i = (s.Lines.1.length : Int) := hi
  simp only [zQd, zig, cond_false]
  refine Ok.pure ?_
  show a = true ↔ _
  have ha' : a = true ↔ acc = true ∧ ∀ i (h : i < s.Lines.1.length), i < s.Lines.1.length → P i h := ha
  rw [ha']
  exact ⟨fun h => ⟨h.1, fun i hi => h.2 i hi hi⟩, fun h => ⟨h.1, fun i hi _ => h.2 i hi⟩⟩
theorem ziw {k : Nat} {f : zd} (hs : zZd f) (hk : Fuel k f) (v3 : Bool × Int × Int) (v5 : Bool × Int) (acc : Bool) (hn : acc = true → nF f ≤ 12) : Ok (iter (fun s => zde k f v3 v5 s.1 s.2) k (acc, 0)) (fun r => r.1 = true ↔ acc = true ∧ ∀ i (h : i < nS f), zIi (nF f) f.Slips.1[i]) := by
 refine Ok.count (nS f) (fun j s => s.2 = (j : Int) ∧ (s.1 = true ↔ acc = true ∧ ∀ i (h : i < nS f), i < j → zIi (nF f) f.Slips.1[i])) ?_ ?_ ⟨rfl, by simp⟩ hk.slips
 ·rintro j ⟨a, i⟩ hj ⟨hi, ha⟩
  obtain rfl : i = (j : Int) := hi
  have hm := List.getElem_mem hj
  simp only [zde, zGg, zOc hj, cond_true, zSb hj, zjg, Option.bind_some, zVd]
  refine Ok.bind (zJv hs v3 v5 _ _ (hs.lines _ hm) (hk.lines _ hm) _ fun h => ?_) fun r hr => ?_
  ·simp only [Bool.and_eq_true] at h
   exact hn (ha.1 h.1).1
  ·refine Ok.pure ⟨by rw [zhc hj hs.slips], ?_⟩
   show r.1 = true ↔ _
   rw [hr]
   simp only [Bool.and_eq_true, decide_eq_true_eq]
   have ha' : a = true ↔ acc = true ∧ ∀ i (h : i < nS f), i < j → zIi (nF f) f.Slips.1[i] := ha
   rw [ha']
   constructor
   ·rintro ⟨⟨⟨h1, h5⟩, h2, h3⟩, h4⟩
    refine ⟨h1, fun i h hij => ?_⟩
    by_cases e : i = j
    ·subst e; exact ⟨⟨h2, by omega⟩, h4⟩
    ·exact h5 i h (by omega)
   ·rintro ⟨h1, h2⟩
    obtain ⟨⟨h3, h4⟩, h5⟩ := h2 j hj (by omega)
    exact ⟨⟨⟨h1, fun i h hij => h2 i h (by omega)⟩, h3, by omega⟩, h5⟩
 ·rintro ⟨a, i⟩ ⟨hi, ha⟩
  obtain rfl : i = (nS f : Int) := hi
  simp only [zde, zig, cond_false]
  refine Ok.pure ?_
  show a = true ↔ _
  have ha' : a = true ↔ acc = true ∧ ∀ i (h : i < nS f), i < nS f → zIi (nF f) f.Slips.1[i] := ha
  rw [ha']
  exact ⟨fun h => ⟨h.1, fun i hi => h.2 i hi hi⟩, fun h => ⟨h.1, fun i hi _ => h.2 i hi⟩⟩
open Classical in
theorem z1m {k : Nat} {f : zd} (hs : zZd f) (hk : Fuel k f) : Ok (zkc k f) (fun r => r = if Fine f then 0 else 30) := by
 unfold zkc
 refine Ok.bind (zmw k f) fun v1 h1 => ?_
 refine Ok.bind (zJw hs hk v1) fun v3 h3 => ?_
 refine Ok.bind (zyw hs hk v3 v3.1) fun v5 h5 => ?_
 refine Ok.bind (ziw hs hk v3 v5 v5.1 fun h => ?_) fun v7 h7 => ?_
 ·exact (h1.1 (h3.1 (h5.1 h).1).1).1.2
 have fin : v7.1 = true ↔ Fine f := by
  rw [h7, h5, h3, h1]
  exact ⟨fun h => ⟨h.1.1.1.1, h.1.1.1.2.1, h.1.1.1.2.2.1, h.1.1.1.2.2.2.1, h.1.1.1.2.2.2.2, h.1.1.2, h.1.2, h.2⟩, fun h => ⟨⟨⟨⟨h.nfar, h.npick, h.step, h.carry, h.nslips⟩, h.far⟩, h.pick⟩, h.slips⟩⟩
 refine Ok.cond (fun hb => Ok.pure ?_) (fun hb => Ok.pure ?_)
 ·rw [if_neg]
  intro hF
  rw [fin.2 hF] at hb
  cases hb
 ·rw [if_pos (fin.1 (by simpa using hb))]
theorem zgt {f : zd} (h : Fine f) : ∀ i, i < nF f → 0 ≤ fr f i
 | 0, hi => by have := (h.far 0 hi).1; simpa [frB] using this
 | i + 1, hi => by
  have := (h.far (i + 1) hi).1
  have ih := zgt h i (by omega)
  simp only [frB] at this
  omega
theorem zer {f : zd} (h : Fine f) {i : Nat} : ∀ j, i ≤ j → j < nF f → fr f i ≤ fr f j
 | 0, hij, _ => by
  have : i = 0 := by omega
  rw [this]; exact Int.le_refl _
 | j + 1, hij, hj => by
  by_cases e : i = j + 1
  ·rw [e]; exact Int.le_refl _
  ·have := (h.far (j + 1) hj).1
   have ih := zer (i := i) h j (by omega) (by omega)
   simp only [frB] at this
   omega
theorem zQw {k : Nat} {f : zd} (hs : zZd f) (hk : Fuel k f) : Ok (zZc k f) (fun r => r = true ↔ Fine f) := by
 obtain ⟨c, hc, hc'⟩ := z1m hs hk
 unfold zZc z3c
 rw [hc]
 simp only [Option.bind_some]
 by_cases hF : Fine f
 ·rw [if_pos hF] at hc'
  subst hc'
  have t : (((0 : Int) == 0) && ((decide ((1 : Int) ≤ (f.Far.1.length : Int)) && decide ((f.Far.1.length : Int) ≤ 12)) && (((f.Pick.1.length : Int) == (f.Far.1.length : Int)) && ((decide (1 ≤ f.Step.Low) && (decide (f.Step.Low ≤ f.Step.High) && decide (f.Step.High ≤ 10))) && ((decide (1 ≤ f.Carry) && decide (f.Carry ≤ 20)) && decide ((f.Slips.1.length : Int) ≤ 9)))))) = true := by
   have h1 := hF.nfar
   have h2 := hF.npick
   have h3 := hF.step
   have h4 := hF.carry
   have h5 := hF.nslips
   simp only [z2c, nF, nS] at h1 h2 h3 h4 h5
   simp only [Bool.and_eq_true, decide_eq_true_eq, beq_iff_eq]
   exact ⟨trivial, ⟨by omega, by omega⟩, by omega, h3, h4, by omega⟩
  simp only [zUk, znr, Option.bind_some, zVd, t]
  refine Ok.bind (P := fun r : Bool × Int => r.1 = true) ?_ fun v3 h3 => ?_
  ·refine (Ok.everyWI f.Far.1 (fun i _ => i < nF f) (fun j hj hp => ?_) (fun i => by simp [zib, zDb]) (by simp [zib, zDb]) hk.far).mono fun r hr => hr.2 ⟨rfl, fun j hj => hj⟩
   have hpj : j < f.Pick.1.length := by have := hF.npick; simp only [nF] at this; omega
   have hp := hF.pick j hpj
   have hf := hF.far j hj
   have h0 := zgt hF j hj
   simp only [zib, zDb, z7c, cond_true, zOc hj, Option.bind_some, zIm hj, zUk, znr, zSb hpj, zhc hj hs.far]
   have e1 : (decide (0 ≤ fr f j) && decide (fr f j ≤ 500)) = true := by simp; omega
   have e2 : (decide (0 ≤ f.Pick.1[j].Low) && (decide (f.Pick.1[j].Low ≤ f.Pick.1[j].High) && decide (f.Pick.1[j].High ≤ 300))) = true := by
    simp only [Bool.and_eq_true, decide_eq_true_eq]; exact hp
   simp only [e1, e2, cond_true]
   cases j with
   | zero => exact Ok.pure ⟨true, rfl, by simp; exact hj⟩
   | succ j =>
    have e3 : (((j + 1 : Nat) : Int) == 0) = false := by simp; omega
    have e4 : w64 (((j + 1 : Nat) : Int) - 1) = (j : Int) := by
     have := hF.nfar.2
     have hj' : j + 1 < nF f := hj
     rw [znc (by omega) (by omega)]; omega
    have e5 : decide (fr f j ≤ fr f (j + 1)) = true := by simpa [frB] using hf.1
    simp only [e3, e4, cond_false, zIm (show j < nF f by have hj' : j + 1 < nF f := hj; omega), Option.bind_some, e5, cond_true]
    exact Ok.pure ⟨true, rfl, by simp; exact hj⟩
  ·refine Ok.bind (P := fun r : Bool × Int => r.1 = true) ?_ fun v5 h5 => Ok.pure ⟨fun _ => hF, fun _ => h5⟩
   rw [h3]
   refine (Ok.everyWI f.Slips.1 (fun i _ => i < nS f) (fun j hj hp => ?_) (fun i => by simp [zmb, zyb]) (by simp [zmb, zyb]) hk.slips).mono fun r hr => hr.2 ⟨rfl, fun j hj => hj⟩
   obtain ⟨⟨hu, hl⟩, hlines⟩ := hF.slips j hj
   have hm := List.getElem_mem hj
   simp only [zmb, zyb, zXc, cond_true, zOc hj, Option.bind_some, zSb hj, zUk, zVd, zhc hj hs.slips]
   have e1 : ((decide (0 ≤ f.Slips.1[j].Until) && decide (f.Slips.1[j].Until ≤ 100000)) && (decide ((1 : Int) ≤ (f.Slips.1[j].Lines.1.length : Int)) && decide ((f.Slips.1[j].Lines.1.length : Int) ≤ (f.Far.1.length : Int)))) = true := by
    have := zcd hlines
    simp only [Bool.and_eq_true, decide_eq_true_eq]
    simp only [nF] at this
    omega
   rw [e1]
   refine Ok.bind (P := fun r : Bool × Int => r.1 = true) ?_ fun r hr => Ok.pure ⟨true, by rw [hr], by simp; exact hj⟩
   refine (Ok.everyWI f.Slips.1[j].Lines.1 (fun i _ => i < f.Slips.1[j].Lines.1.length) (fun i hi hp => ?_) (fun i => by simp [zRb, zQb]) (by simp [zRb, zQb]) (hk.lines _ hm)).mono fun r hr => hr.2 ⟨rfl, fun j hj => hj⟩
   have hli := hlines i hi
   have h0 := zwm (l := f.Slips.1[j].Lines.1) (j := i) (by omega) fun i hi _ => (hlines i hi).1.1
   simp only [zRb, zQb, zWc, cond_true, zOc hi, Option.bind_some, zSb hi, zUk, zQf hs.far, zhc hi (hs.lines _ hm)]
   have e2 : (decide (0 ≤ f.Slips.1[j].Lines.1[i].Shelf) && decide (f.Slips.1[j].Lines.1[i].Shelf ≤ (f.Far.1.length : Int) - 1)) = true := by
    have := hli.1
    simp only [Bool.and_eq_true, decide_eq_true_eq]
    simp only [nF] at this
    omega
   have e3 : (decide (1 ≤ f.Slips.1[j].Lines.1[i].Many) && decide (f.Slips.1[j].Lines.1[i].Many ≤ 20)) = true := by
    simp only [Bool.and_eq_true, decide_eq_true_eq]; exact hli.2
   simp only [e2, e3, cond_true]
   cases i with
   | zero => exact Ok.pure ⟨true, rfl, by simp; exact hi⟩
   | succ i =>
    have e4 : (((i + 1 : Nat) : Int) == 0) = false := by simp; omega
    have e5 : w64 (((i + 1 : Nat) : Int) - 1) = (i : Int) := by
     have := hs.lines _ hm
     rw [znc (by omega) (by omega)]; omega
    have e6 : decide (f.Slips.1[j].Lines.1[i].Shelf < f.Slips.1[j].Lines.1[i + 1].Shelf) = true := by
     have := hli.1.1
     simp only [shB] at this
     rw [← z4f (by omega)] at this
     simp; omega
    simp only [e4, e5, cond_false, zSb (show i < f.Slips.1[j].Lines.1.length by omega), Option.bind_some, e6]
    exact Ok.pure ⟨true, rfl, by simp; exact hi⟩
 ·rw [if_neg hF] at hc'
  subst hc'
  have t : ((30 : Int) == 0) = false := by decide
  simp only [t, cond_false, Option.bind_some]
  obtain ⟨k, rfl⟩ : ∃ k', k = k' + 1 := ⟨k - 1, by have := hk.k0; omega⟩
  have o1 : iter (fun s => zib (k + 1) f s.1 s.2) (k + 1) (false, 0) = some (false, 0) := by simp [iter, zib, zDb]
  rw [o1]
  simp only [Option.bind_some]
  have o2 : iter (fun s => zmb (k + 1) f (false, 0) s.1 s.2) (k + 1) (false, 0) = some (false, 0) := by simp [iter, zmb, zyb]
  rw [o2]
  exact Ok.pure ⟨fun h => (by cases h), fun h => absurd h hF⟩
end Go.AM
set_option linter.unusedVariables false
namespace Go.AM
open Go
theorem z5j (f g : Nat → Int) : ∀ n i, eqI f g i n = true ↔ ∀ j, i ≤ j → j < i + n → f j = g j
 | 0, i => by simp [eqI]; omega
 | n + 1, i => by
  simp only [eqI, Bool.and_eq_true, z5j f g n (i + 1), beq_iff_eq]
  constructor
  ·rintro ⟨h0, h⟩ j h1 h2
   by_cases hj : j = i
   ·rw [hj]; exact h0
   ·exact h j (by omega) (by omega)
  ·intro h
   exact ⟨h i (by omega) (by omega), fun j h1 h2 => h j (by omega) (by omega)⟩
def put1 (g : Nat → Nat) (x : zi) : Nat → Nat := fun j => if j = x.Shelf.toNat then x.Many.toNat else g j
def pc (l : List zi) : Nat → Nat := l.foldl put1 fun _ => 0
theorem z2j (l : List zi) (x : zi) : pc (l ++ [x]) = put1 (pc l) x := by simp [pc]
def slp (f : zd) (i : Nat) : zl := (f.Slips.1[i]?).getD ⟨([], .nil), 0⟩
theorem zss {f : zd} {i : Nat} (h : i < nS f) : f.Slips.1[i] = slp f i := by
 unfold slp
 rw [List.getElem?_eq_getElem h]; rfl
theorem z9n {f : zd} {i : Nat} (h : i < nS f) : idx f.Slips.1 (i : Int) = some (slp f i) := by rw [zSb h, zss h]
theorem zpf {f : zd} (hF : Fine f) {i : Nat} (h : i < nS f) : zIi (nF f) (slp f i) := by
 have := hF.slips i h
 rwa [zss h] at this
abbrev lns (f : zd) (i : Nat) : List zi := (slp f i).Lines.1
theorem zNf {n : Nat} {l : List zi} (h : zL n l) {i : Nat} (hi : i < l.length) : 0 ≤ l[i].Shelf ∧ l[i].Shelf < n := by
 have h1 := zZo h i hi
 rw [← z4f hi] at h1
 have := (h i hi).1.2
 omega
theorem zxn {n : Nat} {l : List zi} (h : zL n l) : (∀ j, pc l j ≤ 20) ∧ ∀ j, n ≤ j → pc l j = 0 := by
 have key : ∀ m, m ≤ l.length → (∀ j, pc (l.take m) j ≤ 20) ∧ ∀ j, n ≤ j → pc (l.take m) j = 0 := by
  intro m
  induction m with
  | zero => intro _; simp [pc]
  | succ m ih =>
   intro hm
   obtain ⟨h1, h2⟩ := ih (by omega)
   rw [List.take_succ_eq_append_getElem (by omega), z2j]
   have hl := h m (by omega)
   have hs := zNf h (i := m) (by omega)
   refine ⟨fun j => ?_, fun j hj => ?_⟩
   ·unfold put1
    split
    ·omega
    ·exact h1 j
   ·unfold put1
    rw [if_neg (by omega)]
    exact h2 j hj
 have := key l.length (Nat.le_refl _)
 rwa [List.take_length] at this
theorem zKn {k : Nat} {f : zd} (hs : zZd f) (hk : Fuel k f) (hF : Fine f) {i : Nat} (hi : i < nS f) : Ok (zrc k ⟨f⟩ (i : Int)) (fun g => ∀ j, g j = ((pc (lns f i) j : Nat) : Int)) := by
 unfold zrc
 have hm := List.getElem_mem hi
 rw [zss hi] at hm
 have hfine := zpf hF hi
 simp only [z9n hi, Option.bind_some]
 refine Ok.bind (P := fun v : Int × (Nat → Int) => ∀ j, v.2 j = ((pc (lns f i) j : Nat) : Int)) ?_ fun v hv => Ok.pure hv
 refine Ok.count (lns f i).length (fun j s => s.1 = (j : Int) ∧ ∀ t, s.2 t = ((pc ((lns f i).take j) t : Nat) : Int)) ?_ ?_ ⟨rfl, by simp [pc]⟩ (hk.lines _ hm)
 ·rintro j ⟨a, g⟩ hj ⟨ha, hg⟩
  obtain rfl : a = (j : Int) := ha
  have hl : (shB (lns f i) j + 1 ≤ (lns f i)[j].Shelf ∧ _) ∧ (1 ≤ (lns f i)[j].Many ∧ (lns f i)[j].Many ≤ 20) := hfine.2 j hj
  have hsh : 0 ≤ (lns f i)[j].Shelf ∧ (lns f i)[j].Shelf < nF f := zNf hfine.2 hj
  have hn := hF.nfar.2
  simp only [zLc, zOc hj, cond_true, zSb hj, Option.bind_some]
  have e : (decide (0 ≤ (lns f i)[j].Shelf) && decide ((lns f i)[j].Shelf < 12)) = true := by
   simp only [Bool.and_eq_true, decide_eq_true_eq]; omega
  rw [e, cond_true]
  refine Ok.pure ⟨zhc hj (hs.lines _ hm), fun t => ?_⟩
  rw [List.take_succ_eq_append_getElem hj, z2j]
  simp only [upd, put1]
  have hg' := hg t
  simp only at hg'
  split
  ·omega
  ·exact hg'
 ·rintro ⟨a, g⟩ ⟨ha, hg⟩
  obtain rfl : a = ((lns f i).length : Int) := ha
  simp only [zLc, zig, cond_false]
  refine Ok.pure fun t => ?_
  have := hg t
  rwa [List.take_length] at this
def zCb (f : zd) (i : Nat) : Int := wk f.Carry.toNat (fr f) 0 (ex (pc (lns f i)) (nF f))
theorem zQn {f : zd} (hF : Fine f) {i : Nat} (h : i < nF f) : 0 ≤ fr f i ∧ fr f i ≤ 500 := ⟨zgt hF i h, (hF.far i h).2⟩
theorem zft {f : zd} (hF : Fine f) {g : Nat → Nat} : ∀ x ∈ ex g (nF f), 0 ≤ fr f x ∧ fr f x ≤ 500 := fun x hx => zQn hF (zQs hx).1
theorem zVm {f : zd} (hF : Fine f) {i : Nat} (hi : i < nS f) : 0 ≤ zCb f i ∧ zCb f i ≤ 240000 := by
 have h1 := zxn (zpf hF hi).2
 have h2 := zil (f := pc (lns f i)) (b := 20) (n := nF f) fun j _ => h1.1 j
 have h3 := zen (C := f.Carry.toNat) (b := 500) (by omega) (ex (pc (lns f i)) (nF f)) 0 (zft hF)
 have h4 := hF.nfar.2
 unfold zCb
 have : ((ex (pc (lns f i)) (nF f)).length : Int) ≤ 240 := by
  have : 20 * nF f ≤ 240 := by omega
  omega
 omega
theorem z3m (k : Nat) : zZe k = some fun _ => 0 := rfl
theorem zWs {k : Nat} {f : zd} (hk : Fuel k f) (hF : Fine f) (i : Int) (v1 : (SL Int) × Int × Int × (SL zp) × Int × (SL zl) × Int) (n : Int) {g : Nat → Int} {lf : Nat → Nat} (hg : ∀ t, t < 12 → g t = ((lf t : Nat) : Int)) (h20 : ∀ t, lf t ≤ 20) :
  Ok (iter (fun s => z1b k ⟨f⟩ i v1 n s.1 s.2.1 s.2.2.1 s.2.2.2) k (f.Carry, (nF f : Int) - 1, g, fun _ => 0)) (fun r => ∃ a b : Nat → Nat, (∀ t, t < 12 → r.2.2.1 t = ((a t : Nat) : Int)) ∧ (∀ t, t < 12 → r.2.2.2 t = ((b t : Nat) : Int)) ∧
   ex a (nF f) = (ex lf (nF f)).drop f.Carry.toNat ∧ ex b (nF f) = (ex lf (nF f)).take f.Carry.toNat ∧ (∀ t, nF f ≤ t → a t = lf t) ∧ (∀ t, a t ≤ lf t) ∧ ∀ t, nF f ≤ t → b t = 0) := by
 have hC := hF.carry
 refine Ok.count (nF f) (fun j s => ∃ m r : Nat, m + j = nF f ∧ s.2.1 = (m : Int) - 1 ∧ s.1 = (r : Int) ∧ r ≤ 20 ∧ ∃ a b : Nat → Nat, (∀ t, t < 12 → s.2.2.1 t = ((a t : Nat) : Int)) ∧ (∀ t, t < 12 → s.2.2.2 t = ((b t : Nat) : Int)) ∧
   (∀ t, t < m → a t = lf t ∧ b t = 0) ∧ (ex lf (nF f)).drop f.Carry.toNat = hi a m j ++ (ex lf m).drop r ∧ (ex lf (nF f)).take f.Carry.toNat = hi b m j ++ (ex lf m).take r ∧ (∀ t, nF f ≤ t → a t = lf t) ∧ (∀ t, a t ≤ lf t) ∧ ∀ t, nF f ≤ t → b t = 0) ?_ ?_ ?_ hk.far
 ·rintro j ⟨s1, s2, s3, s4⟩ hj ⟨m, r, hm, h2, h1, hr, a, b, ha, hb, hlow, hd, ht, hx, hle, hy⟩
  obtain ⟨m, rfl⟩ : ∃ m', m = m' + 1 := ⟨m - 1, by omega⟩
  have hn := hF.nfar.2
  obtain rfl : s2 = (m : Int) := by simp only at h2; omega
  obtain rfl : s1 = (r : Int) := h1
  simp only [z1b]
  have e1 : decide ((m : Int) ≥ 0) = true := by simp
  have e2 : decide ((m : Int) < 12) = true := by simp; omega
  have e3 : s3 m = ((lf m : Nat) : Int) := by
   have := ha m (by omega)
   simp only at this
   rw [this, (hlow m (by omega)).1]
  have e4 : (if s3 m < (r : Int) then s3 m else (r : Int)) = ((min r (lf m) : Nat) : Int) := by
   rw [e3]
   split <;> omega
  have hb20 := h20 m
  simp only [e1, e2, Bool.and_self, cond_true, Int.toNat_natCast, e4]
  rw [e3, znc (by omega) (by omega), znc (by omega) (by omega), znc (by omega) (by omega)]
  refine Ok.pure ⟨m, r - min r (lf m), by omega, rfl, by show _ = _; omega, by omega, fun t => if t = m then lf m - r else a t, fun t => if t = m then min r (lf m) else b t, fun t ht => ?_, fun t ht => ?_, fun t ht => ?_, ?_, ?_, fun t ht => ?_, fun t => ?_, fun t ht => ?_⟩
  ·simp only [upd]
   split
   ·omega
   ·exact ha t ht
  ·simp only [upd]
   split
   ·rfl
   ·exact hb t ht
  ·dsimp only
   rw [if_neg (by omega), if_neg (by omega)]
   exact hlow t (by omega)
  ·rw [hd, zls, ex, zOw, ← List.append_assoc]
   rw [if_pos rfl]
   have : r - min r (lf m) = r - lf m := by omega
   rw [this, z6o (g := a) (m := m + 1) (fun t h1 h2 => if_neg (by omega))]
  ·rw [ht, zls, ex, zzw, ← List.append_assoc]
   rw [if_pos rfl]
   have : r - min r (lf m) = r - lf m := by omega
   rw [this, z6o (g := b) (m := m + 1) (fun t h1 h2 => if_neg (by omega))]
  ·dsimp only; rw [if_neg (by omega)]; exact hx t ht
  ·dsimp only
   split
   ·rename_i e; subst e; omega
   ·exact hle t
  ·dsimp only; rw [if_neg (by omega)]; exact hy t ht
 ·rintro ⟨s1, s2, s3, s4⟩ ⟨m, r, hm, h2, h1, hr, a, b, ha, hb, hlow, hd, ht, hx, hle, hy⟩
  obtain rfl : m = 0 := by omega
  obtain rfl : s2 = -1 := by simp only at h2; omega
  simp only [z1b]
  have e1 : decide ((-1 : Int) ≥ 0) = false := by decide
  rw [e1, cond_false]
  rw [zHt] at hd ht
  simp only [ex, List.drop_nil, List.take_nil, List.append_nil] at hd ht
  exact Ok.pure ⟨a, b, ha, hb, hd.symm, ht.symm, hx, hle, hy⟩
 ·refine ⟨nF f, f.Carry.toNat, by omega, rfl, by show f.Carry = _; omega, by omega, lf, fun _ => 0, hg, fun _ _ => rfl, fun t _ => ⟨rfl, rfl⟩, by simp [hi], by simp [hi], fun _ _ => rfl, fun _ => Nat.le_refl _, fun _ _ => rfl⟩
theorem zTv {k : Nat} {f : zd} (hs : zZd f) (hk : Fuel k f) (hF : Fine f) (i : Int) (v1 : (SL Int) × Int × Int × (SL zp) × Int × (SL zl) × Int) (n : Int) (v : Int × Int × (Nat → Int) × (Nat → Int)) {b : Nat → Nat} (hb : ∀ t, t < 12 → v.2.2.2 t = ((b t : Nat) : Int)) :
  Ok (iter (fun s => zvc k ⟨f⟩ i v1 n v s.1 s.2) k (0, 0)) (fun r => r.1 = topF b (fr f) (nF f)) := by
 have hn := hF.nfar.2
 refine Ok.count (nF f) (fun j s => s.2 = (j : Int) ∧ s.1 = topF b (fr f) j) ?_ ?_ ⟨rfl, rfl⟩ hk.far
 ·rintro j ⟨s1, s2⟩ hj ⟨h2, h1⟩
  obtain rfl : s2 = (j : Int) := h2
  obtain rfl : s1 = _ := h1
  simp only [zvc, zXd, zOc hj, cond_true, Int.toNat_natCast]
  have e2 : (decide (0 ≤ (j : Int)) && decide ((j : Int) < 12)) = true := by simp; omega
  have e3 : decide (v.2.2.2 j > 0) = decide (0 < b j) := by
   rw [hb j (by omega)]
   simp
  rw [e2, cond_true, e3, zIm hj]
  simp only [Option.bind_some]
  cases hbj : decide (0 < b j) with
  | true =>
   simp only [cond_true, Option.bind_some]
   refine Ok.pure ⟨zhc hj hs.far, ?_⟩
   show fr f j = _
   rw [topF, if_pos (by simpa using hbj)]
  | false =>
   simp only [cond_false, Option.bind_some]
   refine Ok.pure ⟨zhc hj hs.far, ?_⟩
   show topF b (fr f) j = _
   rw [topF, if_neg (by simpa using hbj)]
 ·rintro ⟨s1, s2⟩ ⟨h2, h1⟩
  obtain rfl : s2 = (nF f : Int) := h2
  simp only [zvc, zig, cond_false]
  exact Ok.pure h1
theorem zpw {k : Nat} {f : zd} (hs : zZd f) (hk : Fuel k f) (hF : Fine f) {i : Nat} (hi : i < nS f) : Ok (zCc k ⟨f⟩ (i : Int)) (fun r => r = zCb f i) := by
 unfold zCc z1c
 simp only [Option.bind_some]
 refine Ok.bind (zKn hs hk hF hi) fun g hg => ?_
 have hpc := zxn (zpf hF hi).2
 have hW := zVm hF hi
 have hlen : (ex (pc (lns f i)) (nF f)).length ≤ 240 := by
  have := zil (f := pc (lns f i)) (b := 20) (n := nF f) fun j _ => hpc.1 j
  have := hF.nfar.2
  omega
 have hC := hF.carry
 refine Ok.bind (P := fun v : (Nat → Int) × Int => v.2 = zCb f i) ?_ fun v hv => Ok.pure hv
 refine Ok.iter (fun j s => ∃ lf : Nat → Nat, (∀ t, t < 12 → s.1 t = ((lf t : Nat) : Int)) ∧ (∀ t, lf t ≤ 20) ∧ (∀ t, nF f ≤ t → lf t = 0) ∧ 0 ≤ s.2 ∧ s.2 + wk f.Carry.toNat (fr f) 0 (ex lf (nF f)) = zCb f i ∧ (ex lf (nF f)).length + j ≤ 240) 240 ?_ ⟨pc (lns f i), fun t _ => hg t, hpc.1, hpc.2, Int.le_refl _, by simp [zCb], by omega⟩ (by have := hk.k0; omega)
 rintro j ⟨s1, s2⟩ hj ⟨lf, h1, h20, hz, h0, hw, hl⟩
 simp only [zYd, z3m, Option.bind_some]
 refine Ok.cond (fun hb => ?_) (fun hb => ?_)
 ·have hne : ex lf (nF f) ≠ [] := by
   intro he
   have hall := zum.1 he
   have : eqI s1 (fun _ => 0) 0 12 = true := (z5j _ _ 12 0).2 fun t _ ht => by
    have := h1 t (by omega)
    simp only at this
    rw [this]
    by_cases e : t < nF f
    ·rw [hall t e]; rfl
    ·rw [hz t (by omega)]; rfl
   rw [this] at hb
   cases hb
  rw [zQf hs.far]
  refine Ok.bind (zWs hk hF _ _ _ h1 h20) fun v ⟨a, b, ha, hb', hd, ht, hx, hle, hy⟩ => ?_
  refine Ok.bind (zTv hs hk hF _ _ _ _ hb') fun w hw' => ?_
  rw [hw']
  obtain ⟨x, t, hxt⟩ : ∃ x t, ex lf (nF f) = x :: t := by
   cases h : ex lf (nF f) with
   | nil => exact absurd h hne
   | cons x t => exact ⟨x, t, rfl⟩
  have htop : topF b (fr f) (nF f) = fr f x := by
   obtain ⟨c, hc⟩ : ∃ c, f.Carry.toNat = c + 1 := ⟨f.Carry.toNat - 1, by omega⟩
   refine z8q (t := t.take c) ?_
   rw [ht, hxt, hc, List.take_succ_cons]
  have hfx : 0 ≤ fr f x ∧ fr f x ≤ 500 := zft hF x (by rw [hxt]; simp)
  rw [htop]
  have hcons := zdr (C := f.Carry.toNat) (by omega) (fr f) x t
  rw [← hxt, ← hd] at hcons
  have hwa := zen (C := f.Carry.toNat) (b := 500) (by omega) (ex a (nF f)) 0 (zft hF)
  have hw : s2 + wk f.Carry.toNat (fr f) 0 (ex lf (nF f)) = zCb f i := hw
  have h0 : 0 ≤ s2 := h0
  rw [znc (n := 2 * fr f x) (by omega) (by omega), znc (by omega) (by omega)]
  refine Ok.pure ⟨?_, a, ha, fun t => by have := hle t; have := h20 t; omega, fun t ht => by rw [hx t ht]; exact hz t ht, by show 0 ≤ s2 + _; omega, by show s2 + 2 * fr f x + _ = _; omega, ?_⟩
  ·rw [hxt] at hl; simp at hl; omega
  ·rw [hd, List.length_drop]
   rw [hxt] at hl ⊢
   simp only [List.length_cons] at hl ⊢
   omega
 ·refine Ok.pure ?_
  have hall : eqI s1 (fun _ => 0) 0 12 = true := by simpa using hb
  have hall := (z5j _ _ 12 0).1 hall
  have he : ex lf (nF f) = [] := zum.2 fun t ht => by
   have hn := hF.nfar.2
   have e1 := h1 t (by omega)
   have e2 := hall t (by omega) (by omega)
   simp only at e1 e2
   rw [e1] at e2
   omega
  have hw : s2 + wk f.Carry.toNat (fr f) 0 (ex lf (nF f)) = zCb f i := hw
  rw [he] at hw
  simp only [wk] at hw
  show s2 = _
  omega
end Go.AM
set_option linter.unusedVariables false
namespace Go.AM
open Go
def pk (f : zd) (i : Nat) : zp := (f.Pick.1[i]?).getD ⟨0, 0⟩
theorem zBy {f : zd} {i : Nat} (h : i < f.Pick.1.length) : f.Pick.1[i] = pk f i := by
 unfold pk
 rw [List.getElem?_eq_getElem h]; rfl
theorem zOx {f : zd} (hF : Fine f) {i : Nat} (h : i < nF f) : z2c 0 300 (pk f i) := by
 have hp : i < f.Pick.1.length := by rw [hF.npick]; exact h
 have := hF.pick i hp
 rwa [zBy hp] at this
def pks (f : zd) (v : zp → Int) (l : List zi) : Int := (l.map fun x => x.Many * v (pk f x.Shelf.toNat)).sum
theorem z9v (f : zd) (v : zp → Int) (l : List zi) (x : zi) : pks f v (l ++ [x]) = pks f v l + x.Many * v (pk f x.Shelf.toNat) := by simp [pks, List.sum_append]
def z4j (f : zd) (i : Nat) (v : zp → Int) : Int := zCb f i * v f.Step + pks f v (lns f i)
theorem zuv {a b x y : Int} (ha : 0 ≤ a) (hax : a ≤ x) (hb : 0 ≤ b) (hby : b ≤ y) : 0 ≤ a * b ∧ a * b ≤ x * y :=
 ⟨Int.mul_nonneg ha hb, Int.mul_le_mul hax hby hb (by omega)⟩
theorem zRv {f : zd} (hF : Fine f) {v : zp → Int} (hv : ∀ s, z2c 0 300 s → 0 ≤ v s ∧ v s ≤ 300) {l : List zi} (hl : zL (nF f) l) : ∀ j, j ≤ l.length → 0 ≤ pks f v (l.take j) ∧ pks f v (l.take j) ≤ 6000 * j
 | 0, _ => by simp [pks]
 | j + 1, hj => by
  have ih := zRv hF hv hl j (by omega)
  have h1 := zNf hl (i := j) (by omega)
  have h2 := (hl j (by omega)).2
  have h3 := hv _ (zOx hF (i := l[j].Shelf.toNat) (by omega))
  have h4 := zuv (a := l[j].Many) (b := v (pk f l[j].Shelf.toNat)) (x := 20) (y := 300) (by omega) h2.2 h3.1 h3.2
  rw [List.take_succ_eq_append_getElem (by omega), z9v]
  push_cast
  omega
theorem zyu {f : zd} (hF : Fine f) {v : zp → Int} (hv : ∀ s, z2c 0 300 s → 0 ≤ v s ∧ v s ≤ 300) (hv' : 0 ≤ v f.Step ∧ v f.Step ≤ 10) {i : Nat} (hi : i < nS f) : (0 ≤ zCb f i * v f.Step ∧ zCb f i * v f.Step ≤ 2400000) ∧ 0 ≤ z4j f i v ∧ z4j f i v ≤ 2472000 := by
 have h1 := zVm hF hi
 have h2 := zuv h1.1 h1.2 hv'.1 hv'.2
 have h3 := zRv hF hv (zpf hF hi).2 (lns f i).length (Nat.le_refl _)
 have h4 := zcd (zpf hF hi).2
 have h5 := hF.nfar.2
 rw [List.take_length] at h3
 have h6 : ((lns f i).length : Int) ≤ 12 := by
  have : (lns f i).length ≤ nF f := h4
  omega
 unfold z4j
 omega
theorem zay : ∀ s, z2c 0 300 s → 0 ≤ s.High ∧ s.High ≤ 300 := fun s h => ⟨by have := h.1; have := h.2.1; omega, h.2.2⟩
theorem zgv {f : zd} (hF : Fine f) : 0 ≤ f.Step.High ∧ f.Step.High ≤ 10 := by have := hF.step; unfold z2c at this; omega
theorem zwn {f : zd} (hs : zZd f) (k : Nat) (n : Int) : zwb k ⟨f⟩ n = some (decide (0 ≤ n) && decide (n ≤ (nS f : Int) - 1)) := by
 simp only [zwb, zjg, zQf hs.slips, Option.bind_some]
theorem zBw {k : Nat} {f : zd} (hs : zZd f) (hk : Fuel k f) (hF : Fine f) {i : Nat} (hi : i < nS f) : zAg k f (i : Int) = some (zCb f i, 0) := by
 obtain ⟨c, hc, hc'⟩ := z1m hs hk
 rw [if_pos hF] at hc'
 subst hc'
 obtain ⟨s, e1, rfl⟩ := zpw hs hk hF hi
 unfold zAg
 rw [hc]
 have t : ((0 : Int) != 0) = false := by decide
 have t2 : (!(decide (0 ≤ (i : Int)) && decide ((i : Int) ≤ (nS f : Int) - 1))) = false := by simp; omega
 simp only [Option.bind_some, t, cond_false, zwn hs, t2, e1]
theorem zAx (k : Nat) {n : Int} {m : Nat} (hm : 0 < m) (hb : m < 1000) : ∃ i, i < m ∧ zjb k n (m : Int) = some (i : Int) := by
 have h1 : decide ((m : Int) < 1) = false := by simp; omega
 have h2 : ((m : Int) == 0) = false := by simp; omega
 have hneg := Int.tmod_lt_of_pos n (show (0 : Int) < (m : Int) by omega)
 have hlow : -(m : Int) < n.tmod (m : Int) := by
  have := Int.lt_tmod_of_pos n (show (0 : Int) < (m : Int) by omega)
  omega
 simp only [zjb, h1, h2, cond_false, zDc]
 by_cases h : n.tmod (m : Int) < 0
 ·refine ⟨(n.tmod (m : Int) + m).toNat, by omega, ?_⟩
  rw [show decide (n.tmod (m : Int) < 0) = true by simpa using h]
  simp only [cond_true, Option.bind_some]
  rw [znc (by omega) (by omega), Int.toNat_of_nonneg (by omega)]
 ·refine ⟨(n.tmod (m : Int)).toNat, by omega, ?_⟩
  rw [show decide (n.tmod (m : Int) < 0) = false by simpa using h]
  simp only [cond_false, Option.bind_some]
  rw [Int.toNat_of_nonneg (by omega)]
end Go.AM
set_option linter.unusedVariables false
namespace Go.AM
open Go
def rv (l : List zi) : List Nat := l.reverse.flatMap fun x => List.replicate x.Many.toNat x.Shelf.toNat
theorem znx (l : List zi) (x : zi) : rv (l ++ [x]) = List.replicate x.Many.toNat x.Shelf.toNat ++ rv l := by
 simp [rv]
theorem zbo {g : Nat → Nat} {s : Nat} : ∀ {N : Nat}, s ≤ N → (∀ j, s ≤ j → j < N → g j = 0) → ex g N = ex g s
 | 0, h, _ => by rw [show s = 0 by omega]
 | N + 1, h, hz => by
  by_cases e : s = N + 1
  ·rw [e]
  ·rw [ex, hz N (by omega) (by omega), List.replicate_zero, List.nil_append]
   exact zbo (by omega) fun j h1 h2 => hz j h1 (by omega)
theorem z4t {n : Nat} {l : List zi} (h : zL n l) : ∀ m, m ≤ l.length → ∀ N : Nat, shB l m < (N : Int) → (∀ j, N ≤ j → pc (l.take m) j = 0) ∧ ex (pc (l.take m)) N = rv (l.take m)
 | 0, _, N, _ => by
  refine ⟨fun j _ => by simp [pc], ?_⟩
  rw [List.take_zero]
  have : ex (pc []) N = ex (pc []) 0 := zbo (by omega) fun j _ _ => rfl
  rw [this]; rfl
 | m + 1, hm, N, hN => by
  have hlt : m < l.length := by omega
  have h1 := h m hlt
  have h2 := zNf h hlt
  have hs : (l[m].Shelf.toNat : Int) = l[m].Shelf := by omega
  have hN' : l[m].Shelf < (N : Int) := by
   have : shB l (m + 1) = l[m].Shelf := (z4f hlt).symm
   omega
  obtain ⟨i1, i2⟩ := z4t h m (by omega) l[m].Shelf.toNat (by omega)
  rw [List.take_succ_eq_append_getElem hlt, z2j, znx]
  have hz : ∀ j, l[m].Shelf.toNat + 1 ≤ j → put1 (pc (l.take m)) l[m] j = 0 := fun j hj => by
   unfold put1
   rw [if_neg (by omega)]
   exact i1 j (by omega)
  refine ⟨fun j hj => hz j (by omega), ?_⟩
  rw [zbo (s := l[m].Shelf.toNat + 1) (by omega) fun j h3 _ => hz j h3, ex]
  congr 1
  ·unfold put1
   rw [if_pos (by omega)]
  ·rw [← i2]
   refine z3r fun j hj => ?_
   unfold put1
   rw [if_neg (by omega)]
theorem zXx (C : Nat) (far : Nat → Int) (r : Nat) : wk C far r [] = 0 := by cases r <;> rfl
end Go.AM
set_option linter.unusedVariables false
namespace Go.AM
open Go
section
variable (T U : Nat → Int)
def InT : Int → List Nat → Prop
 | _, [] => True
 | now, x :: t => now + T x ≤ U x ∧ InT (now + T x) t
def lsum (u : Int) : List Nat → Int
 | [] => 0
 | x :: t => (if U x ≤ u then T x else 0) + lsum u t
def zme (l : List Nat) : Prop := ∀ x ∈ l, lsum T U (U x) l ≤ U x
def CanL (p : Nat) (l : List Nat) : Prop := ∃ g : Nat → Nat, (∀ i ∈ l, g i < p) ∧ ∀ q, zme T U (l.filter fun i => g i == q)
variable {T U} {u : Int}
theorem zzr {l l' : List Nat} (h : l.Perm l') : lsum T U u l = lsum T U u l' := by
 induction h with
 | nil => rfl
 | cons x _ ih => simp only [lsum, ih]
 | swap x y l => simp only [lsum]; omega
 | trans _ _ h1 h2 => rw [h1, h2]
theorem zxo (hT : ∀ i, 0 ≤ T i) : ∀ l, 0 ≤ lsum T U u l
 | [] => by simp [lsum]
 | x :: t => by
  have := zxo hT t
  have := hT x
  simp only [lsum]
  split <;> omega
theorem zis (hT : ∀ i, 0 ≤ T i) {l l' : List Nat} (h : l.Sublist l') : lsum T U u l ≤ lsum T U u l' := by
 induction h with
 | slnil => exact Int.le_refl _
 | cons x _ ih =>
  have := hT x
  simp only [lsum]
  split <;> omega
 | cons_cons x _ ih => simp only [lsum]; omega
theorem zme.perm {l l' : List Nat} (h : l.Perm l') (hf : zme T U l) : zme T U l' := fun x hx => by
 rw [← zzr h]
 exact hf x (h.mem_iff.2 hx)
theorem zme.sub (hT : ∀ i, 0 ≤ T i) {l l' : List Nat} (h : l.Sublist l') (hf : zme T U l') : zme T U l := fun x hx => by
 have := hf x (h.subset hx)
 have := zis (U := U) (u := U x) hT h
 omega
theorem zme.nil : zme T U [] := fun x hx => by cases hx
theorem InT.low (hT : ∀ i, 0 ≤ T i) : ∀ {l : List Nat} {now : Int}, InT T U now l → ∀ u, (∃ x ∈ l, U x ≤ u) → now + lsum T U u l ≤ u
 | [], _, _, u, ⟨x, hx, _⟩ => by cases hx
 | x :: t, now, h, u, hex => by
  obtain ⟨h1, h2⟩ := h
  have hTx := hT x
  simp only [lsum]
  by_cases ht : ∃ y ∈ t, U y ≤ u
  ·have := InT.low hT h2 u ht
   split <;> omega
  ·have hx : U x ≤ u := by
    obtain ⟨y, hy, hyu⟩ := hex
    rcases List.mem_cons.1 hy with rfl | hy
    ·exact hyu
    ·exact absurd ⟨y, hy, hyu⟩ ht
   have h0 : lsum T U u t = 0 := by
    have : ∀ l : List Nat, (¬ ∃ y ∈ l, U y ≤ u) → lsum T U u l = 0 := by
     intro l
     induction l with
     | nil => intro _; rfl
     | cons a l ih =>
      intro h
      simp only [lsum]
      rw [if_neg (fun e => h ⟨a, by simp, e⟩), ih fun ⟨y, hy, e⟩ => h ⟨y, by simp [hy], e⟩]
      omega
    exact this t ht
   rw [if_pos hx, h0]
   omega
theorem InT.fits (hT : ∀ i, 0 ≤ T i) {l : List Nat} (h : InT T U 0 l) : zme T U l := fun x hx => by
 have := InT.low hT h (U x) ⟨x, hx, Int.le_refl _⟩
 omega
theorem InT.of_sorted (hT : ∀ i, 0 ≤ T i) : ∀ {l : List Nat} {now : Int}, l.Pairwise (fun a b => U a ≤ U b) → (∀ x ∈ l, now + lsum T U (U x) l ≤ U x) → InT T U now l
 | [], _, _, _ => trivial
 | x :: t, now, hs, h => by
  rw [List.pairwise_cons] at hs
  have hx := h x (by simp)
  have h0 := zxo (U := U) (u := U x) hT t
  simp only [lsum, Int.le_refl, if_true] at hx
  refine ⟨by omega, InT.of_sorted hT hs.2 fun y hy => ?_⟩
  have := h y (by simp [hy])
  simp only [lsum] at this
  rw [if_pos (hs.1 y hy)] at this
  omega
theorem zme.inT (hT : ∀ i, 0 ≤ T i) {l : List Nat} (hs : l.Pairwise fun a b => U a ≤ U b) (h : zme T U l) : InT T U 0 l :=
 InT.of_sorted hT hs fun x hx => by have := h x hx; omega
theorem CanL.perm {p : Nat} {l l' : List Nat} (h : l.Perm l') : CanL T U p l → CanL T U p l' := fun ⟨g, h1, h2⟩ =>
 ⟨g, fun i hi => h1 i (h.mem_iff.2 hi), fun q => (h2 q).perm (h.filter _)⟩
theorem CanL.sub (hT : ∀ i, 0 ≤ T i) {p : Nat} {l l' : List Nat} (h : l.Sublist l') : CanL T U p l' → CanL T U p l := fun ⟨g, h1, h2⟩ =>
 ⟨g, fun i hi => h1 i (h.subset hi), fun q => (h2 q).sub hT (h.filter _)⟩
theorem CanL.more {p q : Nat} (hpq : p ≤ q) {l : List Nat} : CanL T U p l → CanL T U q l := fun ⟨g, h1, h2⟩ =>
 ⟨g, fun i hi => by have := h1 i hi; omega, h2⟩
theorem CanL.nil (p : Nat) : CanL T U p [] := ⟨fun _ => 0, fun i hi => (by cases hi), fun q => zme.nil⟩
theorem CanL.zero {l : List Nat} : CanL T U 0 l ↔ l = [] := by
 constructor
 ·rintro ⟨g, h1, _⟩
  cases l with
  | nil => rfl
  | cons x t => exact absurd (h1 x (by simp)) (by omega)
 ·rintro rfl; exact .nil 0
theorem CanL.step {p : Nat} {l : List Nat} {a : Nat} (ha : a ∈ l) : CanL T U (p + 1) l ↔ ∃ sub : Nat → Bool, sub a = true ∧ zme T U (l.filter sub) ∧ CanL T U p (l.filter fun i => !sub i) := by
 constructor
 ·rintro ⟨g, h1, h2⟩
  refine ⟨fun i => g i == g a, by simp, h2 _, fun i => if g i = p then g a else g i, fun i hi => ?_, fun q => ?_⟩
  ·have hi' := List.mem_filter.1 hi
   have hlt := h1 i hi'.1
   have hne : g i ≠ g a := by simpa using hi'.2
   dsimp only
   split
   ·have := h1 a ha; omega
   ·omega
  ·by_cases hq : q = g a
   ·subst hq
    have e : ((l.filter fun i => !(g i == g a)).filter fun i => (if g i = p then g a else g i) == g a) = (l.filter fun i => g i == p).filter fun i => !(g i == g a) := by
     rw [List.filter_filter, List.filter_filter]
     refine List.filter_congr fun i _ => ?_
     by_cases h : g i = g a
     ·simp [h]
     ·by_cases h' : g i = p <;> simp [h, h']
    rw [e]
    by_cases hp : g a = p
    ·have : (l.filter fun i => g i == p).filter (fun i => !(g i == g a)) = [] := by
      rw [List.filter_filter]
      refine List.filter_eq_nil_iff.2 fun i _ => ?_
      rw [hp]; simp
     rw [this]
     exact .nil
    ·have : (l.filter fun i => g i == p).filter (fun i => !(g i == g a)) = l.filter fun i => g i == p := by
      rw [List.filter_filter]
      refine List.filter_congr fun i _ => ?_
      by_cases h : g i = p
      ·have : ¬ p = g a := fun e => hp e.symm
       simp [h, this]
      ·simp [h]
     rw [this]
     exact h2 p
   ·by_cases hqp : q = p
    ·have : ((l.filter fun i => !(g i == g a)).filter fun i => (if g i = p then g a else g i) == q) = [] := by
      rw [List.filter_filter]
      refine List.filter_eq_nil_iff.2 fun i _ => ?_
      subst hqp
      by_cases h : g i = q
      ·have : ¬ g a = q := fun e => hq e.symm
       simp [h, this]
      ·simp [h]
     rw [this]
     exact .nil
    ·have : ((l.filter fun i => !(g i == g a)).filter fun i => (if g i = p then g a else g i) == q) = l.filter fun i => g i == q := by
      rw [List.filter_filter]
      refine List.filter_congr fun i _ => ?_
      by_cases h : g i = p
      ·have e1 : (g a == q) = false := by simp; omega
       have e2 : (p == q) = false := by simp; omega
       simp [h, e1, e2]
      ·by_cases h' : g i = q
       ·simp [h', hqp, hq]
       ·simp [h, h']
     rw [this]
     exact h2 q
 ·rintro ⟨sub, hsa, hf, g, h1, h2⟩
  refine ⟨fun i => if sub i then p else g i, fun i hi => ?_, fun q => ?_⟩
  ·dsimp only
   cases hs : sub i with
   | true => simp
   | false =>
    have := h1 i (List.mem_filter.2 ⟨hi, by simp [hs]⟩)
    simp; omega
  ·by_cases hq : q = p
   ·have : (l.filter fun i => (if sub i = true then p else g i) == q) = l.filter sub := by
     refine List.filter_congr fun i hi => ?_
     cases hs : sub i with
     | true => simp [hq]
     | false =>
      have := h1 i (List.mem_filter.2 ⟨hi, by simp [hs]⟩)
      simp; omega
    rw [this]
    exact hf
   ·have : (l.filter fun i => (if sub i = true then p else g i) == q) = (l.filter fun i => !sub i).filter fun i => g i == q := by
     rw [List.filter_filter]
     refine List.filter_congr fun i hi => ?_
     cases hs : sub i with
     | true => simp; omega
     | false => simp
    rw [this]
    exact h2 q
end
end Go.AM
set_option linter.unusedVariables false
namespace Go.AM
open Go
abbrev TT (f : zd) (i : Nat) : Int := z4j f i (·.High)
abbrev UU (f : zd) (i : Nat) : Int := (slp f i).Until
def mem (n S : Nat) : List Nat := (List.range n).filter fun i => S.testBit i
def cst (q : List Nat) : List Int := q.map fun i : Nat => (i : Int)
theorem znz {f : zd} (hF : Fine f) {i : Nat} (h : i < nS f) : 0 ≤ TT f i ∧ TT f i ≤ 2472000 := (zyu hF zay (zgv hF) h).2
theorem zqp {f : zd} (hF : Fine f) (i : Nat) : 0 ≤ TT f i := by
 by_cases h : i < nS f
 ·exact (znz hF h).1
 ·have hl : lns f i = [] := by
   show (slp f i).Lines.1 = []
   unfold slp
   rw [List.getElem?_eq_none (by have e : f.Slips.1.length = nS f := rfl; omega)]; rfl
  have h0 : zCb f i = 0 := by
   unfold zCb
   rw [hl]
   have : ex (pc []) (nF f) = [] := zum.2 fun j _ => rfl
   rw [this]; rfl
  show 0 ≤ z4j f i _
  unfold z4j
  rw [hl, h0]
  simp [pks]
end Go.AM
set_option linter.unusedVariables false
namespace Go.AM
open Go
def low (S : Nat) : Nat := ((List.range 9).find? fun i => S.testBit i).getD 0
section
variable {T U : Nat → Int}
end
def Ros (f : zd) (p S : Nat) (rows : List (SL Int)) : Prop := rows.length = p ∧ ∃ qs : List (List Nat), rows.map (·.1) = qs.map cst ∧ qs.flatten.Perm (mem (nS f) S) ∧ ∀ q ∈ qs, InT (TT f) (UU f) 0 q
abbrev Can (f : zd) (p S : Nat) : Prop := CanL (TT f) (UU f) p (mem (nS f) S)
def zTw (f : zd) (p S : Nat) (l : SL (SL Int)) : Prop := (l.2 = .nil → ¬ Can f p S) ∧ (l.2 ≠ .nil → Can f p S ∧ Ros f p S l.1)
abbrev Memo := List (zr × SL (SL Int))
def zVs (f : zd) (u : Memo) : Prop := ∀ p S : Nat, S < 2 ^ nS f → ∀ l, z6 zu ⟨(S : Int), (p : Int)⟩ u = some l → zTw f p S l
theorem zwt (a b : zr) : zu a b = true ↔ a = b := by
 cases a; cases b
 simp [zu]
theorem zVs.set {f : zd} {u : Memo} (h : zVs f u) {p S : Nat} {l : SL (SL Int)} (hl : zTw f p S l) : zVs f (mset zu ⟨(S : Int), (p : Int)⟩ l u) := by
 intro p' S' hS' l' h'
 rw [zvs zwt] at h'
 split at h'
 ·rename_i e
  simp only [zr.mk.injEq] at e
  obtain ⟨e1, e2⟩ := e
  obtain rfl : S' = S := by omega
  obtain rfl : p' = p := by omega
  simp only [Option.some.injEq] at h'
  subst h'
  exact hl
 ·exact h p' S' hS' l' h'
end Go.AM
namespace Go.AM
open Go
section
variable {α β : Type}
theorem zfi {n : Nat} (h : n ≤ 1000000) : decide (n ≤ LIM) = true := decide_eq_true (by show _ ≤ 4398046511104; omega)
end
end Go.AM
namespace Go.AM
open Go
section
variable {α β : Type}
theorem zJs : ∀ {l l' : List Int}, l.Pairwise (· < ·) → l'.Pairwise (· < ·) → (∀ x, x ∈ l ↔ x ∈ l') → l = l'
 | [], [], _, _, _ => rfl
 | [], b :: t, _, _, h => by have := (h b).2 (.head _); cases this
 | a :: t, [], _, _, h => by have := (h a).1 (.head _); cases this
 | a :: t, b :: t', h1, h2, h => by
  obtain ⟨h3, h4⟩ := List.pairwise_cons.1 h1
  obtain ⟨h5, h6⟩ := List.pairwise_cons.1 h2
  have hab : a = b := by
   have ha := (h a).1 (.head _)
   have hb := (h b).2 (.head _)
   cases ha with
   | head => rfl
   | tail _ ha =>
    cases hb with
    | head => rfl
    | tail _ hb =>
     have := h5 a ha
     have := h3 b hb
     omega
  subst hab
  rw [zJs h4 h6 fun x => ?_]
  have hx := h x
  constructor
  ·intro hm
   have := h3 x hm
   cases hx.1 (.tail _ hm) with
   | head => omega
   | tail _ h => exact h
  ·intro hm
   have := h5 x hm
   cases hx.2 (.tail _ hm) with
   | head => omega
   | tail _ h => exact h
end
end Go.AM
set_option linter.unusedVariables false
namespace Go.AM
open Go
theorem z5s {k : Nat} {p q : SL Int} (hk : p.1.length < k) (hp : p.1.length < 9223372036854775808) : Ok (z2b k p q) (fun r => r = true ↔ p.1 = q.1) := by
 unfold z2b
 by_cases hl : p.1.length = q.1.length
 ·have c0 : ((p.1.length : Int) == (q.1.length : Int)) = true := by simp [hl]
  rw [c0]
  refine Ok.bind (Ok.count p.1.length (fun j z => z.2 ≤ (j : Int) ∧ ((z.1 = true ∧ z.2 = (j : Int) ∧ p.1.take j = q.1.take j) ∨ (z.1 = false ∧ p.1 ≠ q.1))) (Q := fun z : Bool × Int => z.1 = true ↔ p.1 = q.1) ?_ ?_ ⟨Int.le_refl _, .inl ⟨rfl, rfl, rfl⟩⟩ hk) fun r hr => Ok.pure hr
  ·rintro j ⟨b, i⟩ hj ⟨h0, h⟩
   rcases h with ⟨hb, hi, ht⟩ | ⟨hb, hne⟩
   ·obtain rfl : b = true := hb
    obtain rfl : i = (j : Int) := hi
    have hj2 : j < q.1.length := by omega
    simp only [znb, zob, cond_true, zOc hj, Option.bind_some, zSb hj, zSb hj2, zhc hj hp]
    refine Ok.pure ⟨Int.le_refl _, ?_⟩
    by_cases e : p.1[j] = q.1[j]
    ·left
     refine ⟨by simp [e], rfl, ?_⟩
     rw [List.take_succ_eq_append_getElem hj, List.take_succ_eq_append_getElem hj2, e]
     have ht' : p.1.take j = q.1.take j := ht
     rw [ht']
    ·right
     refine ⟨by simp [e], fun h => e ?_⟩
     simp only [h]
   ·obtain rfl : b = false := hb
    simp only [znb, zob, cond_false, Option.bind_some]
    exact Ok.pure ⟨fun h => Bool.noConfusion h, fun h => absurd h hne⟩
  ·rintro ⟨b, i⟩ ⟨h0, h⟩
   rcases h with ⟨hb, hi, ht⟩ | ⟨hb, hne⟩
   ·obtain rfl : b = true := hb
    obtain rfl : i = (p.1.length : Int) := hi
    have c1 : decide ((p.1.length : Int) < (p.1.length : Int)) = false := by simp
    simp only [znb, zob, cond_true, c1, Option.bind_some, cond_false]
    refine Ok.pure ⟨fun _ => ?_, fun _ => rfl⟩
    have ht' : p.1.take p.1.length = q.1.take p.1.length := ht
    rwa [List.take_length, hl, List.take_length] at ht'
   ·obtain rfl : b = false := hb
    simp only [znb, zob, cond_false, Option.bind_some]
    exact Ok.pure ⟨fun h => Bool.noConfusion h, fun h => absurd h hne⟩
 ·have c0 : ((p.1.length : Int) == (q.1.length : Int)) = false := by simp; omega
  rw [c0]
  refine Ok.bind (Ok.count 0 (fun j z => z.1 = false) (Q := fun z : Bool × Int => z.1 = false) (fun j z hj => absurd hj (by omega)) ?_ rfl (by omega)) fun r hr => Ok.pure ?_
  ·rintro ⟨b, i⟩ hb
   obtain rfl : b = false := hb
   simp only [znb, zob, cond_false, Option.bind_some]
   exact Ok.pure rfl
  ·rw [hr]
   exact ⟨fun h => Bool.noConfusion h, fun h => absurd (congrArg List.length h) hl⟩
structure zlu (S n : Nat) (l : List Int) : Prop where
 climbs : l.Pairwise (· < ·)
 mem : ∀ x, x ∈ l ↔ ∃ i : Nat, x = (i : Int) ∧ i < n ∧ S.testBit i = true
 len : l.length ≤ n
theorem zlu.eq {S n : Nat} {l l' : List Int} (h : zlu S n l) (h' : zlu S n l') : l = l' := zJs h.climbs h'.climbs fun x => (h.mem x).trans (h'.mem x).symm
def ints (l : List Nat) : List Int := l.map fun i : Nat => (i : Int)
theorem zqw {a c : List Nat} (h : ints a = ints c) : a = c := by
 refine (List.map_inj_right (f := fun i : Nat => (i : Int)) fun x y h => ?_).1 h
 exact Int.ofNat.inj h
abbrev zTr (l : List Nat) : Prop := l.Pairwise (· < ·)
def ltL (a c : List Nat) : Prop := ∃ x, x ∈ a ∧ x ∉ c ∧ ∀ y, y < x → (y ∈ a ↔ y ∈ c)
theorem zjx {a c : List Nat} (h : ltL a c) (g : ltL c a) : False := by
 obtain ⟨x, h1, h2, h3⟩ := h
 obtain ⟨y, g1, g2, g3⟩ := g
 rcases Nat.lt_trichotomy x y with h4 | h4 | h4
 ·exact h2 ((g3 x h4).2 h1)
 ·subst h4; exact h2 g1
 ·exact g2 ((h3 y h4).2 g1)
def leS (a c : List Nat) : Prop := a.length < c.length ∨ (a.length = c.length ∧ (a = c ∨ ltL a c))
theorem zVv {a c : List Nat} (h : leS a c) (g : leS c a) : a = c := by
 rcases h with h | ⟨h, h'⟩ <;> rcases g with g | ⟨g, g'⟩
 ·omega
 ·omega
 ·omega
 ·rcases h' with rfl | h'
  ·rfl
  ·rcases g' with rfl | g'
   ·rfl
   ·exact (zjx h' g').elim
structure Best (n : Nat) (P : List Nat → Prop) (l : List Nat) : Prop where
 climb : zTr l
 lt : ∀ i ∈ l, i < n
 ok : P l
 least : ∀ l', zTr l' → (∀ i ∈ l', i < n) → P l' → leS l l'
theorem Best.eq {n : Nat} {P : List Nat → Prop} {l l' : List Nat} (h : Best n P l) (g : Best n P l') : l = l' := zVv (h.least l' g.climb g.lt g.ok) (g.least l h.climb h.lt h.ok)
end Go.AM
set_option linter.unusedVariables false
namespace Go.AM
open Go
abbrev zFp (f : zd) (p : Nat) : Prop := CanL (TT f) (UU f) p (List.range (nS f))
def z1n (b : zd) (p : Nat) (l : List Nat) : Prop := CanL (TT b) (UU b) p ((List.range (nS b)).filter fun i => !l.contains i)
end Go.AM
set_option linter.unusedVariables false
namespace Go.AM
open Go
section
variable {T U : Nat → Int}
def zUu (T U : Nat → Int) (now : Int) (l : List Nat) : Prop := ∀ x ∈ l, now + lsum T U (U x) l ≤ U x
theorem zUu.perm {now : Int} {l l' : List Nat} (h : l.Perm l') (hf : zUu T U now l) : zUu T U now l' := fun x hx => by
 rw [← zzr h]
 exact hf x (h.mem_iff.2 hx)
end
end Go.AM
set_option linter.unusedVariables false
namespace Go.AM
open Go
def am : List zi → Nat → Int
 | [], _ => 0
 | x :: t, s => (if x.Shelf = (s : Int) then x.Many else 0) + am t s
theorem zrl : ∀ (a b : List zi) (s : Nat), am (a ++ b) s = am a s + am b s
 | [], b, s => by simp [am]
 | x :: a, b, s => by simp only [List.cons_append, am, zrl a b s]; omega
theorem zRf (l : List zi) (x : zi) (s : Nat) : am (l ++ [x]) s = am l s + if x.Shelf = (s : Int) then x.Many else 0 := by
 rw [zrl]; simp [am]
def z7 : List zi → Int
 | [] => 0
 | x :: t => x.Many + z7 t
theorem zci : ∀ (a b : List zi), z7 (a ++ b) = z7 a + z7 b
 | [], b => by simp [z7]
 | x :: a, b => by simp only [List.cons_append, z7, zci a b]; omega
theorem zad (l : List zi) (x : zi) : z7 (l ++ [x]) = z7 l + x.Many := by
 rw [zci]; simp [z7]
def zFn (l : List zi) : Prop := ∀ x ∈ l, 1 ≤ x.Many ∧ x.Many ≤ 20
theorem zBc {n : Nat} {l : List zi} (h : zL n l) : zFn l := fun x hx => by
 obtain ⟨i, hi, rfl⟩ := List.getElem_of_mem hx
 exact (h i hi).2
theorem zdq : ∀ {l : List zi}, zFn l → ∀ s, 0 ≤ am l s ∧ am l s ≤ 20 * l.length
 | [], _, s => by simp [am]
 | x :: t, h, s => by
  have h1 := zdq (l := t) (fun y hy => h y (by simp [hy])) s
  have h2 := h x (by simp)
  have e : (20 * ((x :: t).length : Int)) = 20 * (t.length : Int) + 20 := by rw [List.length_cons]; push_cast; omega
  simp only [am]
  split <;> omega
theorem zlg : ∀ {l : List zi}, zFn l → (l.length : Int) ≤ z7 l ∧ z7 l ≤ 20 * l.length
 | [], _ => by simp [z7]
 | x :: t, h => by
  have h1 := zlg (l := t) (fun y hy => h y (by simp [hy]))
  have h2 := h x (by simp)
  have e : ((x :: t).length : Int) = (t.length : Int) + 1 := by rw [List.length_cons]; push_cast; rfl
  simp only [z7]
  omega
def tot : List (List zi) → Nat → Int
 | [], _ => 0
 | t :: ts, s => am t s + tot ts s
theorem zEp : ∀ (a b : List (List zi)) (s : Nat), tot (a ++ b) s = tot a s + tot b s
 | [], b, s => by simp [tot]
 | x :: a, b, s => by simp only [List.cons_append, tot, zEp a b s]; omega
theorem zrk (a : List (List zi)) (t : List zi) (s : Nat) : tot (a ++ [t]) s = tot a s + am t s := by
 rw [zEp]; simp [tot]
def z7b (f : zd) (t : List zi) : Prop := t ≠ [] ∧ zL (nF f) t ∧ z7 t ≤ f.Carry
theorem z7b.am {f : zd} (hF : Fine f) {t : List zi} (h : zL (nF f) t) (s : Nat) : 0 ≤ am t s ∧ am t s ≤ 240 := by
 have h1 := zdq (zBc h) s
 have h2 := zcd h
 have h3 := hF.nfar
 omega
theorem zup {f : zd} (hF : Fine f) : ∀ {ts : List (List zi)}, (∀ t ∈ ts, z7b f t) → ∀ s, 0 ≤ tot ts s ∧ tot ts s ≤ 240 * ts.length
 | [], _, s => by simp [tot]
 | t :: ts, h, s => by
  have h1 := zup hF (ts := ts) (fun y hy => h y (by simp [hy])) s
  have h2 := z7b.am hF (h t (by simp)).2.1 s
  have e : (240 * ((t :: ts).length : Int)) = 240 * (ts.length : Int) + 240 := by rw [List.length_cons]; push_cast; omega
  simp only [tot]
  omega
def zHh (f : zd) (i : Nat) (ts : List (List zi)) : Prop := (∀ t ∈ ts, z7b f t) ∧ ∀ s, s < nF f → tot ts s = ((pc (lns f i) s : Nat) : Int)
theorem zsq {n : Nat} {l : List zi} (h : zL n l) : ∀ m, m ≤ l.length → ∀ s, am (l.take m) s = ((pc (l.take m) s : Nat) : Int)
 | 0, _, s => by simp [am, pc]
 | m + 1, hm, s => by
  have hlt : m < l.length := by omega
  have h1 := h m hlt
  have h2 := zNf h hlt
  have ih := zsq h m (by omega) s
  have hz := (z4t h m (by omega) l[m].Shelf.toNat (by omega)).1
  rw [List.take_succ_eq_append_getElem hlt, zRf, z2j, ih]
  unfold put1
  by_cases e : l[m].Shelf = (s : Int)
  ·rw [if_pos e, if_pos (by omega), hz s (by omega)]
   omega
  ·rw [if_neg e, if_neg (by omega)]
   omega
theorem zZw {n : Nat} {l : List zi} (h : zL n l) (s : Nat) : am l s = ((pc l s : Nat) : Int) := by
 have := zsq h l.length (Nat.le_refl _) s
 rwa [List.take_length] at this
def zqv (k : Nat) (R : List (SL zi)) : Prop := (R.length < k ∧ R.length ≤ 10000000000000) ∧ ∀ l ∈ R, l.1.length < k ∧ l.1.length < 9223372036854775808
def zPb (f : zd) (g : Nat → Int) (left : List Int) : Prop := left.length = nF f ∧ ∀ s, s < nF f → left[s]? = some (g s)
theorem zPb.idx {f : zd} {g : Nat → Int} {left : List Int} (h : zPb f g left) {s : Nat} (hs : s < nF f) : idx left (s : Int) = some (g s) := by
 simpa [Go.AM.idx] using h.2 s hs
theorem zPb.set {f : zd} {g : Nat → Int} {left : List Int} (h : zPb f g left) {s : Nat} (hs : s < nF f) {v : Int} {g' : Nat → Int} (h1 : g' s = v) (h2 : ∀ x, x ≠ s → g' x = g x) : zPb f g' (left.set s v) := by
 refine ⟨by rw [List.length_set]; exact h.1, fun x hx => ?_⟩
 by_cases e : x = s
 ·subst e
  rw [List.getElem?_set_self (by rw [h.1]; exact hs), h1]
 ·rw [List.getElem?_set_ne (fun h => e h.symm), h.2 x hx, h2 x e]
def zVr (f : zd) (n : Int) (R : List (SL zi)) (r : Bool × Int) : Prop :=
 (¬ Fine f ∧ r = (false, 30)) ∨ (Fine f ∧ ¬ (0 ≤ n ∧ n < (nS f : Int)) ∧ r = (false, 31)) ∨ (Fine f ∧ ∃ i : Nat, i < nS f ∧ n = (i : Int) ∧ r.2 = 0 ∧ (r.1 = true ↔ zHh f i (R.map (·.1))))
theorem ztl (f : zd) (n : Int) : (decide (0 ≤ n) && decide (n ≤ (nS f : Int) - 1)) = true ↔ 0 ≤ n ∧ n < (nS f : Int) := by
 simp only [Bool.and_eq_true, decide_eq_true_eq]
 omega
end Go.AM
set_option linter.unusedVariables false
namespace Go.AM
open Go
def zzs (n : Nat) (l : List zi) (i : Nat) (h : i < l.length) : Prop := (shB l i + 1 ≤ l[i].Shelf ∧ l[i].Shelf ≤ (n : Int) - 1) ∧ (1 ≤ l[i].Many ∧ l[i].Many ≤ 20)
theorem z9r (l : List zi) (a : Nat) : ∀ {j}, j ≤ a → shB (l.take a) j = shB l j
 | 0, _ => rfl
 | j + 1, h => by
  show sh (l.take a) j = sh l j
  unfold sh
  rw [List.getElem?_take, if_pos (by omega)]
theorem zgq {n : Nat} {l : List zi} {a : Nat} (h : ∀ i (hi : i < l.length), i < a → zzs n l i hi) : zL n (l.take a) := fun j hj => by
 have hj2 : j < a ∧ j < l.length := by rw [List.length_take] at hj; omega
 have := h j hj2.2 hj2.1
 rw [z9r l a (by omega), List.getElem_take]
 exact this
theorem zNx {n : Nat} {l : List zi} (h : zL n l) {s : Nat} (hs : n ≤ s) : am l s = 0 := by
 rw [zZw h, (zxn h).2 s hs]
 rfl
theorem zHx {n : Nat} {l : List zi} (h : zL n l) (a s : Nat) : am (l.take a) s ≤ am l s := by
 have h1 : am l s = am (l.take a) s + am (l.drop a) s := by rw [← zrl, List.take_append_drop]
 have h2 := (zdq (l := l.drop a) (fun x hx => zBc h x (List.mem_of_mem_drop hx)) s).1
 omega
theorem zFr : ∀ (L : List (List zi)) {j : Nat} (h : j < L.length) (x : Nat), tot L x = tot (L.take j) x + am L[j] x + tot (L.drop (j + 1)) x
 | t :: ts, 0, _, x => by simp [tot]
 | t :: ts, j + 1, h, x => by
  have := zFr ts (j := j) (by simpa using h) x
  simp only [List.take_succ_cons, List.drop_succ_cons, List.getElem_cons_succ, tot]
  omega
theorem zdu {k : Nat} {f : zd} (hs : zZd f) (hk : Fuel k f) (hF : Fine f) (i : Int) (p2 : SL (SL zi)) (s1 : Int) {t : SL zi} (hrow : t.1.length < k ∧ t.1.length < 9223372036854775808) {left0 : Nat → Int} (h20 : ∀ s, s < nF f → 0 ≤ left0 s ∧ left0 s ≤ 20) :
  Ok (iter (fun s => zrd k f i p2 s1 t s.1 s.2.1 s.2.2.1 s.2.2.2) k ((-1), 0, 0, left0)) (fun r => match r with
   | .inl _ => ¬ (zL (nF f) t.1 ∧ ∀ s, s < nF f → am t.1 s ≤ left0 s)
   | .inr z => zL (nF f) t.1 ∧ z.2.1 = z7 t.1 ∧ (∀ s, s < 12 → z.2.2.2 s = left0 s - am t.1 s) ∧ ∀ s, s < nF f → 0 ≤ z.2.2.2 s) := by
 have h12 := hF.nfar
 have h0 := hk.k0
 refine Ok.count t.1.length (fun a s => s.2.2.1 = (a : Int) ∧ s.1 = shB t.1 a ∧ s.2.1 = z7 (t.1.take a) ∧ (∀ x, x < 12 → s.2.2.2 x = left0 x - am (t.1.take a) x) ∧ (∀ x, x < nF f → 0 ≤ s.2.2.2 x) ∧ ∀ i (hi : i < t.1.length), i < a → zzs (nF f) t.1 i hi) ?_ ?_ ⟨rfl, rfl, rfl, fun x _ => by simp [am], fun x hx => (h20 x hx).1, fun i _ h => absurd h (by omega)⟩ hrow.1
 ·rintro a ⟨last, all, a', left⟩ ha ⟨ha', hlast, hall, hleft, hpos, hP⟩
  obtain rfl : a' = (a : Int) := ha'
  obtain rfl : last = shB t.1 a := hlast
  obtain rfl : all = z7 (t.1.take a) := hall
  have hleft : ∀ x, x < 12 → left x = left0 x - am (t.1.take a) x := hleft
  have hpos : ∀ x, x < nF f → 0 ≤ left x := hpos
  have hlt := zgq hP
  have hlen : a ≤ 12 := by
   have h1 := zcd hlt
   rw [List.length_take] at h1
   omega
  obtain ⟨x, hx⟩ : ∃ x, x = t.1[a] := ⟨_, rfl⟩
  have hlow := zwm (l := t.1) (j := a) (by omega) fun i hi hij => (hP i hi hij).1.1
  have hup : shB t.1 a ≤ (nF f : Int) - 1 := by
   cases a with
   | zero => simp only [shB]; omega
   | succ j =>
    have := (hP j (by omega) (by omega)).1.2
    rw [z4f (by omega)] at this
    simp only [shB]
    omega
  have w0 : w64 (shB t.1 a + 1) = shB t.1 a + 1 := znc (by omega) (by omega)
  have wn : w64 ((f.Far.1.length : Int) - 1) = (nF f : Int) - 1 := zQf hs.far
  have e1 : idx t.1 (a : Int) = some x := by rw [hx]; exact zSb ha
  have hb2 := zlg (zBc hlt)
  have hll : (t.1.take a).length ≤ 12 := by rw [List.length_take]; omega
  simp only [zrd, zOc ha, cond_true, e1, Option.bind_some, zcg, zjg, w0, wn]
  by_cases hc1 : shB t.1 a + 1 ≤ x.Shelf ∧ x.Shelf ≤ (nF f : Int) - 1
  ·have d1 : (decide (shB t.1 a + 1 ≤ x.Shelf) && decide (x.Shelf ≤ (nF f : Int) - 1)) = true := by
    simp only [Bool.and_eq_true, decide_eq_true_eq]; exact hc1
   obtain ⟨s, hse⟩ : ∃ s : Nat, x.Shelf = (s : Int) := ⟨x.Shelf.toNat, by omega⟩
   have hsn : s < nF f := by omega
   have d2 : (decide (0 ≤ x.Shelf) && decide (x.Shelf < 12)) = true := by
    simp only [Bool.and_eq_true, decide_eq_true_eq]; omega
   have hls := hleft s (by omega)
   have hps := hpos s hsn
   have hb := zdq (zBc hlt) s
   have h20s := h20 s hsn
   rw [d1, d2]
   simp only [Bool.not_true, cond_false, cond_true, Option.bind_some, hse, Int.toNat_natCast]
   by_cases hc2 : 1 ≤ x.Many ∧ x.Many ≤ left s
   ·have d3 : (decide (1 ≤ x.Many) && decide (x.Many ≤ left s)) = true := by
     simp only [Bool.and_eq_true, decide_eq_true_eq]; exact hc2
    have w1 : w64 (z7 (t.1.take a) + x.Many) = z7 (t.1.take (a + 1)) := by
     rw [List.take_succ_eq_append_getElem ha, ← hx, zad]; exact znc (by omega) (by omega)
    have w2 : w64 (left s - x.Many) = left s - x.Many := znc (by omega) (by omega)
    rw [d3, w1, w2]
    simp only [Bool.not_true, cond_false]
    refine Ok.pure ⟨zhc ha hrow.2, ?_, rfl, fun y hy => ?_, fun y hy => ?_, fun i hi hia => ?_⟩
    ·show (s : Int) = sh t.1 a
     rw [← z4f ha, ← hx, hse]
    ·show upd left s (left s - x.Many) y = _
     rw [List.take_succ_eq_append_getElem ha, ← hx, zRf]
     unfold upd
     by_cases e : y = s
     ·rw [if_pos e, if_pos (by omega), e, hls]; omega
     ·rw [if_neg e, if_neg (by omega), hleft y hy]; omega
    ·show 0 ≤ upd left s (left s - x.Many) y
     unfold upd
     split
     ·omega
     ·exact hpos y hy
    ·by_cases e : i = a
     ·subst e
      unfold zzs
      rw [← hx]
      exact ⟨hc1, by omega⟩
     ·exact hP i hi (by omega)
   ·have d3 : (decide (1 ≤ x.Many) && decide (x.Many ≤ left s)) = false := by
     cases hd : (decide (1 ≤ x.Many) && decide (x.Many ≤ left s)) with
     | false => rfl
     | true => simp only [Bool.and_eq_true, decide_eq_true_eq] at hd; exact absurd hd hc2
    rw [d3]
    simp only [Bool.not_false, cond_true]
    refine Ok.pure fun ⟨hl, ham⟩ => ?_
    have h1 := (hl a ha).2.1
    rw [← hx] at h1
    have h2 := ham s hsn
    have h3 := zHx hl (a + 1) s
    rw [List.take_succ_eq_append_getElem ha, ← hx, zRf, if_pos hse] at h3
    omega
  ·have d1 : (decide (shB t.1 a + 1 ≤ x.Shelf) && decide (x.Shelf ≤ (nF f : Int) - 1)) = false := by
    cases hd : (decide (shB t.1 a + 1 ≤ x.Shelf) && decide (x.Shelf ≤ (nF f : Int) - 1)) with
    | false => rfl
    | true => simp only [Bool.and_eq_true, decide_eq_true_eq] at hd; exact absurd hd hc1
   rw [d1]
   simp only [Bool.not_false, cond_true, Option.bind_some]
   refine Ok.pure fun ⟨hl, _⟩ => hc1 ?_
   have h1 := (hl a ha).1
   rw [← hx] at h1
   exact h1
 ·rintro ⟨last, all, a', left⟩ ⟨ha', hlast, hall, hleft, hpos, hP⟩
  obtain rfl : a' = (t.1.length : Int) := ha'
  simp only [zrd, zig, cond_false]
  have hl : zL (nF f) t.1 := fun i hi => hP i hi hi
  have hall : all = z7 (t.1.take t.1.length) := hall
  have hleft : ∀ x, x < 12 → left x = left0 x - am (t.1.take t.1.length) x := hleft
  rw [List.take_length] at hall hleft
  exact Ok.pure ⟨hl, hall, hleft, hpos⟩
theorem zHp {k : Nat} {f : zd} (hs : zZd f) (hk : Fuel k f) (n : Int) {p2 : SL (SL zi)} (hR : zqv k p2.1) : Ok (zSd k f n p2) (zVr f n p2.1) := by
 unfold zSd
 obtain ⟨c, hc, hc'⟩ := z1m hs hk
 rw [hc]
 by_cases hF : Fine f
 ·rw [if_pos hF] at hc'
  subst hc'
  have t : ((0 : Int) != 0) = false := by decide
  simp only [Option.bind_some, t, cond_false, zwn hs]
  by_cases hn : 0 ≤ n ∧ n < (nS f : Int)
  ·rw [(ztl f n).2 hn]
   obtain ⟨i, rfl⟩ : ∃ i : Nat, n = (i : Int) := ⟨n.toNat, by omega⟩
   have hi : i < nS f := by omega
   have h12 := hF.nfar
   have h0 := hk.k0
   have hlf : zL (nF f) (lns f i) := (zpf hF hi).2
   have hpc := zxn hlf
   simp only [Bool.not_true, cond_false]
   refine Ok.bind (zKn hs hk hF hi) fun g hg => ?_
   refine Ok.bind (Ok.count p2.1.length (fun j s => s.1 = (j : Int) ∧ (∀ t ∈ (p2.1.take j).map (·.1), z7b f t) ∧ (∀ x, x < 12 → s.2 x = ((pc (lns f i) x : Nat) : Int) - tot ((p2.1.take j).map (·.1)) x) ∧ ∀ x, x < nF f → 0 ≤ s.2 x)
    (Q := fun r : (Int × (SL zi) × Int × Int × Int × Int × (Nat → Int) × Int × Int) ⊕ ((Int × (SL zi) × Int × Int × Int × Int × (Nat → Int)) ⊕ (Int × (Nat → Int))) => match r with
    | .inl _ => ¬ zHh f i (p2.1.map (·.1))
    | .inr (.inl _) => ¬ zHh f i (p2.1.map (·.1))
    | .inr (.inr z) => (∀ t ∈ p2.1.map (·.1), z7b f t) ∧ ∀ x, x < 12 → z.2 x = ((pc (lns f i) x : Nat) : Int) - tot (p2.1.map (·.1)) x) ?_ ?_ ⟨rfl, fun t ht => by simp at ht, fun x _ => by
     show g x = _
     rw [hg x]; simp [tot], fun x _ => by show 0 ≤ g x; rw [hg x]; omega⟩ hR.1.1) fun r hr => ?_
   ·rintro j ⟨j', left⟩ hj ⟨hj', hall, hl, hpos⟩
    obtain rfl : j' = (j : Int) := hj'
    have hl : ∀ x, x < 12 → left x = ((pc (lns f i) x : Nat) : Int) - tot ((p2.1.take j).map (·.1)) x := hl
    have hpos : ∀ x, x < nF f → 0 ≤ left x := hpos
    have hti := zup hF hall
    have hmem : p2.1[j].1 ∈ p2.1.map (·.1) := List.mem_map.2 ⟨_, List.getElem_mem hj, rfl⟩
    have hrow := hR.2 _ (List.getElem_mem hj)
    have split3 : ∀ x, tot (p2.1.map (·.1)) x = tot ((p2.1.take j).map (·.1)) x + am p2.1[j].1 x + tot ((p2.1.drop (j + 1)).map (·.1)) x := fun x => by
     have h1 := zFr (p2.1.map (·.1)) (j := j) (by rw [List.length_map]; exact hj) x
     rw [List.getElem_map, ← List.map_take, ← List.map_drop] at h1
     exact h1
    simp only [zve, zOc hj, cond_true, zSb hj, Option.bind_some]
    refine Ok.bind (zdu hs hk hF (i : Int) p2 (j : Int) hrow (left0 := left) fun x hx => ⟨hpos x hx, by
     have h1 := hl x (by omega)
     have h2 := (hti x).1
     have h3 := hpc.1 x
     omega⟩) fun r hr => ?_
    cases r with
    | inl z =>
     refine Ok.pure fun h => hr ⟨(h.1 _ hmem).2.1, fun x hx => ?_⟩
     have h1 := h.2 x hx
     have h2 := hl x (by omega)
     have h3 := split3 x
     have h4 := (zup hF (ts := (p2.1.drop (j + 1)).map (·.1)) (fun t ht => h.1 t (by
      obtain ⟨u, hu, rfl⟩ := List.mem_map.1 ht
      exact List.mem_map.2 ⟨u, List.mem_of_mem_drop hu, rfl⟩)) x).1
     omega
    | inr z =>
     obtain ⟨hlf2, hld, hz, hzp⟩ := hr
     have hlo := zlg (zBc hlf2)
     have hln2 := zcd hlf2
     simp only [Sum.elim_inr, zjg, hld, Option.bind_some]
     by_cases hc1 : 1 ≤ z7 p2.1[j].1 ∧ z7 p2.1[j].1 ≤ f.Carry
     ·have d1 : (decide (1 ≤ z7 p2.1[j].1) && decide (z7 p2.1[j].1 ≤ f.Carry)) = true := by
       simp only [Bool.and_eq_true, decide_eq_true_eq]; exact hc1
      rw [d1]
      simp only [Bool.not_true, cond_false]
      refine Ok.pure ⟨zhc hj (by have := hR.1.2; omega), fun t ht => ?_, fun x hx => ?_, hzp⟩
      ·rw [List.take_succ_eq_append_getElem hj, List.map_append] at ht
       rcases List.mem_append.1 ht with h | h
       ·exact hall t h
       ·obtain rfl : t = p2.1[j].1 := by simpa using h
        refine ⟨fun e => ?_, hlf2, hc1.2⟩
        rw [e] at hc1
        simp only [z7] at hc1
        omega
      ·show z.2.2.2 x = _
       rw [hz x hx, hl x hx, List.take_succ_eq_append_getElem hj, List.map_append]
       show _ = _ - tot (_ ++ [p2.1[j].1]) x
       rw [zrk]
       omega
     ·have d1 : (decide (1 ≤ z7 p2.1[j].1) && decide (z7 p2.1[j].1 ≤ f.Carry)) = false := by
       cases hd : (decide (1 ≤ z7 p2.1[j].1) && decide (z7 p2.1[j].1 ≤ f.Carry)) with
       | false => rfl
       | true => simp only [Bool.and_eq_true, decide_eq_true_eq] at hd; exact absurd hd hc1
      rw [d1]
      simp only [Bool.not_false, cond_true]
      refine Ok.pure fun h => hc1 ?_
      obtain ⟨h1, h2, h3⟩ := h.1 _ hmem
      have : 0 < p2.1[j].1.length := List.length_pos_iff.2 h1
      exact ⟨by omega, h3⟩
   ·rintro ⟨j', left⟩ ⟨hj', hall, hl, hpos⟩
    obtain rfl : j' = (p2.1.length : Int) := hj'
    simp only [zve, zig, cond_false]
    have hl : ∀ x, x < 12 → left x = ((pc (lns f i) x : Nat) : Int) - tot ((p2.1.take p2.1.length).map (·.1)) x := hl
    rw [List.take_length] at hl hall
    exact Ok.pure ⟨hall, hl⟩
   ·cases r with
    | inl z => exact Ok.pure (.inr (.inr ⟨hF, i, hi, rfl, rfl, ⟨fun h => (by cases h), fun h => absurd h hr⟩⟩))
    | inr r =>
     cases r with
     | inl z => exact Ok.pure (.inr (.inr ⟨hF, i, hi, rfl, rfl, ⟨fun h => (by cases h), fun h => absurd h hr⟩⟩))
     | inr z =>
      obtain ⟨hall, hl⟩ := hr
      simp only [Sum.elim_inr, z3m, Option.bind_some]
      refine Ok.pure (.inr (.inr ⟨hF, i, hi, rfl, rfl, ?_⟩))
      show eqI z.2 (fun _ => 0) 0 12 = true ↔ _
      rw [z5j]
      constructor
      ·intro h
       refine ⟨hall, fun x hx => ?_⟩
       have h1 := h x (by omega) (by omega)
       rw [hl x (by omega)] at h1
       omega
      ·intro h x _ hx
       rw [hl x (by omega)]
       by_cases e : x < nF f
       ·rw [h.2 x e]; omega
       ·have h1 : ∀ ts : List (List zi), (∀ t ∈ ts, z7b f t) → tot ts x = 0 := by
         intro ts
         induction ts with
         | nil => intro _; rfl
         | cons t ts ih =>
          intro h
          simp only [tot]
          rw [zNx (h t (by simp)).2.1 (by omega), ih fun y hy => h y (by simp [hy])]
          rfl
        rw [h1 _ hall, hpc.2 x (by omega)]
        rfl
  ·have e : (decide (0 ≤ n) && decide (n ≤ (nS f : Int) - 1)) = false := by
    cases hd : (decide (0 ≤ n) && decide (n ≤ (nS f : Int) - 1)) with
    | false => rfl
    | true => exact absurd ((ztl f n).1 hd) hn
   rw [e]
   exact Ok.pure (.inr (.inl ⟨hF, hn, rfl⟩))
 ·rw [if_neg hF] at hc'
  subst hc'
  have t : ((30 : Int) != 0) = true := by decide
  simp only [Option.bind_some, t, cond_true]
  exact Ok.pure (.inl ⟨hF, rfl⟩)
end Go.AM
set_option linter.unusedVariables false
namespace Go.AM
open Go
def zZ (b : Nat → Nat) : Nat → List zi
 | 0 => []
 | m + 1 => zZ b m ++ (if 0 < b m then [⟨(m : Int), (b m : Int)⟩] else [])
theorem zXm {n : Nat} {l : List zi} (h : zL n l) {x : zi} (h1 : shB l l.length + 1 ≤ x.Shelf) (h2 : x.Shelf ≤ (n : Int) - 1) (h3 : 1 ≤ x.Many ∧ x.Many ≤ 20) : zL n (l ++ [x]) := fun j hj => by
 have hb : ∀ i, i ≤ l.length → shB (l ++ [x]) i = shB l i := fun i hi => by
  cases i with
  | zero => rfl
  | succ i =>
   show sh (l ++ [x]) i = sh l i
   unfold sh
   rw [List.getElem?_append_left (by omega)]
 rw [List.length_append] at hj
 have hj : j < l.length + 1 := by simpa using hj
 rw [hb j (by omega)]
 by_cases e : j < l.length
 ·rw [List.getElem_append_left e]
  exact h j e
 ·have e : j = l.length := by omega
  subst e
  rw [List.getElem_append_right (by omega)]
  simp only [Nat.sub_self, List.getElem_cons_zero]
  exact ⟨⟨h1, h2⟩, h3⟩
def z6b (t : List zi) : Int := ((t.getLast?).map (·.Shelf)).getD 0
theorem zGo {t : List zi} (h : t ≠ []) : shB t t.length = z6b t := by
 have : 0 < t.length := List.length_pos_iff.2 h
 obtain ⟨m, hm⟩ : ∃ m, t.length = m + 1 := ⟨t.length - 1, by omega⟩
 unfold z6b
 rw [List.getLast?_eq_getElem?, hm]
 rfl
theorem zYj (t : List zi) (x : zi) : z6b (t ++ [x]) = x.Shelf := by
 simp [z6b]
theorem zKm (b : Nat → Nat) : ∀ m, (zZ b m = [] ∧ ∀ s, s < m → b s = 0) ∨ (zZ b m ≠ [] ∧ ∃ s : Nat, z6b (zZ b m) = (s : Int) ∧ s < m ∧ ∀ far : Nat → Int, topF b far m = far s)
 | 0 => .inl ⟨rfl, fun s h => absurd h (by omega)⟩
 | m + 1 => by
  by_cases hb : 0 < b m
  ·refine .inr ⟨?_, m, ?_, by omega, fun far => ?_⟩
   ·simp [zZ, hb]
   ·simp only [zZ, if_pos hb, zYj]
   ·rw [topF, if_pos hb]
  ·have e : zZ b (m + 1) = zZ b m := by simp only [zZ, if_neg hb, List.append_nil]
   rw [e]
   rcases zKm b m with ⟨h1, h2⟩ | ⟨h1, s, h2, h3, h4⟩
   ·refine .inl ⟨h1, fun s hs => ?_⟩
    by_cases e : s = m
    ·subst e; omega
    ·exact h2 s (by omega)
   ·exact .inr ⟨h1, s, h2, by omega, fun far => by rw [topF, if_neg hb]; exact h4 far⟩
theorem zuo {n : Nat} {b : Nat → Nat} (h20 : ∀ s, b s ≤ 20) (hz : ∀ s, n ≤ s → b s = 0) : ∀ m, zL n (zZ b m)
 | 0 => fun j hj => by simp [zZ] at hj
 | m + 1 => by
  have ih := zuo h20 hz m
  by_cases hb : 0 < b m
  ·simp only [zZ, if_pos hb]
   have hmn : m < n := Classical.byContradiction fun hc => by have := hz m (by omega); omega
   have := h20 m
   refine zXm ih ?_ (by show (m : Int) ≤ _; omega) (by show 1 ≤ ((b m : Nat) : Int) ∧ ((b m : Nat) : Int) ≤ 20; omega)
   show _ ≤ (m : Int)
   rcases zKm b m with ⟨h1, _⟩ | ⟨h1, s, h2, h3, _⟩
   ·rw [h1]; simp only [List.length_nil, shB]; omega
   ·rw [zGo h1, h2]; omega
  ·have e : zZ b (m + 1) = zZ b m := by simp only [zZ, if_neg hb, List.append_nil]
   rw [e]; exact ih
theorem zKr (b : Nat → Nat) (s : Nat) : ∀ m, am (zZ b m) s = if s < m then ((b s : Nat) : Int) else 0
 | 0 => by simp [zZ, am]
 | m + 1 => by
  have ih := zKr b s m
  simp only [zZ, zrl, ih]
  by_cases hb : 0 < b m
  ·simp only [if_pos hb, am]
   by_cases e : s = m
   ·subst e; simp
   ·rw [if_neg (by omega : ¬ (m : Int) = (s : Int))]
    by_cases h : s < m
    ·rw [if_pos h, if_pos (by omega)]; omega
    ·rw [if_neg h, if_neg (by omega)]; rfl
  ·simp only [if_neg hb, am]
   by_cases e : s = m
   ·subst e
    have : b s = 0 := by omega
    simp [this]
   ·by_cases h : s < m
    ·rw [if_pos h, if_pos (by omega)]; omega
    ·rw [if_neg h, if_neg (by omega)]; rfl
theorem zvo (b : Nat → Nat) : ∀ m, z7 (zZ b m) = ((ex b m).length : Int)
 | 0 => rfl
 | m + 1 => by
  have ih := zvo b m
  simp only [zZ, zci, ih, ex, List.length_append, List.length_replicate]
  by_cases hb : 0 < b m
  ·simp only [if_pos hb, z7]; push_cast; omega
  ·have : b m = 0 := by omega
   rw [if_neg hb, this]; simp [z7]
theorem zOm (f : Nat → Nat) (s : Nat) : ∀ n, (ex f n).count s = if s < n then f s else 0
 | 0 => by simp [ex]
 | n + 1 => by
  rw [ex, List.count_append, List.count_replicate, zOm f s n]
  by_cases e : n = s
  ·subst e; simp
  ·have : (n == s) = false := by simpa using e
   simp only [this, Bool.false_eq_true, if_false, Nat.zero_add]
   by_cases h : s < n
   ·rw [if_pos h, if_pos (show s < n + 1 by omega)]
   ·rw [if_neg h, if_neg (show ¬ s < n + 1 by omega)]
def zIb (f : zd) : List (List zi) → Int
 | [] => 0
 | t :: ts => 2 * fr f (z6b t).toNat + zIb f ts
theorem zTn (f : zd) : ∀ (a b : List (List zi)), zIb f (a ++ b) = zIb f a + zIb f b
 | [], b => by simp [zIb]
 | x :: a, b => by simp only [List.cons_append, zIb, zTn f a b]; omega
theorem ziq (f : zd) (a : List (List zi)) (t : List zi) : zIb f (a ++ [t]) = zIb f a + 2 * fr f (z6b t).toNat := by
 rw [zTn]; simp [zIb]
def z4v (f : zd) (n : Int) (r : SL (SL zi) × Int) : Prop :=
 (¬ Fine f ∧ r.1.1 = [] ∧ r.2 = 30) ∨ (Fine f ∧ ¬ (0 ≤ n ∧ n < (nS f : Int)) ∧ r.1.1 = [] ∧ r.2 = 31) ∨ (Fine f ∧ ∃ i : Nat, i < nS f ∧ n = (i : Int) ∧ r.2 = 0 ∧ zHh f i (r.1.1.map (·.1)) ∧ zIb f (r.1.1.map (·.1)) = zCb f i ∧ r.1.1.length ≤ 240)
theorem zuw (k : Nat) (f : zd) (i : Int) (v7 : (SL Int) × Int × Int × (SL zp) × Int × (SL zl) × Int) (out : List (SL zi)) (a b : Int) (c d : Nat → Int) : zXg k f i v7 out a b c d = z1b k ⟨f⟩ i v7 0 a b c d := rfl
theorem zrw {k : Nat} {f : zd} (hk : Fuel k f) (i : Int) (v7 : (SL Int) × Int × Int × (SL zp) × Int × (SL zl) × Int) (out : List (SL zi)) (v : Int × Int × (Nat → Int) × (Nat → Int)) {b : Nat → Nat} (hb : ∀ t, t < 12 → v.2.2.2 t = ((b t : Nat) : Int)) :
  Ok (iter (fun s => zee k f i v7 out v s.1 s.2) k (0, ([] : List zi))) (fun r => r.2 = zZ b 12) := by
 have h0 := hk.k0
 refine Ok.count 12 (fun j s => s.1 = (j : Int) ∧ s.2 = zZ b j ∧ s.2.length ≤ j) ?_ ?_ ⟨rfl, rfl, Nat.le_refl _⟩ (by omega)
 ·rintro j ⟨j', t⟩ hj ⟨hj', ht, hl⟩
  obtain rfl : j' = (j : Int) := hj'
  obtain rfl : t = zZ b j := ht
  have hl : (zZ b j).length ≤ j := hl
  have c1 : decide ((j : Int) < 12) = true := decide_eq_true (by omega)
  have c2 : decide (0 ≤ (j : Int)) = true := by simp
  have c3 : decide ((zZ b j).length + 1 ≤ LIM) = true := zfi (by omega)
  have hsucc : w64 ((j : Int) + 1) = ((j + 1 : Nat) : Int) := zhc (n := 100) (by omega) (by omega)
  simp only [zee, c1, c2, Bool.and_self, cond_true, Int.toNat_natCast, hb j hj, c3]
  by_cases hbj : 0 < b j
  ·have c4 : decide (((b j : Nat) : Int) > 0) = true := decide_eq_true (by omega)
   rw [c4, cond_true]
   refine Ok.pure ⟨hsucc, ?_, ?_⟩
   ·show _ = zZ b (j + 1)
    simp only [zZ, if_pos hbj]
   ·show (zZ b j ++ [_]).length ≤ _
    rw [List.length_append]; simp; omega
  ·have c4 : decide (((b j : Nat) : Int) > 0) = false := decide_eq_false (by omega)
   rw [c4, cond_false]
   refine Ok.pure ⟨hsucc, ?_, by show (zZ b j).length ≤ _; omega⟩
   show _ = zZ b (j + 1)
   simp only [zZ, if_neg hbj, List.append_nil]
 ·rintro ⟨j', t⟩ ⟨hj', ht, hl⟩
  obtain rfl : j' = (12 : Int) := hj'
  have c1 : decide ((12 : Int) < 12) = false := by decide
  simp only [zee, c1, cond_false]
  exact Ok.pure ht
theorem zhw {k : Nat} {f : zd} (hs : zZd f) (hk : Fuel k f) (n : Int) : Ok (zHg k f n) (z4v f n) := by
 unfold zHg
 obtain ⟨c, hc, hc'⟩ := z1m hs hk
 rw [hc]
 by_cases hF : Fine f
 ·rw [if_pos hF] at hc'
  subst hc'
  have t : ((0 : Int) != 0) = false := by decide
  simp only [Option.bind_some, t, cond_false, zwn hs]
  by_cases hn : 0 ≤ n ∧ n < (nS f : Int)
  ·rw [(ztl f n).2 hn]
   obtain ⟨i, rfl⟩ : ∃ i : Nat, n = (i : Int) := ⟨n.toNat, by omega⟩
   have hi : i < nS f := by omega
   have h12 := hF.nfar
   have h0 := hk.k0
   have hlf : zL (nF f) (lns f i) := (zpf hF hi).2
   have hpc := zxn hlf
   have hC := hF.carry
   have hW := zVm hF hi
   simp only [Bool.not_true, cond_false, z1c, Option.bind_some]
   refine Ok.bind (zKn hs hk hF hi) fun g hg => ?_
   have hlen : (ex (pc (lns f i)) (nF f)).length ≤ 240 := by
    have := zil (f := pc (lns f i)) (b := 20) (n := nF f) fun j _ => hpc.1 j
    omega
   refine Ok.bind (P := fun v : (Nat → Int) × List (SL zi) => zHh f i (v.2.map (·.1)) ∧ zIb f (v.2.map (·.1)) = zCb f i ∧ v.2.length ≤ 240) ?_ fun v hv => Ok.pure (.inr (.inr ⟨hF, i, hi, rfl, rfl, hv.1, hv.2.1, hv.2.2⟩))
   refine Ok.iter (fun j s => ∃ lf : Nat → Nat, (∀ t, t < 12 → s.1 t = ((lf t : Nat) : Int)) ∧ (∀ t, lf t ≤ 20) ∧ (∀ t, nF f ≤ t → lf t = 0) ∧ zIb f (s.2.map (·.1)) + wk f.Carry.toNat (fr f) 0 (ex lf (nF f)) = zCb f i ∧ (ex lf (nF f)).length + j ≤ 240 ∧ s.2.length = j ∧ (∀ t ∈ s.2.map (·.1), z7b f t) ∧ ∀ x, x < nF f → tot (s.2.map (·.1)) x + lf x = ((pc (lns f i) x : Nat) : Int)) 240 ?_ ⟨pc (lns f i), fun t _ => hg t, hpc.1, hpc.2, by simp [zCb, zIb], by omega, rfl, fun t ht => by simp at ht, fun x _ => by simp [tot]⟩ (by omega)
   rintro j ⟨s1, s2⟩ hj ⟨lf, h1, h20, hz, hw, hl, hsl, hall, htot⟩
   have hw : zIb f (s2.map (·.1)) + wk f.Carry.toNat (fr f) 0 (ex lf (nF f)) = zCb f i := hw
   have hsl : s2.length = j := hsl
   have hall : ∀ t ∈ s2.map (·.1), z7b f t := hall
   have htot : ∀ x, x < nF f → tot (s2.map (·.1)) x + lf x = ((pc (lns f i) x : Nat) : Int) := htot
   simp only [z3g, z3m, Option.bind_some]
   refine Ok.cond (fun hb => ?_) (fun hb => ?_)
   ·have hne : ex lf (nF f) ≠ [] := by
     intro he
     have hall := zum.1 he
     have : eqI s1 (fun _ => 0) 0 12 = true := (z5j _ _ 12 0).2 fun t _ ht => by
      have := h1 t (by omega)
      simp only at this
      rw [this]
      by_cases e : t < nF f
      ·rw [hall t e]; rfl
      ·rw [hz t (by omega)]; rfl
     rw [this] at hb
     cases hb
    rw [zQf hs.far]
    simp only [zuw]
    refine Ok.bind (zWs hk hF _ _ _ h1 h20) fun v ⟨a, b, ha, hb', hd, ht, hx, hle, hy⟩ => ?_
    refine Ok.bind (zrw hk _ _ _ _ hb') fun w hw' => ?_
    rw [hw']
    obtain ⟨x, tl, hxt⟩ : ∃ x tl, ex lf (nF f) = x :: tl := by
     cases h : ex lf (nF f) with
     | nil => exact absurd h hne
     | cons x tl => exact ⟨x, tl, rfl⟩
    have hsum : ∀ y, y < nF f → a y + b y = lf y := fun y hy => by
     have h1 := zOm lf y (nF f)
     have h2 := zOm a y (nF f)
     have h3 := zOm b y (nF f)
     rw [if_pos hy] at h1 h2 h3
     have h4 : (ex lf (nF f)).count y = (ex b (nF f)).count y + (ex a (nF f)).count y := by
      rw [ht, hd, ← List.count_append, List.take_append_drop]
     omega
    have hb20 : ∀ y, b y ≤ 20 := fun y => by
     by_cases e : y < nF f
     ·have := hsum y e; have := h20 y; omega
     ·have := hy y (by omega); omega
    have hexb : ex b 12 = ex b (nF f) := zbo (by omega) fun j h1 _ => hy j h1
    obtain ⟨c, hc⟩ : ∃ c, f.Carry.toNat = c + 1 := ⟨f.Carry.toNat - 1, by omega⟩
    have hbx : ex b 12 = x :: tl.take c := by rw [hexb, ht, hxt, hc, List.take_succ_cons]
    have htop : topF b (fr f) 12 = fr f x := z8q hbx
    have hfine := zuo (n := nF f) hb20 hy 12
    have hload := zvo b 12
    have hok : z7b f (zZ b 12) := by
     refine ⟨fun e => ?_, hfine, ?_⟩
     ·rw [e, hbx] at hload
      simp only [z7, List.length_cons] at hload
      omega
     ·rw [hload, hexb, ht, List.length_take]
      omega
    have hlast : fr f (z6b (zZ b 12)).toNat = fr f x := by
     rcases zKm b 12 with ⟨h, _⟩ | ⟨_, s, h2, _, h4⟩
     ·exact absurd h hok.1
     ·rw [h2, Int.toNat_natCast, ← h4 (fr f), htop]
    have hcons := zdr (C := f.Carry.toNat) (by omega) (fr f) x tl
    rw [← hxt, ← hd] at hcons
    have c3 : decide (s2.length + 1 ≤ LIM) = true := zfi (by omega)
    rw [c3, cond_true]
    have hxl : (ex lf (nF f)).length = tl.length + 1 := by rw [hxt]; rfl
    refine Ok.pure ⟨by omega, a, ha, fun y => by have := hle y; have := h20 y; omega, fun y hy' => by rw [hx y hy']; exact hz y hy', ?_, ?_, ?_, fun u hu => ?_, fun y hy' => ?_⟩
    ·show zIb f ((s2 ++ [(zZ b 12, xcap true (zZ b 12))]).map (·.1)) + _ = _
     rw [List.map_append]
     show zIb f (s2.map (·.1) ++ [zZ b 12]) + _ = _
     rw [ziq, hlast]
     omega
    ·rw [hd, List.length_drop]
     omega
    ·show (s2 ++ [(zZ b 12, xcap true (zZ b 12))]).length = _
     rw [List.length_append]; simp [hsl]
    ·have hu : u ∈ (s2 ++ [(zZ b 12, xcap true (zZ b 12))]).map (·.1) := hu
     rw [List.map_append] at hu
     rcases List.mem_append.1 hu with h | h
     ·exact hall u h
     ·obtain rfl : u = zZ b 12 := by simpa using h
      exact hok
    ·show tot ((s2 ++ [(zZ b 12, xcap true (zZ b 12))]).map (·.1)) y + _ = _
     rw [List.map_append]
     show tot (s2.map (·.1) ++ [zZ b 12]) y + _ = _
     rw [zrk, zKr, if_pos (by omega)]
     have h1 := htot y hy'
     have h2 := hsum y hy'
     omega
   ·have hall2 : eqI s1 (fun _ => 0) 0 12 = true := by simpa using hb
    have hall2 := (z5j _ _ 12 0).1 hall2
    have hz0 : ∀ t, t < nF f → lf t = 0 := fun t ht => by
     have e1 := h1 t (by omega)
     have e2 := hall2 t (by omega) (by omega)
     simp only at e1 e2
     rw [e1] at e2
     omega
    have he : ex lf (nF f) = [] := zum.2 hz0
    rw [he, zXx] at hw
    refine Ok.pure ⟨⟨hall, fun x hx => ?_⟩, by show zIb f (s2.map (·.1)) = _; omega, by show s2.length ≤ 240; omega⟩
    have h1 := htot x hx
    have h2 := hz0 x hx
    show tot (s2.map (·.1)) x = _
    omega
  ·have e : (decide (0 ≤ n) && decide (n ≤ (nS f : Int) - 1)) = false := by
    cases hd : (decide (0 ≤ n) && decide (n ≤ (nS f : Int) - 1)) with
    | false => rfl
    | true => exact absurd ((ztl f n).1 hd) hn
   rw [e]
   exact Ok.pure (.inr (.inl ⟨hF, hn, rfl, rfl⟩))
 ·rw [if_neg hF] at hc'
  subst hc'
  have t : ((30 : Int) != 0) = true := by decide
  simp only [Option.bind_some, t, cond_true]
  exact Ok.pure (.inl ⟨hF, rfl, rfl⟩)
theorem zfk {f : zd} (hF : Fine f) {t : List zi} (h : z7b f t) : idx t (w64 ((t.length : Int) - 1)) = (t.getLast?) ∧ 0 ≤ z6b t ∧ z6b t < (nF f : Int) ∧ t.length ≤ nF f ∧ ∃ x, t.getLast? = some x ∧ x.Shelf = z6b t := by
 have hpos : 0 < t.length := List.length_pos_iff.2 h.1
 have hln := zcd h.2.1
 obtain ⟨m, hm⟩ : ∃ m, t.length = m + 1 := ⟨t.length - 1, by omega⟩
 have hml : m < t.length := by omega
 have hg : t.getLast? = some t[m] := by
  rw [List.getLast?_eq_getElem?, hm]
  simp only [Nat.add_sub_cancel]
  exact List.getElem?_eq_getElem hml
 have hl : z6b t = t[m].Shelf := by unfold z6b; rw [hg]; rfl
 have h2 := zNf h.2.1 hml
 refine ⟨?_, by omega, by omega, hln, t[m], hg, hl.symm⟩
 have w : w64 ((t.length : Int) - 1) = (m : Int) := by
  have := hF.nfar
  rw [zQf (by omega)]; omega
 rw [w, hg]
 exact zSb hml
end Go.AM
set_option linter.unusedVariables false
namespace Go.AM
open Go
def atL (M : List Nat) (s : Nat) : Nat := M.countP fun x => decide (s ≤ x)
theorem zZm (x : Nat) (t : List Nat) (s : Nat) : atL (x :: t) s = atL t s + if s ≤ x then 1 else 0 := by
 simp only [atL, List.countP_cons, decide_eq_true_eq]
theorem zQo {M : List Nat} {s : Nat} (h : ∀ x ∈ M, x < s) : atL M s = 0 := by
 unfold atL
 rw [List.countP_eq_zero]
 intro x hx
 have := h x hx
 simp only [decide_eq_true_eq]
 omega
theorem zNw {M N : List Nat} (h : M.Perm N) (s : Nat) : atL M s = atL N s := h.countP_eq _
theorem sumP {g : Nat → Int} {M N : List Nat} (h : M.Perm N) : (M.map g).sum = (N.map g).sum := by
 induction h with
 | nil => rfl
 | cons x _ ih => simp only [List.map_cons, List.sum_cons, ih]
 | swap x y l => simp only [List.map_cons, List.sum_cons]; omega
 | trans _ _ ih1 ih2 => rw [ih1, ih2]
theorem zVt : ∀ {M : List Nat}, M ≠ [] → ∃ m, m ∈ M ∧ ∀ y ∈ M, y ≤ m
 | [], h => absurd rfl h
 | [x], _ => ⟨x, by simp, fun y hy => by simp at hy; omega⟩
 | x :: y :: t, _ => by
  obtain ⟨m, h1, h2⟩ := zVt (M := y :: t) (by simp)
  by_cases h : m ≤ x
  ·refine ⟨x, by simp, fun z hz => ?_⟩
   rcases List.mem_cons.1 hz with rfl | hz
   ·omega
   ·have := h2 z hz; omega
  ·refine ⟨m, List.mem_cons_of_mem _ h1, fun z hz => ?_⟩
   rcases List.mem_cons.1 hz with rfl | hz
   ·omega
   ·exact h2 z hz
theorem zms : ∀ (C : Nat) {L : List Nat}, L.Pairwise (fun a b => b ≤ a) → ∀ s, atL (L.drop C) s = atL L s - C
 | 0, L, _, s => by simp
 | C + 1, [], _, s => by simp [atL]
 | C + 1, x :: t, h, s => by
  obtain ⟨h1, h2⟩ := List.pairwise_cons.1 h
  rw [List.drop_succ_cons, zms C h2 s, zZm]
  by_cases e : s ≤ x
  ·rw [if_pos e]; omega
  ·rw [if_neg e, zQo (M := t) fun y hy => by have := h1 y hy; omega]
   omega
theorem zhs {C n : Nat} (hC : 0 < C) {far : Nat → Int} (hm : ∀ a b, a ≤ b → b < n → far a ≤ far b) (h0 : ∀ a, a < n → 0 ≤ far a) : ∀ (d : Nat) (L M : List Nat), L.length ≤ d → L.Pairwise (fun a b => b ≤ a) → (∀ x ∈ M, x < n) → (∀ s, atL L s ≤ C * atL M s) → wk C far 0 L ≤ (M.map fun m => 2 * far m).sum
 | d, [], M, _, _, hM, _ => by
  have : ∀ M : List Nat, (∀ x ∈ M, x < n) → 0 ≤ (M.map fun m => 2 * far m).sum := by
   intro M
   induction M with
   | nil => intro _; simp
   | cons m M ih =>
    intro h
    have h1 := ih fun y hy => h y (by simp [hy])
    have h2 := h0 m (h m (by simp))
    rw [List.map_cons, List.sum_cons]
    omega
  simpa [wk] using this M hM
 | 0, x :: t, M, h, _, _, _ => by simp at h
 | d + 1, x :: t, M, hd, hp, hM, hdom => by
  have hx := hdom x
  rw [zZm, if_pos (Nat.le_refl _)] at hx
  have hne : M ≠ [] := by rintro rfl; simp [atL] at hx
  obtain ⟨m, hm1, hm2⟩ := zVt hne
  have hxm : x ≤ m := by
   apply Classical.byContradiction
   intro hc
   rw [zQo (M := M) fun y hy => by have := hm2 y hy; omega] at hx
   omega
  have hperm := List.perm_cons_erase hm1
  have hsum : (M.map fun m => 2 * far m).sum = 2 * far m + ((M.erase m).map fun m => 2 * far m).sum := by
   rw [sumP hperm, List.map_cons, List.sum_cons]
  have hfx := hm x m hxm (hM m hm1)
  have hle : ((x :: t).drop C).length ≤ d := by
   rw [List.length_drop]
   simp only [List.length_cons] at hd ⊢
   omega
  have ih := zhs hC hm h0 d ((x :: t).drop C) (M.erase m) hle (hp.sublist (List.drop_sublist _ _)) (fun y hy => hM y (List.mem_of_mem_erase hy)) (fun s => by
   rw [zms C hp s]
   have h1 := hdom s
   have h3 := zNw hperm s
   rw [zZm] at h3
   rw [h3] at h1
   by_cases e : s ≤ m
   ·rw [if_pos e, Nat.mul_succ] at h1
    omega
   ·have h2 : atL (M.erase m) s = 0 := zQo fun y hy => by have := hm2 y (List.mem_of_mem_erase hy); omega
    rw [if_neg e, h2] at h1
    omega)
  rw [zdr hC, hsum]
  omega
theorem z6t (f : Nat → Nat) : ∀ n, (ex f n).Pairwise (fun a b => b ≤ a)
 | 0 => by simp [ex]
 | n + 1 => by
  rw [ex, List.pairwise_append]
  refine ⟨?_, z6t f n, fun a ha b hb => ?_⟩
  ·rw [List.pairwise_replicate]
   exact .inr (Nat.le_refl _)
  ·have h1 := List.eq_of_mem_replicate ha
   have h2 := (zQs hb).1
   omega
def upS (g : Nat → Int) (s : Nat) : Nat → Int
 | 0 => 0
 | m + 1 => upS g s m + if s ≤ m then g m else 0
theorem zor {g g' : Nat → Int} (s : Nat) : ∀ {n}, (∀ x, x < n → g x = g' x) → upS g s n = upS g' s n
 | 0, _ => rfl
 | n + 1, h => by rw [upS, upS, zor s fun x hx => h x (by omega), h n (by omega)]
theorem zUq (g h : Nat → Int) (s : Nat) : ∀ n, upS (fun x => g x + h x) s n = upS g s n + upS h s n
 | 0 => rfl
 | n + 1 => by
  simp only [upS, zUq g h s n]
  split <;> omega
theorem zhp (s : Nat) : ∀ n, upS (fun _ => 0) s n = 0
 | 0 => rfl
 | n + 1 => by simp only [upS, zhp s n]; simp
theorem zYt (x : Int) (c : Int) (s : Nat) : ∀ n : Nat, upS (fun y => if x = (y : Int) then c else 0) s n = if (s : Int) ≤ x ∧ x < (n : Int) then c else 0
 | 0 => by
  simp only [upS]
  rw [if_neg (by omega)]
 | n + 1 => by
  have ih := zYt x c s n
  show upS _ s n + (if s ≤ n then (if x = ((n : Nat) : Int) then c else 0) else 0) = _
  rw [ih]
  by_cases e : x = (n : Int)
  ·subst e
   by_cases h : s ≤ n
   ·rw [if_neg (show ¬ ((s : Int) ≤ (n : Int) ∧ (n : Int) < (n : Int)) by omega), if_pos h, if_pos rfl, if_pos (show (s : Int) ≤ (n : Int) ∧ (n : Int) < ((n + 1 : Nat) : Int) by omega)]; omega
   ·rw [if_neg (show ¬ ((s : Int) ≤ (n : Int) ∧ (n : Int) < (n : Int)) by omega), if_neg h, if_neg (show ¬ ((s : Int) ≤ (n : Int) ∧ (n : Int) < ((n + 1 : Nat) : Int)) by omega)]; rfl
  ·rw [if_neg e, ite_self, Int.add_zero]
   by_cases h : (s : Int) ≤ x ∧ x < (n : Int)
   ·rw [if_pos h, if_pos (show (s : Int) ≤ x ∧ x < ((n + 1 : Nat) : Int) by omega)]
   ·rw [if_neg h, if_neg (show ¬ ((s : Int) ≤ x ∧ x < ((n + 1 : Nat) : Int)) by omega)]
theorem zbv (f : Nat → Nat) (s : Nat) : ∀ n, ((atL (ex f n) s : Nat) : Int) = upS (fun y => ((f y : Nat) : Int)) s n
 | 0 => by simp [ex, atL, upS]
 | n + 1 => by
  have ih := zbv f s n
  simp only [upS, ← ih, ex]
  unfold atL
  rw [List.countP_append, List.countP_replicate]
  by_cases h : s ≤ n
  ·simp only [h, decide_true, if_true]; push_cast; omega
  ·simp only [h, decide_false, if_false]; simp
def hiT : List zi → Nat → Int
 | [], _ => 0
 | x :: t, s => (if (s : Int) ≤ x.Shelf then x.Many else 0) + hiT t s
theorem zQv {n : Nat} (s : Nat) : ∀ {l : List zi}, (∀ x ∈ l, 0 ≤ x.Shelf ∧ x.Shelf < (n : Int)) → hiT l s = upS (am l) s n
 | [], _ => by
  have : am [] = fun _ => 0 := rfl
  rw [this, zhp]; rfl
 | x :: t, h => by
  have ih := zQv s (l := t) fun y hy => h y (by simp [hy])
  have hx := h x (by simp)
  have e : am (x :: t) = fun y : Nat => (if x.Shelf = (y : Int) then x.Many else 0) + am t y := rfl
  rw [e, zUq, zYt, hiT, ih]
  by_cases c : (s : Int) ≤ x.Shelf
  ·rw [if_pos c, if_pos ⟨c, hx.2⟩]
  ·rw [if_neg c, if_neg (by omega)]
theorem zEv (s : Nat) : ∀ {l : List zi}, zFn l → hiT l s ≤ z7 l
 | [], _ => by simp [hiT, z7]
 | x :: t, h => by
  have ih := zEv s (l := t) fun y hy => h y (by simp [hy])
  have hx := h x (by simp)
  simp only [hiT, z7]
  split <;> omega
theorem zns {s : Nat} : ∀ {l : List zi}, (∀ x ∈ l, x.Shelf < (s : Int)) → hiT l s = 0
 | [], _ => rfl
 | x :: t, h => by
  have ih := zns (l := t) fun y hy => h y (by simp [hy])
  have hx := h x (by simp)
  simp only [hiT, ih]
  rw [if_neg (by omega)]
  rfl
theorem z4w {n : Nat} {l : List zi} (h : zL n l) : ∀ j (hj : j < l.length) i (hi : i < l.length), i ≤ j → l[i].Shelf ≤ l[j].Shelf
 | 0, hj, i, hi, hij => by
  obtain rfl : i = 0 := by omega
  exact Int.le_refl _
 | j + 1, hj, i, hi, hij => by
  by_cases e : i = j + 1
  ·subst e; exact Int.le_refl _
  ·have ih := z4w h j (by omega) i hi (by omega)
   have h1 := (h (j + 1) hj).1.1
   have h2 := z4f (l := l) (i := j) (by omega)
   simp only [shB] at h1
   omega
theorem zAt {n : Nat} {l : List zi} (h : zL n l) : ∀ x ∈ l, 0 ≤ x.Shelf ∧ x.Shelf < (n : Int) := fun x hx => by
 obtain ⟨i, hi, rfl⟩ := List.getElem_of_mem hx
 exact zNf h hi
theorem zgx {n : Nat} {l : List zi} (h : zL n l) : ∀ x ∈ l, x.Shelf ≤ z6b l := fun x hx => by
 obtain ⟨i, hi, rfl⟩ := List.getElem_of_mem hx
 obtain ⟨m, hm⟩ : ∃ m, l.length = m + 1 := ⟨l.length - 1, by omega⟩
 have hl : z6b l = (l[m]'(by omega)).Shelf := by
  have h1 : l.getLast? = some (l[m]'(by omega)) := by
   rw [List.getLast?_eq_getElem?, show l.length - 1 = m by omega]
   exact List.getElem?_eq_getElem (by omega)
  unfold z6b
  rw [h1]
  rfl
 rw [hl]
 exact z4w h m (by omega) i hi (by omega)
theorem zDr {f : zd} (hF : Fine f) (s : Nat) : ∀ {ts : List (List zi)}, (∀ t ∈ ts, z7b f t) → upS (tot ts) s (nF f) ≤ f.Carry * (atL (ts.map fun t => (z6b t).toNat) s : Nat)
 | [], _ => by
  have : tot [] = fun _ => 0 := rfl
  rw [this, zhp]
  simp [atL]
 | t :: ts, h => by
  have ih := zDr hF s (ts := ts) fun y hy => h y (by simp [hy])
  obtain ⟨h1, h2, h3⟩ := h t (by simp)
  have e : tot (t :: ts) = fun y : Nat => am t y + tot ts y := rfl
  have hl := (zfk hF (h t (by simp))).2.1
  rw [e, zUq, ← zQv s (zAt h2), List.map_cons, zZm]
  have h4 := zEv s (zBc h2)
  by_cases c : s ≤ (z6b t).toNat
  ·rw [if_pos c]
   push_cast
   rw [Int.mul_add]
   omega
  ·rw [if_neg c, zns fun x hx => by have := zgx h2 x hx; omega]
   rw [Nat.add_zero]
   omega
theorem zIr (f : zd) : ∀ ts : List (List zi), zIb f ts = ((ts.map fun t => (z6b t).toNat).map fun m => 2 * fr f m).sum
 | [] => rfl
 | t :: ts => by simp only [zIb, zIr f ts, List.map_cons, List.sum_cons]
theorem zBt {f : zd} (hF : Fine f) {i : Nat} {ts : List (List zi)} (h : zHh f i ts) : zCb f i ≤ zIb f ts := by
 have hC := hF.carry
 rw [zIr]
 refine zhs (n := nF f) (by omega) (fun a b => zer hF b) (fun a ha => (zQn hF ha).1) _ _ _ (Nat.le_refl _) (z6t _ _) (fun x hx => ?_) fun s => ?_
 ·obtain ⟨t, ht, rfl⟩ := List.mem_map.1 hx
  have := (zfk hF (h.1 t ht)).2
  omega
 ·have h1 := zDr hF s h.1
  rw [← zor (g := fun y => ((pc (lns f i) y : Nat) : Int)) s fun x hx => (h.2 x hx).symm, ← zbv] at h1
  obtain ⟨c, hc⟩ : ∃ c : Nat, f.Carry = (c : Int) := ⟨f.Carry.toNat, by omega⟩
  rw [hc, Int.toNat_natCast]
  rw [hc] at h1
  exact_mod_cast h1
end Go.AM
set_option linter.unusedVariables false
namespace Go.AM
open Go
def frT (f : zd) (t : List zi) : Nat → Int
 | 0 => 0
 | a + 1 => fr f (sh t a).toNat
theorem zHu {k : Nat} {f : zd} (hs : zZd f) (hk : Fuel k f) (hF : Fine f) {p1 : SL (SL zi)} (w : Int) {j : Nat} (hj : j < p1.1.length) (ht : z7b f p1.1[j].1) {g : Nat → Int} (hg : ∀ s, 0 ≤ g s ∧ g s ≤ 1000000) {out : List Int} (hl : zPb f g out) :
  Ok (iter (fun s => zKb k f p1 w (j : Int) s.1 s.2.1 s.2.2.1 s.2.2.2.1 s.2.2.2.2) k (0, 0, (-1), 0, out)) (fun r => ∃ z, r = .inr z ∧ z.1 = z7 p1.1[j].1 ∧ z.2.1 = fr f (z6b p1.1[j].1).toNat ∧ zPb f (fun s => g s + am p1.1[j].1 s) z.2.2.2.2) := by
 have h12 := hF.nfar
 have h0 := hk.k0
 have e0 : idx p1.1 (j : Int) = some p1.1[j] := zSb hj
 obtain ⟨hne, hlf, hC⟩ := ht
 have hlast := zfk hF (show z7b f p1.1[j].1 from ⟨hne, hlf, hC⟩)
 obtain ⟨t, ht⟩ : ∃ t, t = p1.1[j] := ⟨_, rfl⟩
 rw [← ht] at hlf e0 hne hC hlast ⊢
 have hln := zcd hlf
 have hcar := hF.carry
 have hman : ∀ a, zFn (t.1.take a) := fun a x hx => zBc hlf x (List.mem_of_mem_take hx)
 refine Ok.count t.1.length (fun a s => s.2.2.2.1 = (a : Int) ∧ s.1 = z7 (t.1.take a) ∧ s.2.1 = frT f t.1 a ∧ s.2.2.1 = shB t.1 a ∧ zPb f (fun s => g s + am (t.1.take a) s) s.2.2.2.2) ?_ ?_ ⟨rfl, rfl, rfl, rfl, by simpa [am] using hl⟩ (by omega)
 ·rintro a ⟨ld, fa, la, a', m⟩ ha ⟨ha', hld, hfa, hla, hm⟩
  obtain rfl : a' = (a : Int) := ha'
  obtain rfl : ld = z7 (t.1.take a) := hld
  obtain rfl : fa = frT f t.1 a := hfa
  obtain rfl : la = shB t.1 a := hla
  have hm : zPb f (fun s => g s + am (t.1.take a) s) m := hm
  obtain ⟨x, hx⟩ : ∃ x, x = t.1[a] := ⟨_, rfl⟩
  have hline := hlf a ha
  have hsh := zNf hlf ha
  have hsx : sh t.1 a = x.Shelf := by rw [hx]; exact (z4f ha).symm
  rw [← hx] at hline hsh
  obtain ⟨s, hs'⟩ : ∃ s : Nat, x.Shelf = (s : Int) := ⟨x.Shelf.toNat, by omega⟩
  have hsn : s < nF f := by omega
  have e1 : idx t.1 (a : Int) = some x := by rw [hx]; exact zSb ha
  have hlow := zwm (l := t.1) (j := a) (by omega) fun i hi _ => (hlf i hi).1.1
  have hb := zdq (hman a) s
  have hb2 := zlg (hman a)
  have hlt : (t.1.take a).length ≤ 12 := by rw [List.length_take]; omega
  have hgs := hg s
  have hmC : x.Many ≤ f.Carry := by
   have h1 : z7 (t.1.take (a + 1)) ≤ z7 t.1 := by
    have h2 : z7 t.1 = z7 (t.1.take (a + 1)) + z7 (t.1.drop (a + 1)) := by rw [← zci, List.take_append_drop]
    have h3 := (zlg (l := t.1.drop (a + 1)) fun y hy => zBc hlf y (List.mem_of_mem_drop hy)).1
    omega
   rw [List.take_succ_eq_append_getElem ha, ← hx, zad] at h1
   omega
  have w1 : w64 (z7 (t.1.take a) + x.Many) = z7 (t.1.take (a + 1)) := by
   rw [List.take_succ_eq_append_getElem ha, ← hx, zad]; exact znc (by omega) (by omega)
  have w2 : w64 (g s + am (t.1.take a) s + x.Many) = g s + am (t.1.take a) s + x.Many := znc (by omega) (by omega)
  have w3 : w64 (shB t.1 a + 1) = shB t.1 a + 1 := znc (by omega) (by omega)
  have w4 : w64 ((f.Far.1.length : Int) - 1) = (nF f : Int) - 1 := zQf hs.far
  have ei := hm.idx hsn
  have c1 : (decide (shB t.1 a + 1 ≤ (s : Int)) && decide ((s : Int) ≤ (nF f : Int) - 1)) = true := by
   have h1 := hline.1
   rw [hs'] at h1
   simp only [Bool.and_eq_true, decide_eq_true_eq]; exact h1
  have c2 : decide (x.Many < 1) = false := decide_eq_false (by omega)
  have c3 : decide (x.Many > f.Carry) = false := decide_eq_false (by omega)
  simp only [zKb, e0, Option.bind_some, zOc ha, cond_true, e1, zIc, zUk, w3, w4, c1, Bool.not_true, cond_false, c2, c3, hs', ei, zIm hsn, w1, w2, Int.toNat_natCast]
  refine Ok.pure ⟨zhc ha (by omega), rfl, ?_, by show (s : Int) = sh t.1 a; rw [hsx, hs'], hm.set hsn ?_ fun y hy => ?_⟩
  ·show (if fr f s > frT f t.1 a then fr f s else frT f t.1 a) = fr f (sh t.1 a).toNat
   rw [hsx, hs', Int.toNat_natCast]
   have hle : frT f t.1 a ≤ fr f s := by
    cases a with
    | zero => exact (zQn hF hsn).1
    | succ b =>
     have h1 := hline.1.1
     simp only [shB] at h1 hlow
     exact zer hF _ (by omega) hsn
   by_cases e : fr f s > frT f t.1 a
   ·rw [if_pos e]
   ·rw [if_neg e]; omega
  ·show g s + am (t.1.take (a + 1)) s = _
   rw [List.take_succ_eq_append_getElem ha, ← hx, zRf, if_pos hs']
   omega
  ·show g y + am (t.1.take (a + 1)) y = _
   rw [List.take_succ_eq_append_getElem ha, ← hx, zRf, if_neg (by omega)]
   omega
 ·rintro ⟨ld, fa, la, a', m⟩ ⟨ha', hld, hfa, hla, hm⟩
  obtain rfl : a' = (t.1.length : Int) := ha'
  simp only [zKb, e0, Option.bind_some, zig, cond_false]
  have hm : zPb f (fun s => g s + am (t.1.take t.1.length) s) m := hm
  have hld : ld = z7 (t.1.take t.1.length) := hld
  have hfa : fa = frT f t.1 t.1.length := hfa
  rw [List.take_length] at hm hld
  refine Ok.pure ⟨_, rfl, hld, ?_, hm⟩
  rw [hfa]
  obtain ⟨b, hb⟩ : ∃ b, t.1.length = b + 1 := ⟨t.1.length - 1, by have := List.length_pos_iff.2 hne; omega⟩
  have h1 := zGo hne
  rw [hb] at h1 ⊢
  simp only [shB] at h1
  simp only [frT, h1]
theorem z8s {f : zd} (hF : Fine f) : ∀ {ts : List (List zi)}, (∀ t ∈ ts, z7b f t) → 0 ≤ zIb f ts ∧ zIb f ts ≤ 1000 * (ts.length : Int)
 | [], _ => by simp [zIb]
 | t :: ts, h => by
  have ih := z8s hF (ts := ts) fun y hy => h y (by simp [hy])
  obtain ⟨_, h2, h3, _⟩ := zfk hF (h t (by simp))
  have h4 := zQn hF (i := (z6b t).toNat) (by omega)
  have e : 1000 * (((t :: ts).length : Nat) : Int) = 1000 * (ts.length : Int) + 1000 := by rw [List.length_cons]; push_cast; omega
  simp only [zIb]
  omega
theorem zBr (f : zd) : zPb f (fun _ => 0) (List.replicate (f.Far.1.length : Int).toNat 0) := by
 refine ⟨by simp, fun s hs => ?_⟩
 rw [List.getElem?_replicate, if_pos (by simpa using hs)]
theorem zTu (f : zd) : zPb f (tot ((List.take 0 ([] : List (SL zi))).map (·.1))) (List.replicate (f.Far.1.length : Int).toNat 0) := by
 have e : tot ((List.take 0 ([] : List (SL zi))).map (·.1)) = fun _ => 0 := rfl
 rw [e]
 exact zBr f
theorem zmq {k : Nat} {f : zd} (hs : zZd f) (hk : Fuel k f) (hF : Fine f) {p1 : SL (SL zi)} (hall : ∀ t ∈ p1.1.map (·.1), z7b f t) (hlen : p1.1.length ≤ 240) :
  Ok (z9b k f p1) (fun r => r.2.2 = true ∧ r.2.1 = zIb f (p1.1.map (·.1)) ∧ zPb f (tot (p1.1.map (·.1))) r.1.1) := by
 have h12 := hF.nfar
 have h0 := hk.k0
 unfold z9b
 have c0 : (decide (0 ≤ (f.Far.1.length : Int)) && decide ((f.Far.1.length : Int) ≤ (LIM : Int))) = true := by
  have h1 : f.Far.1.length ≤ 12 := h12.2
  simp only [Bool.and_eq_true, decide_eq_true_eq]
  exact ⟨by omega, by have : LIM = 4398046511104 := rfl; omega⟩
 rw [c0, cond_true]
 refine Ok.bind (P := fun r : (Int × Int × Int × Int × Int × Int × (List Int) × Int × Int) ⊕ ((Int × Int × Int × Int × Int × Int × (List Int)) ⊕ (Int × Int × (List Int))) => ∃ z, r = .inr (.inr z) ∧ z.1 = zIb f (p1.1.map (·.1)) ∧ zPb f (tot (p1.1.map (·.1))) z.2.2) ?_ fun r hr => ?_
 ·have htk : ∀ j, ∀ t ∈ (p1.1.take j).map (·.1), z7b f t := fun j t h => by
   obtain ⟨u, hu, rfl⟩ := List.mem_map.1 h
   exact hall _ (List.mem_map.2 ⟨u, List.mem_of_mem_take hu, rfl⟩)
  refine Ok.count p1.1.length (fun j s => s.2.1 = (j : Int) ∧ s.1 = zIb f ((p1.1.take j).map (·.1)) ∧ zPb f (tot ((p1.1.take j).map (·.1))) s.2.2) ?_ ?_ ⟨rfl, rfl, by rw [List.take_zero]; exact zTu f⟩ (by omega)
  ·rintro j ⟨n, j', m⟩ hj ⟨hj', hn, hm⟩
   obtain rfl : j' = (j : Int) := hj'
   obtain rfl : n = _ := hn
   have hm : zPb f (tot ((p1.1.take j).map (·.1))) m := hm
   have hT := hall p1.1[j].1 (List.mem_map.2 ⟨_, List.getElem_mem hj, rfl⟩)
   have hw := z8s hF (htk j)
   have hti := zup hF (htk j)
   have hjl : ((p1.1.take j).map (·.1)).length = j := by rw [List.length_map, List.length_take]; omega
   rw [hjl] at hw hti
   have h1 := zlg (zBc hT.2.1)
   have h1p := List.length_pos_iff.2 hT.1
   have hl := (zfk hF hT).2
   have hfr := zQn hF (i := (z6b p1.1[j].1).toNat) (by omega)
   simp only [zbc, zOc hj, cond_true]
   refine Ok.bind (zHu hs hk hF (zIb f ((p1.1.take j).map (·.1))) hj hT (fun s => by have := hti s; omega) hm) fun r hr => ?_
   obtain ⟨z, rfl, h2, h3, h4⟩ := hr
   have h5 := hT.2.2
   have c1 : decide (z.1 < 1) = false := decide_eq_false (by rw [h2]; omega)
   have c2 : decide (z.1 > f.Carry) = false := decide_eq_false (by rw [h2]; omega)
   simp only [Sum.elim_inr, zMc, c1, c2, cond_false, Option.bind_some]
   have w1 : w64 (2 * z.2.1) = 2 * z.2.1 := znc (by rw [h3]; omega) (by rw [h3]; omega)
   have w2 : w64 (zIb f ((p1.1.take j).map (·.1)) + 2 * z.2.1) = zIb f ((p1.1.take j).map (·.1)) + 2 * z.2.1 := znc (by rw [h3]; omega) (by rw [h3]; omega)
   rw [w1, w2]
   refine Ok.pure ⟨zhc (n := 300) (by omega) (by omega), ?_, ?_⟩
   ·show _ = zIb f ((p1.1.take (j + 1)).map (·.1))
    rw [List.take_succ_eq_append_getElem hj, List.map_append]
    show _ = zIb f (_ ++ [p1.1[j].1])
    rw [ziq, h3]
   ·show zPb f (tot ((p1.1.take (j + 1)).map (·.1))) z.2.2.2.2
    have e : tot ((p1.1.take (j + 1)).map (·.1)) = fun s => tot ((p1.1.take j).map (·.1)) s + am p1.1[j].1 s := funext fun s => by
     rw [List.take_succ_eq_append_getElem hj, List.map_append]
     exact zrk _ _ s
    rw [e]; exact h4
  ·rintro ⟨n, j', m⟩ ⟨hj', hn, hm⟩
   obtain rfl : j' = (p1.1.length : Int) := hj'
   simp only [zbc, zig, cond_false]
   have hn : n = zIb f ((p1.1.take p1.1.length).map (·.1)) := hn
   have hm : zPb f (tot ((p1.1.take p1.1.length).map (·.1))) m := hm
   rw [List.take_length] at hn hm
   exact Ok.pure ⟨_, rfl, hn, hm⟩
 ·obtain ⟨z, rfl, h1, h2⟩ := hr
  simp only [Sum.elim_inr]
  exact Ok.pure ⟨rfl, h1, h2⟩
theorem zPb.eq {f : zd} {g h : Nat → Int} {l m : List Int} (a : zPb f g l) (b : zPb f h m) (e : ∀ s, s < nF f → g s = h s) : l = m := by
 refine List.ext_getElem? fun s => ?_
 by_cases hs : s < nF f
 ·rw [a.2 s hs, b.2 s hs, e s hs]
 ·rw [List.getElem?_eq_none (by have := a.1; omega), List.getElem?_eq_none (by have := b.1; omega)]
end Go.AM
set_option linter.unusedVariables false
namespace Go.AM
open Go
section
variable {T U T' U' : Nat → Int}
theorem zoq (U : Nat → Int) (x : Nat) : ∀ t : List Nat, t.Pairwise (fun a b => U a ≤ U b) → ∃ l' : List Nat, l'.Perm (x :: t) ∧ l'.Pairwise fun a b => U a ≤ U b
 | [], _ => ⟨[x], .refl _, List.pairwise_singleton _ _⟩
 | y :: t, h => by
  have hc := List.pairwise_cons.1 h
  by_cases hxy : U x ≤ U y
  ·refine ⟨x :: y :: t, .refl _, List.pairwise_cons.2 ⟨fun z hz => ?_, h⟩⟩
   rcases List.mem_cons.1 hz with rfl | hz
   ·exact hxy
   ·have := hc.1 z hz; omega
  ·obtain ⟨l', h1, h2⟩ := zoq U x t hc.2
   refine ⟨y :: l', ?_, List.pairwise_cons.2 ⟨fun z hz => ?_, h2⟩⟩
   ·exact (h1.cons y).trans (.swap x y t)
   ·rcases List.mem_cons.1 (h1.mem_iff.1 hz) with rfl | hz
    ·omega
    ·exact hc.1 z hz
theorem zmr (U : Nat → Int) : ∀ l : List Nat, ∃ l' : List Nat, l'.Perm l ∧ l'.Pairwise fun a b => U a ≤ U b
 | [] => ⟨[], .refl _, .nil⟩
 | x :: t => by
  obtain ⟨t', h1, h2⟩ := zmr U t
  obtain ⟨l', h3, h4⟩ := zoq U x t' h2
  exact ⟨l', h3.trans (h1.cons x), h4⟩
theorem InT.mono : ∀ {l : List Nat} {now now' : Int}, (∀ i ∈ l, T' i ≤ T i ∧ U i ≤ U' i) → now' ≤ now → InT T U now l → InT T' U' now' l
 | [], _, _, _, _, _ => trivial
 | x :: t, now, now', h, hn, hi => by
  obtain ⟨h1, h2⟩ := h x (by simp)
  obtain ⟨h3, h4⟩ := hi
  exact ⟨by omega, InT.mono (fun i hi => h i (by simp [hi])) (by omega) h4⟩
theorem zme.mono (hT : ∀ i, 0 ≤ T i) (hT' : ∀ i, 0 ≤ T' i) {l : List Nat} (h : ∀ i ∈ l, T' i ≤ T i ∧ U i ≤ U' i) (hf : zme T U l) : zme T' U' l := by
 obtain ⟨l', h1, h2⟩ := zmr U l
 have hi := (hf.perm h1.symm).inT hT h2
 exact (InT.fits hT' (InT.mono (fun i hi => h i (h1.mem_iff.1 hi)) (Int.le_refl _) hi)).perm h1
theorem CanL.mono (hT : ∀ i, 0 ≤ T i) (hT' : ∀ i, 0 ≤ T' i) {p : Nat} {l : List Nat} (h : ∀ i ∈ l, T' i ≤ T i ∧ U i ≤ U' i) : CanL T U p l → CanL T' U' p l := fun ⟨g, h1, h2⟩ =>
 ⟨g, h1, fun q => (h2 q).mono hT hT' fun i hi => h i (List.mem_filter.1 hi).1⟩
theorem CanL.own (hT : ∀ i, 0 ≤ T i) {p : Nat} {l : List Nat} {i : Nat} (hi : i ∈ l) : CanL T U p l → T i ≤ U i := fun ⟨g, h1, h2⟩ => by
 have hm : i ∈ l.filter fun j => g j == g i := List.mem_filter.2 ⟨hi, by simp⟩
 have := h2 (g i) i hm
 have h3 : T i ≤ lsum T U (U i) (l.filter fun j => g j == g i) := by
  have : ([i] : List Nat).Sublist (l.filter fun j => g j == g i) := List.singleton_sublist.2 hm
  have h4 := zis (U := U) (u := U i) hT this
  simp only [lsum, Int.le_refl, if_true] at h4
  omega
 omega
end
def CanU (f : zd) (i : Nat) (u : Int) (p : Nat) : Prop := CanL (TT f) (fun j => if j = i then u else UU f j) p (List.range (nS f))
theorem CanU.own {f : zd} (hF : Fine f) {i : Nat} (hi : i < nS f) {u : Int} {p : Nat} (h : CanU f i u p) : TT f i ≤ u := by
 have := CanL.own (zqp hF) (List.mem_range.2 hi) h
 simpa using this
theorem CanU.later {f : zd} (hF : Fine f) {i : Nat} {u u' : Int} (hu : u ≤ u') {p : Nat} (h : CanU f i u p) : CanU f i u' p :=
 CanL.mono (zqp hF) (zqp hF) (fun j _ => ⟨Int.le_refl _, by split <;> omega⟩) h
theorem CanU.same {f : zd} {i : Nat} {p : Nat} : CanU f i (UU f i) p ↔ zFp f p := by
 have e : (fun j => if j = i then UU f i else UU f j) = UU f := by
  funext j
  split
  ·rename_i h; rw [h]
  ·rfl
 unfold CanU
 rw [e]
end Go.AM
set_option linter.unusedVariables false
namespace Go.AM
open Go
def Eas (f x : zd) : Prop := ∀ p l, zTr l → (∀ i ∈ l, i < nS f) → z1n f p l → ∃ l', zTr l' ∧ (∀ i ∈ l', i < nS x) ∧ z1n x p l' ∧ l'.length ≤ l.length
theorem zat {f : zd} {p : Nat} : z1n f p [] ↔ zFp f p := by
 unfold z1n
 have : (List.range (nS f)).filter (fun i => !([] : List Nat).contains i) = List.range (nS f) := List.filter_eq_self.2 fun i _ => by simp
 rw [this]
theorem Eas.all {f x : zd} (h : Eas f x) {p : Nat} (hc : zFp f p) : zFp x p := by
 obtain ⟨l', _, _, h3, h4⟩ := h p [] List.Pairwise.nil (fun i hi => by cases hi) (zat.2 hc)
 have : l' = [] := List.length_eq_zero_iff.1 (by simpa using h4)
 rw [this] at h3
 exact zat.1 h3
theorem Eas.of {f x : zd} (hF : Fine f) (hX : Fine x) (hn : nS x = nS f) (ht : ∀ i, i < nS f → TT x i ≤ TT f i ∧ UU f i ≤ UU x i) : Eas f x := by
 intro p l h1 h2 h3
 refine ⟨l, h1, by rw [hn]; exact h2, ?_, Nat.le_refl _⟩
 unfold z1n at h3 ⊢
 rw [hn]
 exact CanL.mono (zqp hF) (zqp hX) (fun i hi => ht i (List.mem_range.1 (List.mem_filter.1 hi).1)) h3
end Go.AM
set_option linter.unusedVariables false
namespace Go.AM
open Go
section
variable {T U : Nat → Int}
end
def znu (n S : Nat) (l : List Int) (q : List Nat) : Prop := l = ints q ∧ q.Nodup ∧ ∀ x ∈ q, x < n ∧ S.testBit x = false
theorem z7u (q : List Nat) (j : Nat) : (ints q).take j = ints (q.take j) := by simp [ints, List.map_take]
theorem znu.take {n S : Nat} {l : List Int} {q : List Nat} (h : znu n S l q) (j : Nat) : znu n S (l.take j) (q.take j) :=
 ⟨by rw [h.1, z7u], h.2.1.sublist (List.take_sublist _ _), fun x hx => h.2.2 x (List.mem_of_mem_take hx)⟩
end Go.AM
set_option linter.unusedVariables false
namespace Go.AM
open Go
def Rows (R : List (SL Int)) (qs : List (List Nat)) : Prop := R.map (·.1) = qs.map ints
theorem Rows.len {R : List (SL Int)} {qs : List (List Nat)} (h : Rows R qs) : R.length = qs.length := by
 have := congrArg List.length h
 simpa using this
theorem Rows.get {R : List (SL Int)} {qs : List (List Nat)} (h : Rows R qs) {i : Nat} (hi : i < R.length) : R[i].1 = ints (qs[i]'(by have := h.len; omega)) := by
 have h1 : (R.map (·.1))[i]? = (qs.map ints)[i]? := by rw [h]
 have hq : i < qs.length := by have := h.len; omega
 simpa [List.getElem?_eq_getElem hi, List.getElem?_eq_getElem hq] using h1
theorem Rows.take {R : List (SL Int)} {qs : List (List Nat)} (h : Rows R qs) (i : Nat) : Rows (R.take i) (qs.take i) := by
 unfold Rows at h ⊢
 rw [List.map_take, List.map_take, h]
theorem zIn : ∀ {a b : List (List Nat)}, a.map ints = b.map ints → a = b
 | [], [], _ => rfl
 | [], _ :: _, h => by simp at h
 | _ :: _, [], h => by simp at h
 | x :: a, y :: b, h => by
  simp only [List.map_cons, List.cons.injEq] at h
  rw [zqw h.1, zIn h.2]
theorem Rows.eq {R : List (SL Int)} {qs qs' : List (List Nat)} (h : Rows R qs) (h' : Rows R qs') : qs = qs' := zIn (h.symm.trans h')
end Go.AM
set_option linter.unusedVariables false
namespace Go.AM
open Go
theorem z1s (k : Nat) {n : Int} {m : Nat} (hm : 0 < m) (hb : m < 9223372036854775808) : ∃ i, i < m ∧ zjb k n (m : Int) = some (i : Int) := by
 have h1 : decide ((m : Int) < 1) = false := by simp; omega
 have h2 : ((m : Int) == 0) = false := by simp; omega
 have hneg := Int.tmod_lt_of_pos n (show (0 : Int) < (m : Int) by omega)
 have hlow : -(m : Int) < n.tmod (m : Int) := by
  have := Int.lt_tmod_of_pos n (show (0 : Int) < (m : Int) by omega)
  omega
 simp only [zjb, h1, h2, cond_false, zDc]
 by_cases h : n.tmod (m : Int) < 0
 ·refine ⟨(n.tmod (m : Int) + m).toNat, by omega, ?_⟩
  rw [show decide (n.tmod (m : Int) < 0) = true by simpa using h]
  simp only [cond_true, Option.bind_some]
  rw [znc (by omega) (by omega), Int.toNat_of_nonneg (by omega)]
 ·refine ⟨(n.tmod (m : Int)).toNat, by omega, ?_⟩
  rw [show decide (n.tmod (m : Int) < 0) = false by simpa using h]
  simp only [cond_false, Option.bind_some]
  rw [Int.toNat_of_nonneg (by omega)]
theorem zfx (k : Nat) {b : SL Int} (hb : b.1.length < 9223372036854775808) (n : Int) : ∃ v, zhd k b n = some v := by
 unfold zhd
 by_cases h : b.1.length = 0
 ·exact ⟨0, by rw [show ((b.1.length : Int) == 0) = true by rw [h]; rfl]; rfl⟩
 ·have c1 : ((b.1.length : Int) == 0) = false := by simp; intro e; exact h (by simp [e])
  obtain ⟨i, hi, hsp⟩ := z1s k (n := n) (m := b.1.length) (by omega) hb
  exact ⟨b.1[i], by simp only [c1, cond_false, hsp, Option.bind_some, zSb hi]⟩
theorem Rows.set {R : List (SL Int)} {qs : List (List Nat)} (h : Rows R qs) (c : Nat) (q : List Nat) (a : Cap) : Rows (R.set c (ints q, a)) (qs.set c q) := by
 unfold Rows at h ⊢
 rw [List.map_set, List.map_set, h]
end Go.AM
set_option linter.unusedVariables false
namespace Go.AM
open Go
structure LInv (f : zd) (s : Int) (g : Nat → Int) (load : Int) (out : List (SL zi)) : Prop where
 all : ∀ t ∈ out.map (·.1), z7b f t
 tot : ∀ y, y < nF f → tot (out.map (·.1)) y = g y
 last : (out = [] ∧ load = f.Carry) ∨ ∃ pre t, out = pre ++ [t] ∧ load = z7 t.1 ∧ z6b t.1 ≤ s
theorem LInv.mono {f : zd} {s s' : Int} {g : Nat → Int} {load : Int} {out : List (SL zi)} (h : LInv f s g load out) (hs : s ≤ s') : LInv f s' g load out := by
 refine ⟨h.all, h.tot, ?_⟩
 rcases h.last with h1 | ⟨pre, t, h1, h2, h3⟩
 ·exact .inl h1
 ·exact .inr ⟨pre, t, h1, h2, by omega⟩
theorem zDw {α : Type} (pre : List α) (x y : α) : (pre ++ [x]).set pre.length y = pre ++ [y] := by
 rw [List.set_append_right _ _ (Nat.le_refl _)]
 simp
theorem zsr {f : zd} {t : List zi} (hl : zL (nF f) t) (hload : z7 t < f.Carry) (hC : f.Carry ≤ 20) {s : Nat} (hs : s < nF f) (hlast : t = [] ∨ z6b t < (s : Int)) : z7b f (t ++ [⟨(s : Int), 1⟩]) := by
 refine ⟨by simp, zXm hl ?_ ?_ ?_, ?_⟩
 ·show _ ≤ (s : Int)
  rcases hlast with h | h
  ·subst h; simp only [List.length_nil, shB]; omega
  ·by_cases e : t = []
   ·subst e; simp only [List.length_nil, shB]; omega
   ·rw [zGo e]; omega
 ·show (s : Int) ≤ _; omega
 ·show (1 : Int) ≤ 1 ∧ (1 : Int) ≤ 20; omega
 ·rw [zad]
  show _ + (1 : Int) ≤ _
  omega
theorem zzt {n : Nat} {l : List zi} (h : zL n l) (a : Nat) : zL n (l.take a) := zgq fun i hi _ => h i hi
theorem zFt {t : List zi} (h : t ≠ []) : ∃ pre x, t = pre ++ [x] ∧ t.take (t.length - 1) = pre ∧ z6b t = x.Shelf ∧ t.length = pre.length + 1 := by
 refine ⟨t.dropLast, t.getLast h, (List.dropLast_concat_getLast h).symm, ?_, ?_, ?_⟩
 ·rw [List.dropLast_eq_take]
 ·unfold z6b; rw [List.getLast?_eq_some_getLast h]; rfl
 ·rw [List.length_dropLast]; have := List.length_pos_iff.2 h; omega
theorem z6u {f : zd} {pre : List zi} {x : zi} (hl : zL (nF f) (pre ++ [x])) (hload : z7 (pre ++ [x]) < f.Carry) (hC : f.Carry ≤ 20) {s : Nat} (hs : s < nF f) (hx : x.Shelf = (s : Int)) : z7b f (pre ++ [⟨(s : Int), x.Many + 1⟩]) := by
 have h1 : zL (nF f) pre := by
  have := zzt hl pre.length
  rwa [List.take_left'] at this
  rfl
 have h2 := hl pre.length (by simp)
 have h3 : (pre ++ [x])[pre.length]'(by simp) = x := by simp
 have h4 : shB (pre ++ [x]) pre.length = shB pre pre.length := by
  have := z9r (pre ++ [x]) pre.length (j := pre.length) (Nat.le_refl _)
  rw [List.take_left' rfl] at this
  exact this.symm
 rw [h3, h4] at h2
 rw [zad] at hload
 have h5 := (zlg (zBc h1)).1
 refine ⟨by simp, zXm h1 ?_ ?_ ?_, ?_⟩
 ·show _ ≤ (s : Int); omega
 ·show (s : Int) ≤ _; omega
 ·show 1 ≤ x.Many + 1 ∧ x.Many + 1 ≤ 20; omega
 ·rw [zad]
  show _ + (x.Many + 1) ≤ _
  omega
theorem zot {k : Nat} {f : zd} (hk : Fuel k f) (hF : Fine f) {i : Nat} {bits : SL Int} (hb : bits.1.length < 9223372036854775808) {a : Nat} {x : zi} (ha : idx (slp f i).Lines.1 (a : Int) = some x) {s : Nat} (hs : x.Shelf = (s : Int)) (hsn : s < nF f) {g : Nat → Int} {load next : Int} {kk : Nat} (hkk : (kk : Int) < x.Many) (hm20 : x.Many ≤ 20) {out : List (SL zi)} (hI : LInv f (s : Int) g load out) (hlen : out.length ≤ 1000) :
  Ok (ztb k f (i : Int) bits (slp f i) (a : Int) load next (kk : Int) out) (fun r => ∃ z, r = .inl z ∧ z.2.2.1 = ((kk + 1 : Nat) : Int) ∧ LInv f (s : Int) (fun y => g y + if s = y then 1 else 0) z.1 z.2.2.2 ∧ z.2.2.2.length ≤ out.length + 1) := by
 have hcar := hF.carry
 have h12 := hF.nfar
 have hkw : w64 ((kk : Int) + 1) = ((kk + 1 : Nat) : Int) := zhc (n := 100) (by omega) (by omega)
 have hJ : ∃ b, zfc k f (i : Int) bits (slp f i) (a : Int) load next (kk : Int) out = some b ∧ (load = f.Carry → b = true) := by
  unfold zfc
  by_cases e : load = f.Carry
  ·have c : (load == f.Carry) = true := by simp [e]
   exact ⟨true, by rw [c]; rfl, fun _ => rfl⟩
  ·have c : (load == f.Carry) = false := by simp [e]
   obtain ⟨v, hv⟩ := zfx k hb (w64 (next + 1))
   obtain ⟨j, _, hj⟩ := z1s k (n := v) (m := 4) (by omega) (by omega)
   have hj : zjb k v 4 = some (j : Int) := hj
   exact ⟨((j : Int) == 0), by rw [c, cond_false, hv]; simp only [Option.bind_some, hj], fun h => absurd h e⟩
 obtain ⟨b, hb1, hb2⟩ := hJ
 have c1 : decide ((kk : Int) < x.Many) = true := decide_eq_true hkk
 simp only [ztb, ha, Option.bind_some, c1, cond_true, hb1]
 have key : ∀ (pre : List (SL zi)) (t : SL zi) (ld : Int) (bb : Bool), (∀ u ∈ pre.map (·.1), z7b f u) → zL (nF f) t.1 → ld = z7 t.1 → ld < f.Carry → (t.1 = [] ∨ z6b t.1 ≤ (s : Int)) → (∀ y, y < nF f → tot (pre.map (·.1)) y + am t.1 y = g y) → pre.length ≤ out.length →
   Ok ((idx (pre ++ [t]) (w64 (((pre ++ [t]).length : Int) - 1))).bind fun v2808 =>
    (zNb k f (i : Int) bits (slp f i) (a : Int) next (kk : Int) (ld, bb, pre ++ [t]) v2808).bind fun v2810 =>
    cond v2810 (
    cond (decide (0 ≤ (w64 ((v2808.1.length : Int) - 1))) && decide ((w64 ((v2808.1.length : Int) - 1)) ≤ (v2808.1.length : Int))) (
    cond (decide ((v2808.1.take (w64 ((v2808.1.length : Int) - 1)).toNat).length ≤ LIM)) (
    (idx v2808.1 (w64 ((v2808.1.length : Int) - 1))).bind fun v2817 =>
    (zO k x.Shelf (w64 (v2817.Many + 1))).bind fun v2819 =>
    cond (decide ((v2808.1.take (w64 ((v2808.1.length : Int) - 1)).toNat).length + 1 ≤ LIM)) (
    (idx (pre ++ [t]) (w64 (((pre ++ [t]).length : Int) - 1))).bind fun v2822 =>
    some (Sum.inl ((w64 (ld + 1)), (w64 (next + 1)), ((kk + 1 : Nat) : Int), ((pre ++ [t]).set (w64 (((pre ++ [t]).length : Int) - 1)).toNat (((v2808.1.take (w64 ((v2808.1.length : Int) - 1)).toNat) ++ [v2819]), (rcap false ((v2808.1.take (w64 ((v2808.1.length : Int) - 1)).toNat) ++ [v2819])))))) ) none) none) none) (
    cond (decide (v2808.1.length ≤ LIM)) (
    (zO k x.Shelf 1).bind fun v2816 =>
    cond (decide (v2808.1.length + 1 ≤ LIM)) (
    (idx (pre ++ [t]) (w64 (((pre ++ [t]).length : Int) - 1))).bind fun v2819 =>
    some (Sum.inl ((w64 (ld + 1)), (w64 (next + 1)), ((kk + 1 : Nat) : Int), ((pre ++ [t]).set (w64 (((pre ++ [t]).length : Int) - 1)).toNat ((v2808.1 ++ [v2816]), (rcap false (v2808.1 ++ [v2816]))))))) none) none))
   (fun r : (Int × Int × Int × (List (SL zi))) ⊕ (Int × Int × Int × (List (SL zi))) => ∃ z, r = .inl z ∧ z.2.2.1 = ((kk + 1 : Nat) : Int) ∧ LInv f (s : Int) (fun y => g y + if s = y then 1 else 0) z.1 z.2.2.2 ∧ z.2.2.2.length ≤ out.length + 1) := by
  intro pre t ld bb hpre hlf hld hlc hlast htot hpl
  have hln := zcd hlf
  have hld0 := (zlg (zBc hlf)).1
  have w1 : w64 (((pre ++ [t]).length : Int) - 1) = (pre.length : Int) := by
   rw [zQf (by rw [List.length_append]; simp; omega)]
   rw [List.length_append]; simp
  have e1 : idx (pre ++ [t]) (pre.length : Int) = some t := by
   rw [zSb (by simp)]; simp
  have w2 : w64 (ld + 1) = ld + 1 := znc (by omega) (by omega)
  have fin : ∀ u : SL zi, z7b f u.1 → z7 u.1 = ld + 1 → z6b u.1 = (s : Int) → (∀ y, y < nF f → am u.1 y = am t.1 y + if s = y then 1 else 0) → LInv f (s : Int) (fun y => g y + if s = y then 1 else 0) (ld + 1) (pre ++ [u]) := fun u hu1 hu2 hu3 hu4 => by
   refine ⟨fun v hv => ?_, fun y hy => ?_, .inr ⟨pre, u, rfl, hu2.symm, by omega⟩⟩
   ·rw [List.map_append] at hv
    rcases List.mem_append.1 hv with h | h
    ·exact hpre v h
    ·obtain rfl : v = u.1 := by simpa using h
     exact hu1
   ·rw [List.map_append]
    show Go.AM.tot (_ ++ [u.1]) y = _
    rw [zrk, hu4 y hy, ← htot y hy]
    omega
  rw [w1, e1]
  simp only [Option.bind_some, Int.toNat_natCast, zDw, w2]
  by_cases hne : t.1 = []
  ·have c2 : decide ((t.1.length : Int) > 0) = false := by rw [hne]; rfl
   have c3 : decide (t.1.length ≤ LIM) = true := zfi (by omega)
   have c4 : decide (t.1.length + 1 ≤ LIM) = true := zfi (by omega)
   simp only [zNb, c2, c3, c4, cond_false, cond_true, Option.bind_some, zO, hs]
   refine Ok.pure ⟨_, rfl, rfl, fin _ (zsr hlf (by omega) hcar.2 hsn (.inl hne)) ?_ (zYj _ _) fun y hy => ?_, by rw [List.length_append]; simp; omega⟩
   ·rw [zad, hld]
   ·show am (t.1 ++ [_]) y = _
    rw [zRf]
    by_cases e : s = y
    ·rw [if_pos e, if_pos (by show (s : Int) = _; omega)]
    ·rw [if_neg e, if_neg (by show ¬ (s : Int) = _; omega)]
  ·obtain ⟨q, l, hq, hq2, hq3, hq4⟩ := zFt hne
   have c2 : decide ((t.1.length : Int) > 0) = true := decide_eq_true (by omega)
   have w3 : w64 ((t.1.length : Int) - 1) = (q.length : Int) := by
    rw [zQf (by omega)]; omega
   have e2 : idx t.1 (q.length : Int) = some l := by
    rw [zSb (by omega)]
    simp only [hq]
    simp
   have hlast2 : z6b t.1 ≤ (s : Int) := by
    rcases hlast with h | h
    ·exact absurd h hne
    ·exact h
   simp only [zNb, c2, cond_true, w3, e2, ha, Option.bind_some, hs]
   by_cases e : l.Shelf = (s : Int)
   ·have c3 : (l.Shelf == (s : Int)) = true := by simp [e]
    have e3 : t.1.take q.length = q := by rw [← hq2, hq4]; simp
    have c4 : (decide (0 ≤ (q.length : Int)) && decide ((q.length : Int) ≤ (t.1.length : Int))) = true := by
     simp only [Bool.and_eq_true, decide_eq_true_eq]; omega
    have c5 : decide (q.length ≤ LIM) = true := zfi (by omega)
    have c6 : decide (q.length + 1 ≤ LIM) = true := zfi (by omega)
    have hl1 : 1 ≤ l.Many ∧ l.Many ≤ 20 := zBc hlf l (by rw [hq]; simp)
    have w4 : w64 (l.Many + 1) = l.Many + 1 := znc (by omega) (by omega)
    simp only [c3, cond_true, c4, Int.toNat_natCast, e3, c5, c6, zO, w4, Option.bind_some]
    have hlf2 := hlf
    rw [hq] at hlf2 hld
    refine Ok.pure ⟨_, rfl, rfl, fin _ (z6u hlf2 (by omega) hcar.2 hsn e) ?_ (zYj _ _) fun y hy => ?_, by rw [List.length_append]; simp; omega⟩
    ·rw [zad]
     rw [zad] at hld
     show _ + (l.Many + 1) = _
     omega
    ·rw [hq]
     show am (q ++ [_]) y = _
     rw [zRf, zRf]
     show am q y + (if (s : Int) = (y : Int) then l.Many + 1 else 0) = am q y + (if l.Shelf = (y : Int) then l.Many else 0) + if s = y then 1 else 0
     rw [e]
     by_cases e' : s = y
     ·rw [if_pos (show (s : Int) = (y : Int) by omega), if_pos (show (s : Int) = (y : Int) by omega), if_pos e']; omega
     ·rw [if_neg (show ¬ (s : Int) = (y : Int) by omega), if_neg (show ¬ (s : Int) = (y : Int) by omega), if_neg e']; omega
   ·have c3 : (l.Shelf == (s : Int)) = false := by simp [e]
    have c4 : decide (t.1.length ≤ LIM) = true := zfi (by omega)
    have c5 : decide (t.1.length + 1 ≤ LIM) = true := zfi (by omega)
    simp only [c3, c4, c5, cond_false, cond_true, Option.bind_some, zO]
    refine Ok.pure ⟨_, rfl, rfl, fin _ (zsr hlf (by omega) hcar.2 hsn (.inr (by omega))) ?_ (zYj _ _) fun y hy => ?_, by rw [List.length_append]; simp; omega⟩
    ·rw [zad, hld]
    ·show am (t.1 ++ [_]) y = _
     rw [zRf]
     by_cases e : s = y
     ·rw [if_pos e, if_pos (by show (s : Int) = _; omega)]
     ·rw [if_neg e, if_neg (by show ¬ (s : Int) = _; omega)]
 cases b with
 | true =>
  have c2 : decide (out.length + 1 ≤ LIM) = true := zfi (by omega)
  simp only [zac, cond_true, c2, Option.bind_some, hkw]
  exact key out ([], Cap.nil) 0 true hI.all (fun j hj => absurd hj (by simp)) rfl (by omega) (.inl rfl) (fun y hy => by rw [hI.tot y hy]; simp [am]) (Nat.le_refl _)
 | false =>
  simp only [zac, cond_false, Option.bind_some, hkw]
  rcases hI.last with ⟨h1, h2⟩ | ⟨pre, t, h1, h2, h3⟩
  ·exact absurd (hb2 h2) (by simp)
  ·have hT : z7b f t.1 := hI.all _ (by rw [h1]; simp)
   have hne : load ≠ f.Carry := fun h => absurd (hb2 h) (by simp)
   have h4 := hT.2.2
   subst h1
   refine key pre t load false (fun u hu => hI.all u (by rw [List.map_append]; exact List.mem_append_left _ hu)) hT.2.1 h2 (by omega) (.inr h3) (fun y hy => ?_) (by simp)
   have := hI.tot y hy
   rw [List.map_append] at this
   rw [← this]
   exact (zrk _ t.1 y).symm
theorem zrt {k : Nat} {f : zd} (hk : Fuel k f) (hF : Fine f) {i : Nat} {bits : SL Int} (hb : bits.1.length < 9223372036854775808) {a : Nat} {x : zi} (ha : idx (slp f i).Lines.1 (a : Int) = some x) {s : Nat} (hs : x.Shelf = (s : Int)) (hsn : s < nF f) {g : Nat → Int} {load next : Int} (hm20 : 1 ≤ x.Many ∧ x.Many ≤ 20) {out : List (SL zi)} (hI : LInv f (s : Int) g load out) (hlen : out.length ≤ 900) :
  Ok (iter (fun t => ztb k f (i : Int) bits (slp f i) (a : Int) t.1 t.2.1 t.2.2.1 t.2.2.2) k (load, next, 0, out)) (fun r => LInv f (s : Int) (fun y => g y + if s = y then x.Many else 0) r.1 r.2.2.2 ∧ r.2.2.2.length ≤ out.length + 20) := by
 have h0 := hk.k0
 obtain ⟨m, hm⟩ : ∃ m : Nat, x.Many = (m : Int) := ⟨x.Many.toNat, by omega⟩
 refine Ok.count m (fun j t => t.2.2.1 = (j : Int) ∧ LInv f (s : Int) (fun y => g y + if s = y then (j : Int) else 0) t.1 t.2.2.2 ∧ t.2.2.2.length ≤ out.length + j) ?_ ?_ ⟨rfl, by
  have e : (fun y => g y + if s = y then ((0 : Nat) : Int) else 0) = g := funext fun y => by
   show g y + (if s = y then (0 : Int) else 0) = g y
   rw [ite_self]; omega
  rw [e]; exact hI, Nat.le_refl _⟩ (by omega)
 ·rintro j ⟨ld, nx, j', o⟩ hj ⟨hj', hL, hol⟩
  obtain rfl : j' = (j : Int) := hj'
  have hol : o.length ≤ out.length + j := hol
  refine (zot hk hF hb ha hs hsn (kk := j) (by omega) hm20.2 hL (by omega)).mono fun r hr => ?_
  obtain ⟨z, rfl, h1, h2, h3⟩ := hr
  refine ⟨h1, ?_, by omega⟩
  have e : (fun y => g y + if s = y then ((j + 1 : Nat) : Int) else 0) = fun y => (g y + if s = y then (j : Int) else 0) + if s = y then 1 else 0 := funext fun y => by
   by_cases c : s = y
   ·rw [if_pos c, if_pos c, if_pos c]; push_cast; omega
   ·rw [if_neg c, if_neg c, if_neg c]; omega
  rw [e]; exact h2
 ·rintro ⟨ld, nx, j', o⟩ ⟨hj', hL, hol⟩
  obtain rfl : j' = (m : Int) := hj'
  have c : decide ((m : Int) < x.Many) = false := decide_eq_false (by omega)
  simp only [ztb, ha, Option.bind_some, c, cond_false]
  have hL : LInv f (s : Int) (fun y => g y + if s = y then (m : Int) else 0) ld o := hL
  have hol : o.length ≤ out.length + m := hol
  refine Ok.pure ⟨?_, by show o.length ≤ _; omega⟩
  rw [hm]; exact hL
theorem zsv {k : Nat} {f : zd} (hk : Fuel k f) (hF : Fine f) {i : Nat} (hi : i < nS f) {bits : SL Int} (hb : bits.1.length < 9223372036854775808) :
  Ok (zNc k f (i : Int) bits) (fun r => zHh f i (r.1.map (·.1)) ∧ r.1.length ≤ 240) := by
 have h0 := hk.k0
 have h12 := hF.nfar
 have hlf : zL (nF f) (lns f i) := (zpf hF hi).2
 have hln := zcd hlf
 unfold zNc
 rw [z9n hi, Option.bind_some]
 refine Ok.bind (P := fun v : Int × Int × Int × List (SL zi) => zHh f i (v.2.2.2.map (·.1)) ∧ v.2.2.2.length ≤ 240) ?_ fun v hv => Ok.pure hv
 refine Ok.count (lns f i).length (fun a t => t.2.2.1 = (a : Int) ∧ (∀ s, shB (lns f i) a ≤ s → LInv f s (am ((lns f i).take a)) t.1 t.2.2.2) ∧ t.2.2.2.length ≤ 20 * a) ?_ ?_ ⟨rfl, fun s _ => ⟨fun t ht => by simp at ht, fun y _ => rfl, .inl ⟨rfl, rfl⟩⟩, by simp⟩ (by omega)
 ·rintro a ⟨ld, nx, a', o⟩ ha ⟨ha', hL, hol⟩
  obtain rfl : a' = (a : Int) := ha'
  have hL : ∀ s, shB (lns f i) a ≤ s → LInv f s (am ((lns f i).take a)) ld o := hL
  have hol : o.length ≤ 20 * a := hol
  obtain ⟨x, hx⟩ : ∃ x, x = (lns f i)[a] := ⟨_, rfl⟩
  have hline := hlf a ha
  have hsh := zNf hlf ha
  have hsx : sh (lns f i) a = x.Shelf := by rw [hx]; exact (z4f ha).symm
  rw [← hx] at hline hsh
  obtain ⟨s, hs'⟩ : ∃ s : Nat, x.Shelf = (s : Int) := ⟨x.Shelf.toNat, by omega⟩
  have e1 : idx (slp f i).Lines.1 (a : Int) = some x := by rw [hx]; exact zSb ha
  have c0 : decide ((a : Int) < ((slp f i).Lines.1.length : Int)) = true := zOc ha
  simp only [zmc, c0, cond_true]
  refine Ok.bind (zrt hk hF hb e1 hs' (by omega) hline.2 (hL (s : Int) (by omega)) (by omega)) fun r hr => ?_
  refine Ok.pure ⟨zhc ha (by omega), fun s2 hs2 => ?_, by have := hr.2; show r.2.2.2.length ≤ _; omega⟩
  have e : am ((lns f i).take (a + 1)) = fun y => am ((lns f i).take a) y + if s = y then x.Many else 0 := funext fun y => by
   rw [List.take_succ_eq_append_getElem ha, ← hx, zRf, hs']
   by_cases c : s = y
   ·rw [if_pos c, if_pos (by omega)]
   ·rw [if_neg c, if_neg (by omega)]
  rw [e]
  refine hr.1.mono ?_
  simp only [shB] at hs2
  omega
 ·rintro ⟨ld, nx, a', o⟩ ⟨ha', hL, hol⟩
  obtain rfl : a' = ((lns f i).length : Int) := ha'
  have c0 : decide (((lns f i).length : Int) < ((slp f i).Lines.1.length : Int)) = false := zig
  simp only [zmc, c0, cond_false]
  have hL := hL _ (Int.le_refl _)
  rw [List.take_length] at hL
  have hol : o.length ≤ 20 * (lns f i).length := hol
  have hl12 : (lns f i).length ≤ 12 := by
   have : (lns f i).length ≤ nF f := hln
   omega
  refine Ok.pure ⟨⟨hL.all, fun y hy => ?_⟩, by show o.length ≤ _; omega⟩
  have := hL.tot y hy
  show Go.AM.tot (o.map (·.1)) y = _
  rw [this, zZw hlf]
end Go.AM
set_option linter.unusedVariables false
namespace Go.AM
open Go
def zqs {α : Type} (f : zd) (z : α) (v : Nat → α) (n : Int) (r : α × Int) : Prop :=
 (¬ Fine f ∧ r = (z, 30)) ∨ (Fine f ∧ ¬ (0 ≤ n ∧ n < (nS f : Int)) ∧ r = (z, 31)) ∨ (Fine f ∧ ∃ i : Nat, i < nS f ∧ n = (i : Int) ∧ r = (v i, 0))
theorem zqs.eq {α : Type} {f : zd} {z : α} {v : Nat → α} {n : Int} {r r' : α × Int} (h : zqs f z v n r) (g : zqs f z v n r') : r = r' := by
 rcases h with ⟨h1, h2⟩ | ⟨h1, h2, h3⟩ | ⟨h1, i, hi, hn, h2⟩ <;> rcases g with ⟨g1, g2⟩ | ⟨g1, g2, g3⟩ | ⟨g1, j, hj, gn, g2⟩
 ·rw [h2, g2]
 ·exact absurd g1 h1
 ·exact absurd g1 h1
 ·exact absurd h1 g1
 ·rw [h3, g3]
 ·exact absurd (show 0 ≤ n ∧ n < (nS f : Int) by omega) h2
 ·exact absurd h1 g1
 ·exact absurd (show 0 ≤ n ∧ n < (nS f : Int) by omega) g2
 ·obtain rfl : i = j := by omega
  rw [h2, g2]
theorem zVr.eq {f : zd} {n : Int} {R : List (SL zi)} {r r' : Bool × Int} (h : zVr f n R r) (g : zVr f n R r') : r = r' := by
 rcases h with ⟨h1, h2⟩ | ⟨h1, h2, h3⟩ | ⟨h1, i, hi, hn, h2, h3⟩ <;> rcases g with ⟨g1, g2⟩ | ⟨g1, g2, g3⟩ | ⟨g1, j, hj, gn, g2, g3⟩
 ·rw [h2, g2]
 ·exact absurd g1 h1
 ·exact absurd g1 h1
 ·exact absurd h1 g1
 ·rw [h3, g3]
 ·exact absurd (show 0 ≤ n ∧ n < (nS f : Int) by omega) h2
 ·exact absurd h1 g1
 ·exact absurd (show 0 ≤ n ∧ n < (nS f : Int) by omega) g2
 ·obtain rfl : i = j := by omega
  obtain ⟨a, b⟩ := r
  obtain ⟨a', b'⟩ := r'
  simp only at h2 g2 h3 g3
  have : a = a' := by rw [Bool.eq_iff_iff, h3, g3]
  rw [this, h2, g2]
theorem zCq {k : Nat} {f : zd} (hk : 5000 < k) (hF : Fine f) {R : List (SL zi)} (hall : ∀ t ∈ R.map (·.1), z7b f t) (hl : R.length ≤ 240) : zqv k R := ⟨⟨by omega, by omega⟩, fun l hlm => by
 have h1 := zcd (hall l.1 (List.mem_map.2 ⟨l, hlm, rfl⟩)).2.1
 have h2 := hF.nfar
 omega⟩
end Go.AM
set_option linter.unusedVariables false
namespace Go.AM
open Go
theorem zds {k : Nat} {f : zd} (hk : Fuel k f) (hF : Fine f) {i : Nat} (hi : i < nS f) (p1 : Int) (bits : SL Int) (v6 : ((SL (SL zi)) × Int)) (v8 : (Int × Int)) (v10 : (Bool × Int)) (v15 : ((SL Int) × Int × Bool)) {out : List Int} (hl : zPb f (fun _ => 0) out) :
  Ok (iter (fun s => zpb k f p1 bits (i : Int) v6 v8 v10 v15 s.1 s.2) k (0, out)) (fun r => zPb f (fun s => ((pc (lns f i) s : Nat) : Int)) r.2) := by
 have hlf : zL (nF f) (lns f i) := (zpf hF hi).2
 have hln := zcd hlf
 have h12 := hF.nfar
 have h0 := hk.k0
 refine Ok.count (lns f i).length (fun j s => s.1 = (j : Int) ∧ zPb f (fun s => ((pc ((lns f i).take j) s : Nat) : Int)) s.2) ?_ ?_ ⟨rfl, by simpa [pc] using hl⟩ (by omega)
 ·rintro j ⟨j', m⟩ hj ⟨hj', hm⟩
  obtain rfl : j' = (j : Int) := hj'
  obtain ⟨x, hx⟩ : ∃ x, x = (lns f i)[j] := ⟨_, rfl⟩
  have hmany := (hlf j hj).2
  have hsh := zNf hlf hj
  rw [← hx] at hmany hsh
  obtain ⟨s, hs⟩ : ∃ s : Nat, x.Shelf = (s : Int) := ⟨x.Shelf.toNat, by omega⟩
  have hsn : s < nF f := by omega
  have c0 : decide ((j : Int) < ((slp f i).Lines.1.length : Int)) = true := zOc hj
  have e1 : idx (slp f i).Lines.1 (j : Int) = some x := by rw [hx]; exact zSb hj
  have hm : zPb f (fun s => ((pc ((lns f i).take j) s : Nat) : Int)) m := hm
  simp only [zpb, z9n hi, Option.bind_some, c0, cond_true, e1, hs, hm.idx hsn, Int.toNat_natCast]
  refine Ok.pure ⟨zhc hj (by omega), hm.set hsn ?_ fun y hy => ?_⟩
  ·show ((pc ((lns f i).take (j + 1)) s : Nat) : Int) = _
   rw [List.take_succ_eq_append_getElem hj, ← hx, z2j]
   unfold put1
   rw [if_pos (by omega)]
   omega
  ·show ((pc ((lns f i).take (j + 1)) y : Nat) : Int) = _
   rw [List.take_succ_eq_append_getElem hj, ← hx, z2j]
   unfold put1
   rw [if_neg (by omega)]
 ·rintro ⟨j', m⟩ ⟨hj', hm⟩
  obtain rfl : j' = ((lns f i).length : Int) := hj'
  have c0 : decide (((lns f i).length : Int) < ((slp f i).Lines.1.length : Int)) = false := zig
  simp only [zpb, z9n hi, Option.bind_some, c0, cond_false]
  have hm : zPb f (fun s => ((pc ((lns f i).take (lns f i).length) s : Nat) : Int)) m := hm
  rw [List.take_length] at hm
  exact Ok.pure hm
theorem z9q {k : Nat} {f : zd} (hs : zZd f) (hk : Fuel k f) (hw : zwc k = some true) (n : Int) {bits : SL Int} (hb : bits.1.length < 9223372036854775808) : zEb k f n bits = some true := by
 refine Ok.eq ?_
 have h0 := hk.k0
 unfold zEb zjc
 obtain ⟨so, hso, hso'⟩ := zQw hs hk
 rw [hso]
 simp only [Option.bind_some]
 cases so with
 | false =>
  simp only [Bool.not_false, cond_true, Option.bind_some, hw]
  exact Ok.pure rfl
 | true =>
  have hF : Fine f := hso'.1 rfl
  have h9 := hF.nslips
  have h12 := hF.nfar
  simp only [Bool.not_true, cond_false, Option.bind_some]
  by_cases hz : nS f = 0
  ·have c : ((f.Slips.1.length : Int) == 0) = true := by
    have : f.Slips.1.length = 0 := hz
    rw [this]; rfl
   simp only [c, cond_true, hw, Option.bind_some]
   exact Ok.pure rfl
  ·have c : ((f.Slips.1.length : Int) == 0) = false := by
    have : f.Slips.1.length ≠ 0 := hz
    simp; intro e; exact this (by simp [e])
   obtain ⟨i, hi, hsp⟩ := zAx k (n := n) (m := nS f) (by omega) (by omega)
   simp only [c, cond_false, hsp, Option.bind_some]
   refine Ok.bind (zhw hs hk (i : Int)) fun v6 h6 => ?_
   rcases h6 with ⟨h, _⟩ | ⟨_, h, _⟩ | ⟨_, i', hi', hii, he, hok, hwk, hlen⟩
   ·exact absurd hF h
   ·exact absurd (show 0 ≤ (i : Int) ∧ (i : Int) < (nS f : Int) by omega) h
   obtain rfl : i = i' := by omega
   rw [zBw hs hk hF hi, Option.bind_some]
   refine Ok.bind (zHp hs hk (i : Int) (zCq h0 hF hok.1 hlen)) fun v10 h10 => ?_
   have e10 : v10 = (true, 0) := by
    rcases h10 with ⟨h, _⟩ | ⟨_, h, _⟩ | ⟨_, j, hj, h, h1, h2⟩
    ·exact absurd hF h
    ·exact absurd (show 0 ≤ (i : Int) ∧ (i : Int) < (nS f : Int) by omega) h
    ·obtain rfl : i = j := by omega
     exact Prod.ext (h2.2 hok) h1
   subst e10
   have hJ2 : zMb k f n bits (i : Int) v6 (zCb f i, 0) (true, 0) = some false := by
    unfold zMb
    have c1 : (v6.2 != 0) = false := by rw [he]; rfl
    rw [c1]; rfl
   rw [hJ2, Option.bind_some, cond_false]
   refine Ok.bind (zmq hs hk hF hok.1 hlen) fun v15 ⟨h1, h2, h3⟩ => ?_
   have hJ3 : zLb k f n bits (i : Int) v6 (zCb f i, 0) (true, 0) v15 = some false := by
    unfold zLb
    rw [h1, h2, hwk]
    simp
   rw [hJ3, Option.bind_some, cond_false]
   have c0 : (decide (0 ≤ (f.Far.1.length : Int)) && decide ((f.Far.1.length : Int) ≤ (LIM : Int))) = true := by
    have h1 : f.Far.1.length ≤ 12 := h12.2
    simp only [Bool.and_eq_true, decide_eq_true_eq]
    exact ⟨by omega, by have : LIM = 4398046511104 := rfl; omega⟩
   rw [c0, cond_true]
   refine Ok.bind (zds hk hF hi n bits v6 (zCb f i, 0) (true, 0) v15 (zBr f)) fun v21 h21 => ?_
   refine Ok.bind (zsv hk hF hi hb) fun v23 ⟨g1, g2⟩ => ?_
   refine Ok.bind (zHp hs hk (i : Int) (zCq h0 hF g1.1 g2)) fun v25 h25 => ?_
   have e25 : v25 = (true, 0) := by
    rcases h25 with ⟨h, _⟩ | ⟨_, h, _⟩ | ⟨_, j, hj, h, h1, h2⟩
    ·exact absurd hF h
    ·exact absurd (show 0 ≤ (i : Int) ∧ (i : Int) < (nS f : Int) by omega) h
    ·obtain rfl : i = j := by omega
     exact Prod.ext (h2.2 g1) h1
   subst e25
   refine Ok.bind (zmq hs hk hF g1.1 g2) fun v27 ⟨f1, f2, f3⟩ => ?_
   have l15 : v15.1.1.length = nF f := h3.1
   have l27 : v27.1.1.length = nF f := f3.1
   refine Ok.bind (z5s (p := v15.1) (q := (v21.2, rcap false v21.2)) (by omega) (by omega)) fun v29 h29 => ?_
   have e29 : v29 = true := h29.2 (h3.eq h21 hok.2)
   subst e29
   have c1 : ((0 : Int) == 0) = true := rfl
   rw [f1]
   simp only [c1, cond_true]
   refine Ok.bind (z5s (p := v27.1) (q := (v21.2, rcap false v21.2)) (by omega) (by omega)) fun v35 h35 => ?_
   have e35 : v35 = true := h35.2 (f3.eq h21 g1.2)
   subst e35
   have c2 : decide (v27.2.1 ≥ zCb f i) = true := decide_eq_true (by rw [f2]; exact zBt hF g1)
   simp only [c2, cond_true, hw, Option.bind_some]
   exact Ok.pure rfl
end Go.AM
