/- The statement SlipSpared holds for every input that its row lets in. Conditions: none. -/
import Derived.KernelRfl
import Derived.Test.YtobbgcagbnhecaaDoorD
set_option linter.all false
set_option linter.unusedVariables false
set_option maxRecDepth 100000
namespace Go.AM
open Go Go.Proofs
noncomputable def zle (p0 : zb) (p1 : Int) (r0 : (SL Int)) (r1 r2 : Int) (cb : Bool) (rc : zt0) (f1 f2 f3 f4 f5 f6 f7 : Fr) (r : zt1) : St := ⟨(znl r0 r1 r2 r), ⟨[], [[(zc 2 (za p0)), (3, (.cells [(xi p1)])), (zc 6 (za p0)), (8, (.cells [(xi (w64 ((zo 1 (p0.Slips.1.length : Int)) - 1)))])), (9, (.cells [(.fn 77 [] [(.ptr 0 6 0), (.ptr 0 8 0), (.ptr 0 3 0), (.ptr 0 9 0)])]))], f1, f2, f3, f4, f5, f6, f7]⟩, []⟩
theorem zgk (k : Nat) (p0 : zb) (p1 : Int) (r0 : (SL Int)) (r1 r2 : Int) (cb : Bool) (rc : zt0) (f1 f2 f3 f4 f5 f6 f7 : Fr) (hrc : ∀ (f : Fr) (r0 : (SL Int)) (r1 : Int) (r2 : Int) (r : ((SL Int) × Bool)), rc r0 r1 r2 = some r → zR TE (ev TE) 77 [(.d (dl eI r0.1 r0.2)), (xi r1), (xi r2), (.ptr 0 6 0), (.ptr 0 8 0), (.ptr 0 3 0), (.ptr 0 9 0)] ⟨f, [[(2, (.cells ((za p0).map .d))), (3, (.cells [(xi p1)])), (6, (.cells ((za p0).map .d))), (8, (.cells [(xi (w64 ((zo 1 (p0.Slips.1.length : Int)) - 1)))])), (9, (.cells [(.fn 77 [] [(.ptr 0 6 0), (.ptr 0 8 0), (.ptr 0 3 0), (.ptr 0 9 0)])]))], f1, f2, f3, f4, f5, f6, f7]⟩ [] = some (zu r, ⟨f, [[(2, (.cells ((za p0).map .d))), (3, (.cells [(xi p1)])), (6, (.cells ((za p0).map .d))), (8, (.cells [(xi (w64 ((zo 1 (p0.Slips.1.length : Int)) - 1)))])), (9, (.cells [(.fn 77 [] [(.ptr 0 6 0), (.ptr 0 8 0), (.ptr 0 3 0), (.ptr 0 9 0)])]))], f1, f2, f3, f4, f5, f6, f7]⟩, [])) (r : zt1) (h : zJi k p0 p1 r0 r1 r2 cb rc = some r) : ev TE 77 (cnd TE 77 36) ⟨(zjl r0 r1 r2 cb), ⟨[], [[(zc 2 (za p0)), (3, (.cells [(xi p1)])), (zc 6 (za p0)), (8, (.cells [(xi (w64 ((zo 1 (p0.Slips.1.length : Int)) - 1)))])), (9, (.cells [(.fn 77 [] [(.ptr 0 6 0), (.ptr 0 8 0), (.ptr 0 3 0), (.ptr 0 9 0)])]))], f1, f2, f3, f4, f5, f6, f7]⟩, []⟩ = some (.nor, zle p0 p1 r0 r1 r2 cb rc f1 f2 f3 f4 f5 f6 f7 r) := by
 unfold zJi at h
 refine zm h (fun h1801 g1 => ?_) (fun h1801 g1 => ?_)
 ·subst h1801
  refine zj g1 (fun v1802 h1803 g2 => ?_)
  exact zy (g := fun r => (Ex.nor, zle p0 p1 r0 r1 r2 true rc f1 f2 f3 f4 f5 f6 f7 r)) g2 (zqe [(77, 6, 2, .q (xi (r0.1.length : Int))), (77, 6, 4, .q (.d (.pin [(di v1802)])))] [] (ob (zp eI r0.1) (ob (o_ia (e := eI) 1 h1803 rfl) ob0)) (by kernel_rfl))
 ·subst h1801
  exact zy (g := fun r => (Ex.nor, zle p0 p1 r0 r1 r2 false rc f1 f2 f3 f4 f5 f6 f7 r)) g1 (zqe [] [] ob0 (by kernel_rfl))
noncomputable def zKx (r0 : (SL Int)) (r1 r2 : Int) (v1702 : zt1) (s18_8 : Int) : TM := [(0, (.d (dl eI r0.1 r0.2))), (1, (xi r1)), (2, (xi r2)), (3, (.ptr 0 6 0)), (4, (.ptr 0 8 0)), (5, (.ptr 0 3 0)), (6, (.ptr 0 9 0)), (10, (.d (.sl [] .nil))), (11, (xb false)), (21, (xb false)), (14, (xi v1702.1)), (36, (xb v1702.2)), (15, (xi s18_8))]
noncomputable def zao (p0 : zb) (p1 : Int) (r0 : (SL Int)) (r1 r2 : Int) (v1702 : zt1) (rc : zt0) (f1 f2 f3 f4 f5 f6 f7 : Fr) (s18_8 : Int) : St := ⟨(zKx r0 r1 r2 v1702 s18_8), ⟨[], [[(zc 2 (za p0)), (3, (.cells [(xi p1)])), (zc 6 (za p0)), (8, (.cells [(xi (w64 ((zo 1 (p0.Slips.1.length : Int)) - 1)))])), (9, (.cells [(.fn 77 [] [(.ptr 0 6 0), (.ptr 0 8 0), (.ptr 0 3 0), (.ptr 0 9 0)])]))], f1, f2, f3, f4, f5, f6, f7]⟩, []⟩
noncomputable def zlx (r0 : (SL Int)) (r1 r2 : Int) (r : zt17) (v1702 : zt1) : TM := [(0, (.d (dl eI r0.1 r0.2))), (1, (xi r1)), (2, (xi r2)), (3, (.ptr 0 6 0)), (4, (.ptr 0 8 0)), (5, (.ptr 0 3 0)), (6, (.ptr 0 9 0)), (10, (.d (dl eI r.1.1 r.1.2))), (11, (xb true)), (21, (xb false)), (14, (xi v1702.1)), (36, (xb v1702.2)), (15, (xi r.2.1)), (50, (xb true)), (16, (.d (dl eI r.1.1 r.1.2))), (17, (xb r.2.2)), (72, (xb true))]
noncomputable def z0g (p0 : zb) (p1 : Int) (r0 : (SL Int)) (r1 r2 : Int) (v1702 : zt1) (rc : zt0) (f1 f2 f3 f4 f5 f6 f7 : Fr) (r : zt17) : St := ⟨(zlx r0 r1 r2 r v1702), ⟨[], [[(zc 2 (za p0)), (3, (.cells [(xi p1)])), (zc 6 (za p0)), (8, (.cells [(xi (w64 ((zo 1 (p0.Slips.1.length : Int)) - 1)))])), (9, (.cells [(.fn 77 [] [(.ptr 0 6 0), (.ptr 0 8 0), (.ptr 0 3 0), (.ptr 0 9 0)])]))], f1, f2, f3, f4, f5, f6, f7]⟩, []⟩
noncomputable def zHx (r0 : (SL Int)) (r1 r2 : Int) (v1702 : zt1) (r : Int) : TM := [(0, (.d (dl eI r0.1 r0.2))), (1, (xi r1)), (2, (xi r2)), (3, (.ptr 0 6 0)), (4, (.ptr 0 8 0)), (5, (.ptr 0 3 0)), (6, (.ptr 0 9 0)), (10, (.d (.sl [] .nil))), (11, (xb false)), (21, (xb false)), (14, (xi v1702.1)), (36, (xb v1702.2)), (15, (xi r)), (50, (xb false))]
noncomputable def zIg (p0 : zb) (p1 : Int) (r0 : (SL Int)) (r1 r2 : Int) (v1702 : zt1) (rc : zt0) (f1 f2 f3 f4 f5 f6 f7 : Fr) (r : Int) : St := ⟨(zHx r0 r1 r2 v1702 r), ⟨[], [[(zc 2 (za p0)), (3, (.cells [(xi p1)])), (zc 6 (za p0)), (8, (.cells [(xi (w64 ((zo 1 (p0.Slips.1.length : Int)) - 1)))])), (9, (.cells [(.fn 77 [] [(.ptr 0 6 0), (.ptr 0 8 0), (.ptr 0 3 0), (.ptr 0 9 0)])]))], f1, f2, f3, f4, f5, f6, f7]⟩, []⟩
noncomputable def zKo (p0 : zb) (p1 : Int) (r0 : (SL Int)) (r1 r2 : Int) (v1702 : zt1) (rc : zt0) (f1 f2 f3 f4 f5 f6 f7 : Fr) : (((SL Int) × Int × Bool) ⊕ Int) → Ex × St := Sum.elim (fun r => (.ret, z0g p0 p1 r0 r1 r2 v1702 rc f1 f2 f3 f4 f5 f6 f7 r)) (fun r => ((.exit 0), zIg p0 p1 r0 r1 r2 v1702 rc f1 f2 f3 f4 f5 f6 f7 r))
theorem z1j (k : Nat) (p0 : zb) (p1 : Int) (r0 : (SL Int)) (r1 r2 : Int) (v1702 : zt1) (rc : zt0) (f1 f2 f3 f4 f5 f6 f7 : Fr) (hrc : ∀ (f : Fr) (r0 : (SL Int)) (r1 : Int) (r2 : Int) (r : ((SL Int) × Bool)), rc r0 r1 r2 = some r → zR TE (ev TE) 77 [(.d (dl eI r0.1 r0.2)), (xi r1), (xi r2), (.ptr 0 6 0), (.ptr 0 8 0), (.ptr 0 3 0), (.ptr 0 9 0)] ⟨f, [[(2, (.cells ((za p0).map .d))), (3, (.cells [(xi p1)])), (6, (.cells ((za p0).map .d))), (8, (.cells [(xi (w64 ((zo 1 (p0.Slips.1.length : Int)) - 1)))])), (9, (.cells [(.fn 77 [] [(.ptr 0 6 0), (.ptr 0 8 0), (.ptr 0 3 0), (.ptr 0 9 0)])]))], f1, f2, f3, f4, f5, f6, f7]⟩ [] = some (zu r, ⟨f, [[(2, (.cells ((za p0).map .d))), (3, (.cells [(xi p1)])), (6, (.cells ((za p0).map .d))), (8, (.cells [(xi (w64 ((zo 1 (p0.Slips.1.length : Int)) - 1)))])), (9, (.cells [(.fn 77 [] [(.ptr 0 6 0), (.ptr 0 8 0), (.ptr 0 3 0), (.ptr 0 9 0)])]))], f1, f2, f3, f4, f5, f6, f7]⟩, [])) (s18_8 : Int) (x : Int ⊕ (((SL Int) × Int × Bool) ⊕ Int)) (h : zUi k p0 p1 r0 r1 r2 v1702 rc s18_8 = some x) : zM TE 77 (blk TE 77 0) (fun s : Int => zao p0 p1 r0 r1 r2 v1702 rc f1 f2 f3 f4 f5 f6 f7 s) (zKo p0 p1 r0 r1 r2 v1702 rc f1 f2 f3 f4 f5 f6 f7) s18_8 x := by
 unfold zUi at h
 refine zm h (fun h1901 g1 => ?_) (fun h1901 g1 => ?_)
 ·refine zm g1 (fun h1902 g2 => ?_) (fun h1902 g2 => ?_)
  ·cases g2
  ·refine z9 g2 (fun h1903 g3 => ?_)
   refine zm g3 (fun h1904 g4 => ?_) (fun h1904 g4 => ?_)
   ·cases g4
   ·refine zj g4 (fun v1905 h1906 g5 => ?_)
    refine zm g5 (fun h1907 g6 => ?_) (fun h1907 g6 => ?_)
    ·exact zqo [(77, 8, 4, .q (xi (p0.Slips.1.length : Int))), (77, 8, 5, .q (xb true)), (77, 10, 3, .q (xi (r0.1.length : Int))), (77, 10, 5, .q (xi (r0.1.length : Int))), (77, 10, 6, .q (.d (dl eI r0.1 (ccap r0.2)))), (77, 10, 9, .q (.d (dl eI (r0.1 ++ [s18_8]) .ro))), (77, 10, 12, .q (xi (zo 1 s18_8))), (77, 10, 15, .i (.tup [(dl eI v1905.1.1 v1905.1.2), (db v1905.2)]) ⟨[], [[(2, (.cells ((za p0).map .d))), (3, (.cells [(xi p1)])), (6, (.cells ((za p0).map .d))), (8, (.cells [(xi (w64 ((zo 1 (p0.Slips.1.length : Int)) - 1)))])), (9, (.cells [(.fn 77 [] [(.ptr 0 6 0), (.ptr 0 8 0), (.ptr 0 3 0), (.ptr 0 9 0)])]))], f1, f2, f3, f4, f5, f6, f7]⟩ []), (77, 11, 0, .q (xb true))] [] g6 (ob (zp zi p0.Slips.1) (ob (o_b h1901) (ob (zp eI r0.1) (ob (zp eI r0.1) (ob (z0c (e := eI) (z := 1) r0.1 r0.2) (ob (o_ad (P := TE.P) (φ := fun _ _ => none) (T := 22) (q := (1, [(di 0)])) (c := (ccap r0.2)) (e := eI) r0.1 s18_8 (by kernel_rfl) (fun _ => rfl) h1902 h1903) (ob (zYb (x := 1) h1904) (ob (hrc ([] : Fr) ((r0.1 ++ [s18_8]), .ro) (or64 r1 (zo 1 s18_8)) r2 _ h1906) (ob (o_b h1907) ob0))))))))) (by kernel_rfl)
    ·exact zqn (w64 (s18_8 + 1)) [] [(77, 8, 4, .q (xi (p0.Slips.1.length : Int))), (77, 8, 5, .q (xb true)), (77, 10, 3, .q (xi (r0.1.length : Int))), (77, 10, 5, .q (xi (r0.1.length : Int))), (77, 10, 6, .q (.d (dl eI r0.1 (ccap r0.2)))), (77, 10, 9, .q (.d (dl eI (r0.1 ++ [s18_8]) .ro))), (77, 10, 12, .q (xi (zo 1 s18_8))), (77, 10, 15, .i (.tup [(dl eI v1905.1.1 v1905.1.2), (db v1905.2)]) ⟨[], [[(2, (.cells ((za p0).map .d))), (3, (.cells [(xi p1)])), (6, (.cells ((za p0).map .d))), (8, (.cells [(xi (w64 ((zo 1 (p0.Slips.1.length : Int)) - 1)))])), (9, (.cells [(.fn 77 [] [(.ptr 0 6 0), (.ptr 0 8 0), (.ptr 0 3 0), (.ptr 0 9 0)])]))], f1, f2, f3, f4, f5, f6, f7]⟩ []), (77, 11, 0, .q (xb false))] [] g6 (ob (zp zi p0.Slips.1) (ob (o_b h1901) (ob (zp eI r0.1) (ob (zp eI r0.1) (ob (z0c (e := eI) (z := 1) r0.1 r0.2) (ob (o_ad (P := TE.P) (φ := fun _ _ => none) (T := 22) (q := (1, [(di 0)])) (c := (ccap r0.2)) (e := eI) r0.1 s18_8 (by kernel_rfl) (fun _ => rfl) h1902 h1903) (ob (zYb (x := 1) h1904) (ob (hrc ([] : Fr) ((r0.1 ++ [s18_8]), .ro) (or64 r1 (zo 1 s18_8)) r2 _ h1906) (ob (o_b h1907) ob0))))))))) (by kernel_rfl)
 ·exact zqo [(77, 8, 4, .q (xi (p0.Slips.1.length : Int))), (77, 8, 5, .q (xb false))] [] g1 (ob (zp zi p0.Slips.1) (ob (o_b h1901) ob0)) (by kernel_rfl)
theorem zEn (k : Nat) (p0 : zb) (p1 : Int) (rc : zt0) (f1 f2 f3 f4 f5 f6 f7 : Fr) (hrc : ∀ (f : Fr) (r0 : (SL Int)) (r1 : Int) (r2 : Int) (r : ((SL Int) × Bool)), rc r0 r1 r2 = some r → zR TE (ev TE) 77 [(.d (dl eI r0.1 r0.2)), (xi r1), (xi r2), (.ptr 0 6 0), (.ptr 0 8 0), (.ptr 0 3 0), (.ptr 0 9 0)] ⟨f, [[(2, (.cells ((za p0).map .d))), (3, (.cells [(xi p1)])), (6, (.cells ((za p0).map .d))), (8, (.cells [(xi (w64 ((zo 1 (p0.Slips.1.length : Int)) - 1)))])), (9, (.cells [(.fn 77 [] [(.ptr 0 6 0), (.ptr 0 8 0), (.ptr 0 3 0), (.ptr 0 9 0)])]))], f1, f2, f3, f4, f5, f6, f7]⟩ [] = some (zu r, ⟨f, [[(2, (.cells ((za p0).map .d))), (3, (.cells [(xi p1)])), (6, (.cells ((za p0).map .d))), (8, (.cells [(xi (w64 ((zo 1 (p0.Slips.1.length : Int)) - 1)))])), (9, (.cells [(.fn 77 [] [(.ptr 0 6 0), (.ptr 0 8 0), (.ptr 0 3 0), (.ptr 0 9 0)])]))], f1, f2, f3, f4, f5, f6, f7]⟩, [])) (r0 : (SL Int)) (r1 r2 : Int) (r : zt13) (h : zSh k p0 p1 rc r0 r1 r2 = some r) : zR TE (ev TE) 77 [(.d (dl eI r0.1 r0.2)), (xi r1), (xi r2), (.ptr 0 6 0), (.ptr 0 8 0), (.ptr 0 3 0), (.ptr 0 9 0)] ⟨f7, [[(zc 2 (za p0)), (3, (.cells [(xi p1)])), (zc 6 (za p0)), (8, (.cells [(xi (w64 ((zo 1 (p0.Slips.1.length : Int)) - 1)))])), (9, (.cells [(.fn 77 [] [(.ptr 0 6 0), (.ptr 0 8 0), (.ptr 0 3 0), (.ptr 0 9 0)])]))], f1, f2, f3, f4, f5, f6]⟩ [] = some (zu r, ⟨f7, [[(zc 2 (za p0)), (3, (.cells [(xi p1)])), (zc 6 (za p0)), (8, (.cells [(xi (w64 ((zo 1 (p0.Slips.1.length : Int)) - 1)))])), (9, (.cells [(.fn 77 [] [(.ptr 0 6 0), (.ptr 0 8 0), (.ptr 0 3 0), (.ptr 0 9 0)])]))], f1, f2, f3, f4, f5, f6]⟩, []) := by
 unfold zSh at h
 refine zm h (fun h1701 g1 => ?_) (fun h1701 g1 => ?_)
 ·refine zj g1 (fun v1702 h1703 g2 => ?_)
  exact zW (g := (fun r => (zu r, ⟨f7, [[(2, (.cells ((za p0).map .d))), (3, (.cells [(xi p1)])), (6, (.cells ((za p0).map .d))), (8, (.cells [(xi (w64 ((zo 1 (p0.Slips.1.length : Int)) - 1)))])), (9, (.cells [(.fn 77 [] [(.ptr 0 6 0), (.ptr 0 8 0), (.ptr 0 3 0), (.ptr 0 9 0)])]))], f1, f2, f3, f4, f5, f6]⟩, []))) g2 (zN (n := 80) (V := [(77, 1, 1, .q (xi (r0.1.length : Int))), (77, 1, 3, .q (xb true)), (77, 2, 6, .c (.tup [(dl (eL eI) v1702.1.1 v1702.1.2), (db v1702.2)]))]) (C := []) (ob (zp eI r0.1) (ob (o_b h1701) (ob (zX k (⟨p0⟩ : zd) (⟨(znb (w64 ((zo 1 (p0.Slips.1.length : Int)) - 1)) r1), p1⟩ : zt) _ h1703) ob0))) (by kernel_rfl))
 ·refine zj g1 (fun v1702 h1703 g2 => ?_)
  refine zj g2 (fun v1704 h1705 g3 => ?_)
  refine zFc g3 (fun v1707 hh g4_0 => ?_) (fun v1707 hh g4_0 => ?_)
  ·subst hh
   exact zW (g := (fun r => (zu r, ⟨f7, [[(2, (.cells ((za p0).map .d))), (3, (.cells [(xi p1)])), (6, (.cells ((za p0).map .d))), (8, (.cells [(xi (w64 ((zo 1 (p0.Slips.1.length : Int)) - 1)))])), (9, (.cells [(.fn 77 [] [(.ptr 0 6 0), (.ptr 0 8 0), (.ptr 0 3 0), (.ptr 0 9 0)])]))], f1, f2, f3, f4, f5, f6]⟩, []))) g4_0 (zN (n := 80) (V := [(77, 1, 1, .q (xi (r0.1.length : Int))), (77, 1, 3, .q (xb false)), (77, 5, 1, .q (xi (r0.1.length : Int)))]) (C := [(77, 2000036, (.nor, zle p0 p1 r0 r1 r2 (decide ((r0.1.length : Int) > 0)) rc f1 f2 f3 f4 f5 f6 f7 v1702)), (77, 0, (.ret, z0g p0 p1 r0 r1 r2 v1702 rc f1 f2 f3 f4 f5 f6 f7 v1707))]) (ob (zp eI r0.1) (ob (o_b h1701) (ob (zp eI r0.1) (ob (zgk k p0 p1 r0 r1 r2 (decide ((r0.1.length : Int) > 0)) rc f1 f2 f3 f4 f5 f6 f7 hrc _ h1703) (ob (zA (id := 0) (r' := (.ret, z0g p0 p1 r0 r1 r2 v1702 rc f1 f2 f3 f4 f5 f6 f7 v1707)) (zud (z1j k p0 p1 r0 r1 r2 v1702 rc f1 f2 f3 f4 f5 f6 f7 hrc) k _ _ h1705) rfl) ob0))))) (by kernel_rfl))
  ·subst hh
   exact zW (g := (fun r => (zu r, ⟨f7, [[(2, (.cells ((za p0).map .d))), (3, (.cells [(xi p1)])), (6, (.cells ((za p0).map .d))), (8, (.cells [(xi (w64 ((zo 1 (p0.Slips.1.length : Int)) - 1)))])), (9, (.cells [(.fn 77 [] [(.ptr 0 6 0), (.ptr 0 8 0), (.ptr 0 3 0), (.ptr 0 9 0)])]))], f1, f2, f3, f4, f5, f6]⟩, []))) g4_0 (zN (n := 80) (V := [(77, 1, 1, .q (xi (r0.1.length : Int))), (77, 1, 3, .q (xb false)), (77, 5, 1, .q (xi (r0.1.length : Int)))]) (C := [(77, 2000036, (.nor, zle p0 p1 r0 r1 r2 (decide ((r0.1.length : Int) > 0)) rc f1 f2 f3 f4 f5 f6 f7 v1702)), (77, 0, (.nor, zIg p0 p1 r0 r1 r2 v1702 rc f1 f2 f3 f4 f5 f6 f7 v1707))]) (ob (zp eI r0.1) (ob (o_b h1701) (ob (zp eI r0.1) (ob (zgk k p0 p1 r0 r1 r2 (decide ((r0.1.length : Int) > 0)) rc f1 f2 f3 f4 f5 f6 f7 hrc _ h1703) (ob (zA (id := 0) (r' := (.nor, zIg p0 p1 r0 r1 r2 v1702 rc f1 f2 f3 f4 f5 f6 f7 v1707)) (zud (z1j k p0 p1 r0 r1 r2 v1702 rc f1 f2 f3 f4 f5 f6 f7 hrc) k _ _ h1705) rfl) ob0))))) (by kernel_rfl))
noncomputable def zhe (p0 : zb) (p1 : Int) (r0 : (SL Int)) (r1 r2 : Int) (cb : Bool) (rc : zt0) (f1 f2 f3 f4 f5 f6 f7 f8 : Fr) (r : zt1) : St := ⟨(znl r0 r1 r2 r), ⟨[], [[(zc 2 (za p0)), (3, (.cells [(xi p1)])), (zc 6 (za p0)), (8, (.cells [(xi (w64 ((zo 1 (p0.Slips.1.length : Int)) - 1)))])), (9, (.cells [(.fn 77 [] [(.ptr 0 6 0), (.ptr 0 8 0), (.ptr 0 3 0), (.ptr 0 9 0)])]))], f1, f2, f3, f4, f5, f6, f7, f8]⟩, []⟩
theorem z4j (k : Nat) (p0 : zb) (p1 : Int) (r0 : (SL Int)) (r1 r2 : Int) (cb : Bool) (rc : zt0) (f1 f2 f3 f4 f5 f6 f7 f8 : Fr) (hrc : ∀ (f : Fr) (r0 : (SL Int)) (r1 : Int) (r2 : Int) (r : ((SL Int) × Bool)), rc r0 r1 r2 = some r → zR TE (ev TE) 77 [(.d (dl eI r0.1 r0.2)), (xi r1), (xi r2), (.ptr 0 6 0), (.ptr 0 8 0), (.ptr 0 3 0), (.ptr 0 9 0)] ⟨f, [[(2, (.cells ((za p0).map .d))), (3, (.cells [(xi p1)])), (6, (.cells ((za p0).map .d))), (8, (.cells [(xi (w64 ((zo 1 (p0.Slips.1.length : Int)) - 1)))])), (9, (.cells [(.fn 77 [] [(.ptr 0 6 0), (.ptr 0 8 0), (.ptr 0 3 0), (.ptr 0 9 0)])]))], f1, f2, f3, f4, f5, f6, f7, f8]⟩ [] = some (zu r, ⟨f, [[(2, (.cells ((za p0).map .d))), (3, (.cells [(xi p1)])), (6, (.cells ((za p0).map .d))), (8, (.cells [(xi (w64 ((zo 1 (p0.Slips.1.length : Int)) - 1)))])), (9, (.cells [(.fn 77 [] [(.ptr 0 6 0), (.ptr 0 8 0), (.ptr 0 3 0), (.ptr 0 9 0)])]))], f1, f2, f3, f4, f5, f6, f7, f8]⟩, [])) (r : zt1) (h : zXi k p0 p1 r0 r1 r2 cb rc = some r) : ev TE 77 (cnd TE 77 36) ⟨(zjl r0 r1 r2 cb), ⟨[], [[(zc 2 (za p0)), (3, (.cells [(xi p1)])), (zc 6 (za p0)), (8, (.cells [(xi (w64 ((zo 1 (p0.Slips.1.length : Int)) - 1)))])), (9, (.cells [(.fn 77 [] [(.ptr 0 6 0), (.ptr 0 8 0), (.ptr 0 3 0), (.ptr 0 9 0)])]))], f1, f2, f3, f4, f5, f6, f7, f8]⟩, []⟩ = some (.nor, zhe p0 p1 r0 r1 r2 cb rc f1 f2 f3 f4 f5 f6 f7 f8 r) := by
 unfold zXi at h
 refine zm h (fun h2001 g1 => ?_) (fun h2001 g1 => ?_)
 ·subst h2001
  refine zj g1 (fun v2002 h2003 g2 => ?_)
  exact zy (g := fun r => (Ex.nor, zhe p0 p1 r0 r1 r2 true rc f1 f2 f3 f4 f5 f6 f7 f8 r)) g2 (zqe [(77, 6, 2, .q (xi (r0.1.length : Int))), (77, 6, 4, .q (.d (.pin [(di v2002)])))] [] (ob (zp eI r0.1) (ob (o_ia (e := eI) 1 h2003 rfl) ob0)) (by kernel_rfl))
 ·subst h2001
  exact zy (g := fun r => (Ex.nor, zhe p0 p1 r0 r1 r2 false rc f1 f2 f3 f4 f5 f6 f7 f8 r)) g1 (zqe [] [] ob0 (by kernel_rfl))
noncomputable def zvx (r0 : (SL Int)) (r1 r2 : Int) (v1902 : zt1) (s20_8 : Int) : TM := [(0, (.d (dl eI r0.1 r0.2))), (1, (xi r1)), (2, (xi r2)), (3, (.ptr 0 6 0)), (4, (.ptr 0 8 0)), (5, (.ptr 0 3 0)), (6, (.ptr 0 9 0)), (10, (.d (.sl [] .nil))), (11, (xb false)), (21, (xb false)), (14, (xi v1902.1)), (36, (xb v1902.2)), (15, (xi s20_8))]
noncomputable def zuo (p0 : zb) (p1 : Int) (r0 : (SL Int)) (r1 r2 : Int) (v1902 : zt1) (rc : zt0) (f1 f2 f3 f4 f5 f6 f7 f8 : Fr) (s20_8 : Int) : St := ⟨(zvx r0 r1 r2 v1902 s20_8), ⟨[], [[(zc 2 (za p0)), (3, (.cells [(xi p1)])), (zc 6 (za p0)), (8, (.cells [(xi (w64 ((zo 1 (p0.Slips.1.length : Int)) - 1)))])), (9, (.cells [(.fn 77 [] [(.ptr 0 6 0), (.ptr 0 8 0), (.ptr 0 3 0), (.ptr 0 9 0)])]))], f1, f2, f3, f4, f5, f6, f7, f8]⟩, []⟩
noncomputable def z8w (r0 : (SL Int)) (r1 r2 : Int) (r : zt17) (v1902 : zt1) : TM := [(0, (.d (dl eI r0.1 r0.2))), (1, (xi r1)), (2, (xi r2)), (3, (.ptr 0 6 0)), (4, (.ptr 0 8 0)), (5, (.ptr 0 3 0)), (6, (.ptr 0 9 0)), (10, (.d (dl eI r.1.1 r.1.2))), (11, (xb true)), (21, (xb false)), (14, (xi v1902.1)), (36, (xb v1902.2)), (15, (xi r.2.1)), (50, (xb true)), (16, (.d (dl eI r.1.1 r.1.2))), (17, (xb r.2.2)), (72, (xb true))]
noncomputable def zQg (p0 : zb) (p1 : Int) (r0 : (SL Int)) (r1 r2 : Int) (v1902 : zt1) (rc : zt0) (f1 f2 f3 f4 f5 f6 f7 f8 : Fr) (r : zt17) : St := ⟨(z8w r0 r1 r2 r v1902), ⟨[], [[(zc 2 (za p0)), (3, (.cells [(xi p1)])), (zc 6 (za p0)), (8, (.cells [(xi (w64 ((zo 1 (p0.Slips.1.length : Int)) - 1)))])), (9, (.cells [(.fn 77 [] [(.ptr 0 6 0), (.ptr 0 8 0), (.ptr 0 3 0), (.ptr 0 9 0)])]))], f1, f2, f3, f4, f5, f6, f7, f8]⟩, []⟩
noncomputable def z6w (r0 : (SL Int)) (r1 r2 : Int) (v1902 : zt1) (r : Int) : TM := [(0, (.d (dl eI r0.1 r0.2))), (1, (xi r1)), (2, (xi r2)), (3, (.ptr 0 6 0)), (4, (.ptr 0 8 0)), (5, (.ptr 0 3 0)), (6, (.ptr 0 9 0)), (10, (.d (.sl [] .nil))), (11, (xb false)), (21, (xb false)), (14, (xi v1902.1)), (36, (xb v1902.2)), (15, (xi r)), (50, (xb false))]
noncomputable def zYg (p0 : zb) (p1 : Int) (r0 : (SL Int)) (r1 r2 : Int) (v1902 : zt1) (rc : zt0) (f1 f2 f3 f4 f5 f6 f7 f8 : Fr) (r : Int) : St := ⟨(z6w r0 r1 r2 v1902 r), ⟨[], [[(zc 2 (za p0)), (3, (.cells [(xi p1)])), (zc 6 (za p0)), (8, (.cells [(xi (w64 ((zo 1 (p0.Slips.1.length : Int)) - 1)))])), (9, (.cells [(.fn 77 [] [(.ptr 0 6 0), (.ptr 0 8 0), (.ptr 0 3 0), (.ptr 0 9 0)])]))], f1, f2, f3, f4, f5, f6, f7, f8]⟩, []⟩
noncomputable def zWo (p0 : zb) (p1 : Int) (r0 : (SL Int)) (r1 r2 : Int) (v1902 : zt1) (rc : zt0) (f1 f2 f3 f4 f5 f6 f7 f8 : Fr) : (((SL Int) × Int × Bool) ⊕ Int) → Ex × St := Sum.elim (fun r => (.ret, zQg p0 p1 r0 r1 r2 v1902 rc f1 f2 f3 f4 f5 f6 f7 f8 r)) (fun r => ((.exit 0), zYg p0 p1 r0 r1 r2 v1902 rc f1 f2 f3 f4 f5 f6 f7 f8 r))
theorem zPj (k : Nat) (p0 : zb) (p1 : Int) (r0 : (SL Int)) (r1 r2 : Int) (v1902 : zt1) (rc : zt0) (f1 f2 f3 f4 f5 f6 f7 f8 : Fr) (hrc : ∀ (f : Fr) (r0 : (SL Int)) (r1 : Int) (r2 : Int) (r : ((SL Int) × Bool)), rc r0 r1 r2 = some r → zR TE (ev TE) 77 [(.d (dl eI r0.1 r0.2)), (xi r1), (xi r2), (.ptr 0 6 0), (.ptr 0 8 0), (.ptr 0 3 0), (.ptr 0 9 0)] ⟨f, [[(2, (.cells ((za p0).map .d))), (3, (.cells [(xi p1)])), (6, (.cells ((za p0).map .d))), (8, (.cells [(xi (w64 ((zo 1 (p0.Slips.1.length : Int)) - 1)))])), (9, (.cells [(.fn 77 [] [(.ptr 0 6 0), (.ptr 0 8 0), (.ptr 0 3 0), (.ptr 0 9 0)])]))], f1, f2, f3, f4, f5, f6, f7, f8]⟩ [] = some (zu r, ⟨f, [[(2, (.cells ((za p0).map .d))), (3, (.cells [(xi p1)])), (6, (.cells ((za p0).map .d))), (8, (.cells [(xi (w64 ((zo 1 (p0.Slips.1.length : Int)) - 1)))])), (9, (.cells [(.fn 77 [] [(.ptr 0 6 0), (.ptr 0 8 0), (.ptr 0 3 0), (.ptr 0 9 0)])]))], f1, f2, f3, f4, f5, f6, f7, f8]⟩, [])) (s20_8 : Int) (x : Int ⊕ (((SL Int) × Int × Bool) ⊕ Int)) (h : zRi k p0 p1 r0 r1 r2 v1902 rc s20_8 = some x) : zM TE 77 (blk TE 77 0) (fun s : Int => zuo p0 p1 r0 r1 r2 v1902 rc f1 f2 f3 f4 f5 f6 f7 f8 s) (zWo p0 p1 r0 r1 r2 v1902 rc f1 f2 f3 f4 f5 f6 f7 f8) s20_8 x := by
 unfold zRi at h
 refine zm h (fun h2101 g1 => ?_) (fun h2101 g1 => ?_)
 ·refine zm g1 (fun h2102 g2 => ?_) (fun h2102 g2 => ?_)
  ·cases g2
  ·refine z9 g2 (fun h2103 g3 => ?_)
   refine zm g3 (fun h2104 g4 => ?_) (fun h2104 g4 => ?_)
   ·cases g4
   ·refine zj g4 (fun v2105 h2106 g5 => ?_)
    refine zm g5 (fun h2107 g6 => ?_) (fun h2107 g6 => ?_)
    ·exact zqo [(77, 8, 4, .q (xi (p0.Slips.1.length : Int))), (77, 8, 5, .q (xb true)), (77, 10, 3, .q (xi (r0.1.length : Int))), (77, 10, 5, .q (xi (r0.1.length : Int))), (77, 10, 6, .q (.d (dl eI r0.1 (ccap r0.2)))), (77, 10, 9, .q (.d (dl eI (r0.1 ++ [s20_8]) .ro))), (77, 10, 12, .q (xi (zo 1 s20_8))), (77, 10, 15, .i (.tup [(dl eI v2105.1.1 v2105.1.2), (db v2105.2)]) ⟨[], [[(2, (.cells ((za p0).map .d))), (3, (.cells [(xi p1)])), (6, (.cells ((za p0).map .d))), (8, (.cells [(xi (w64 ((zo 1 (p0.Slips.1.length : Int)) - 1)))])), (9, (.cells [(.fn 77 [] [(.ptr 0 6 0), (.ptr 0 8 0), (.ptr 0 3 0), (.ptr 0 9 0)])]))], f1, f2, f3, f4, f5, f6, f7, f8]⟩ []), (77, 11, 0, .q (xb true))] [] g6 (ob (zp zi p0.Slips.1) (ob (o_b h2101) (ob (zp eI r0.1) (ob (zp eI r0.1) (ob (z0c (e := eI) (z := 1) r0.1 r0.2) (ob (o_ad (P := TE.P) (φ := fun _ _ => none) (T := 22) (q := (1, [(di 0)])) (c := (ccap r0.2)) (e := eI) r0.1 s20_8 (by kernel_rfl) (fun _ => rfl) h2102 h2103) (ob (zYb (x := 1) h2104) (ob (hrc ([] : Fr) ((r0.1 ++ [s20_8]), .ro) (or64 r1 (zo 1 s20_8)) r2 _ h2106) (ob (o_b h2107) ob0))))))))) (by kernel_rfl)
    ·exact zqn (w64 (s20_8 + 1)) [] [(77, 8, 4, .q (xi (p0.Slips.1.length : Int))), (77, 8, 5, .q (xb true)), (77, 10, 3, .q (xi (r0.1.length : Int))), (77, 10, 5, .q (xi (r0.1.length : Int))), (77, 10, 6, .q (.d (dl eI r0.1 (ccap r0.2)))), (77, 10, 9, .q (.d (dl eI (r0.1 ++ [s20_8]) .ro))), (77, 10, 12, .q (xi (zo 1 s20_8))), (77, 10, 15, .i (.tup [(dl eI v2105.1.1 v2105.1.2), (db v2105.2)]) ⟨[], [[(2, (.cells ((za p0).map .d))), (3, (.cells [(xi p1)])), (6, (.cells ((za p0).map .d))), (8, (.cells [(xi (w64 ((zo 1 (p0.Slips.1.length : Int)) - 1)))])), (9, (.cells [(.fn 77 [] [(.ptr 0 6 0), (.ptr 0 8 0), (.ptr 0 3 0), (.ptr 0 9 0)])]))], f1, f2, f3, f4, f5, f6, f7, f8]⟩ []), (77, 11, 0, .q (xb false))] [] g6 (ob (zp zi p0.Slips.1) (ob (o_b h2101) (ob (zp eI r0.1) (ob (zp eI r0.1) (ob (z0c (e := eI) (z := 1) r0.1 r0.2) (ob (o_ad (P := TE.P) (φ := fun _ _ => none) (T := 22) (q := (1, [(di 0)])) (c := (ccap r0.2)) (e := eI) r0.1 s20_8 (by kernel_rfl) (fun _ => rfl) h2102 h2103) (ob (zYb (x := 1) h2104) (ob (hrc ([] : Fr) ((r0.1 ++ [s20_8]), .ro) (or64 r1 (zo 1 s20_8)) r2 _ h2106) (ob (o_b h2107) ob0))))))))) (by kernel_rfl)
 ·exact zqo [(77, 8, 4, .q (xi (p0.Slips.1.length : Int))), (77, 8, 5, .q (xb false))] [] g1 (ob (zp zi p0.Slips.1) (ob (o_b h2101) ob0)) (by kernel_rfl)
theorem zKn (k : Nat) (p0 : zb) (p1 : Int) (rc : zt0) (f1 f2 f3 f4 f5 f6 f7 f8 : Fr) (hrc : ∀ (f : Fr) (r0 : (SL Int)) (r1 : Int) (r2 : Int) (r : ((SL Int) × Bool)), rc r0 r1 r2 = some r → zR TE (ev TE) 77 [(.d (dl eI r0.1 r0.2)), (xi r1), (xi r2), (.ptr 0 6 0), (.ptr 0 8 0), (.ptr 0 3 0), (.ptr 0 9 0)] ⟨f, [[(2, (.cells ((za p0).map .d))), (3, (.cells [(xi p1)])), (6, (.cells ((za p0).map .d))), (8, (.cells [(xi (w64 ((zo 1 (p0.Slips.1.length : Int)) - 1)))])), (9, (.cells [(.fn 77 [] [(.ptr 0 6 0), (.ptr 0 8 0), (.ptr 0 3 0), (.ptr 0 9 0)])]))], f1, f2, f3, f4, f5, f6, f7, f8]⟩ [] = some (zu r, ⟨f, [[(2, (.cells ((za p0).map .d))), (3, (.cells [(xi p1)])), (6, (.cells ((za p0).map .d))), (8, (.cells [(xi (w64 ((zo 1 (p0.Slips.1.length : Int)) - 1)))])), (9, (.cells [(.fn 77 [] [(.ptr 0 6 0), (.ptr 0 8 0), (.ptr 0 3 0), (.ptr 0 9 0)])]))], f1, f2, f3, f4, f5, f6, f7, f8]⟩, [])) (r0 : (SL Int)) (r1 r2 : Int) (r : zt13) (h : zxh k p0 p1 rc r0 r1 r2 = some r) : zR TE (ev TE) 77 [(.d (dl eI r0.1 r0.2)), (xi r1), (xi r2), (.ptr 0 6 0), (.ptr 0 8 0), (.ptr 0 3 0), (.ptr 0 9 0)] ⟨f8, [[(zc 2 (za p0)), (3, (.cells [(xi p1)])), (zc 6 (za p0)), (8, (.cells [(xi (w64 ((zo 1 (p0.Slips.1.length : Int)) - 1)))])), (9, (.cells [(.fn 77 [] [(.ptr 0 6 0), (.ptr 0 8 0), (.ptr 0 3 0), (.ptr 0 9 0)])]))], f1, f2, f3, f4, f5, f6, f7]⟩ [] = some (zu r, ⟨f8, [[(zc 2 (za p0)), (3, (.cells [(xi p1)])), (zc 6 (za p0)), (8, (.cells [(xi (w64 ((zo 1 (p0.Slips.1.length : Int)) - 1)))])), (9, (.cells [(.fn 77 [] [(.ptr 0 6 0), (.ptr 0 8 0), (.ptr 0 3 0), (.ptr 0 9 0)])]))], f1, f2, f3, f4, f5, f6, f7]⟩, []) := by
 unfold zxh at h
 refine zm h (fun h1901 g1 => ?_) (fun h1901 g1 => ?_)
 ·refine zj g1 (fun v1902 h1903 g2 => ?_)
  exact zW (g := (fun r => (zu r, ⟨f8, [[(2, (.cells ((za p0).map .d))), (3, (.cells [(xi p1)])), (6, (.cells ((za p0).map .d))), (8, (.cells [(xi (w64 ((zo 1 (p0.Slips.1.length : Int)) - 1)))])), (9, (.cells [(.fn 77 [] [(.ptr 0 6 0), (.ptr 0 8 0), (.ptr 0 3 0), (.ptr 0 9 0)])]))], f1, f2, f3, f4, f5, f6, f7]⟩, []))) g2 (zN (n := 80) (V := [(77, 1, 1, .q (xi (r0.1.length : Int))), (77, 1, 3, .q (xb true)), (77, 2, 6, .c (.tup [(dl (eL eI) v1902.1.1 v1902.1.2), (db v1902.2)]))]) (C := []) (ob (zp eI r0.1) (ob (o_b h1901) (ob (zX k (⟨p0⟩ : zd) (⟨(znb (w64 ((zo 1 (p0.Slips.1.length : Int)) - 1)) r1), p1⟩ : zt) _ h1903) ob0))) (by kernel_rfl))
 ·refine zj g1 (fun v1902 h1903 g2 => ?_)
  refine zj g2 (fun v1904 h1905 g3 => ?_)
  refine zFc g3 (fun v1907 hh g4_0 => ?_) (fun v1907 hh g4_0 => ?_)
  ·subst hh
   exact zW (g := (fun r => (zu r, ⟨f8, [[(2, (.cells ((za p0).map .d))), (3, (.cells [(xi p1)])), (6, (.cells ((za p0).map .d))), (8, (.cells [(xi (w64 ((zo 1 (p0.Slips.1.length : Int)) - 1)))])), (9, (.cells [(.fn 77 [] [(.ptr 0 6 0), (.ptr 0 8 0), (.ptr 0 3 0), (.ptr 0 9 0)])]))], f1, f2, f3, f4, f5, f6, f7]⟩, []))) g4_0 (zN (n := 80) (V := [(77, 1, 1, .q (xi (r0.1.length : Int))), (77, 1, 3, .q (xb false)), (77, 5, 1, .q (xi (r0.1.length : Int)))]) (C := [(77, 2000036, (.nor, zhe p0 p1 r0 r1 r2 (decide ((r0.1.length : Int) > 0)) rc f1 f2 f3 f4 f5 f6 f7 f8 v1902)), (77, 0, (.ret, zQg p0 p1 r0 r1 r2 v1902 rc f1 f2 f3 f4 f5 f6 f7 f8 v1907))]) (ob (zp eI r0.1) (ob (o_b h1901) (ob (zp eI r0.1) (ob (z4j k p0 p1 r0 r1 r2 (decide ((r0.1.length : Int) > 0)) rc f1 f2 f3 f4 f5 f6 f7 f8 hrc _ h1903) (ob (zA (id := 0) (r' := (.ret, zQg p0 p1 r0 r1 r2 v1902 rc f1 f2 f3 f4 f5 f6 f7 f8 v1907)) (zud (zPj k p0 p1 r0 r1 r2 v1902 rc f1 f2 f3 f4 f5 f6 f7 f8 hrc) k _ _ h1905) rfl) ob0))))) (by kernel_rfl))
  ·subst hh
   exact zW (g := (fun r => (zu r, ⟨f8, [[(2, (.cells ((za p0).map .d))), (3, (.cells [(xi p1)])), (6, (.cells ((za p0).map .d))), (8, (.cells [(xi (w64 ((zo 1 (p0.Slips.1.length : Int)) - 1)))])), (9, (.cells [(.fn 77 [] [(.ptr 0 6 0), (.ptr 0 8 0), (.ptr 0 3 0), (.ptr 0 9 0)])]))], f1, f2, f3, f4, f5, f6, f7]⟩, []))) g4_0 (zN (n := 80) (V := [(77, 1, 1, .q (xi (r0.1.length : Int))), (77, 1, 3, .q (xb false)), (77, 5, 1, .q (xi (r0.1.length : Int)))]) (C := [(77, 2000036, (.nor, zhe p0 p1 r0 r1 r2 (decide ((r0.1.length : Int) > 0)) rc f1 f2 f3 f4 f5 f6 f7 f8 v1902)), (77, 0, (.nor, zYg p0 p1 r0 r1 r2 v1902 rc f1 f2 f3 f4 f5 f6 f7 f8 v1907))]) (ob (zp eI r0.1) (ob (o_b h1901) (ob (zp eI r0.1) (ob (z4j k p0 p1 r0 r1 r2 (decide ((r0.1.length : Int) > 0)) rc f1 f2 f3 f4 f5 f6 f7 f8 hrc _ h1903) (ob (zA (id := 0) (r' := (.nor, zYg p0 p1 r0 r1 r2 v1902 rc f1 f2 f3 f4 f5 f6 f7 f8 v1907)) (zud (zPj k p0 p1 r0 r1 r2 v1902 rc f1 f2 f3 f4 f5 f6 f7 f8 hrc) k _ _ h1905) rfl) ob0))))) (by kernel_rfl))
noncomputable def zne (p0 : zb) (p1 : Int) (r0 : (SL Int)) (r1 r2 : Int) (cb : Bool) (rc : zt0) (f1 f2 f3 f4 f5 f6 f7 f8 f9 : Fr) (r : zt1) : St := ⟨(znl r0 r1 r2 r), ⟨[], [[(zc 2 (za p0)), (3, (.cells [(xi p1)])), (zc 6 (za p0)), (8, (.cells [(xi (w64 ((zo 1 (p0.Slips.1.length : Int)) - 1)))])), (9, (.cells [(.fn 77 [] [(.ptr 0 6 0), (.ptr 0 8 0), (.ptr 0 3 0), (.ptr 0 9 0)])]))], f1, f2, f3, f4, f5, f6, f7, f8, f9]⟩, []⟩
theorem z2j (k : Nat) (p0 : zb) (p1 : Int) (r0 : (SL Int)) (r1 r2 : Int) (cb : Bool) (rc : zt0) (f1 f2 f3 f4 f5 f6 f7 f8 f9 : Fr) (hrc : ∀ (f : Fr) (r0 : (SL Int)) (r1 : Int) (r2 : Int) (r : ((SL Int) × Bool)), rc r0 r1 r2 = some r → zR TE (ev TE) 77 [(.d (dl eI r0.1 r0.2)), (xi r1), (xi r2), (.ptr 0 6 0), (.ptr 0 8 0), (.ptr 0 3 0), (.ptr 0 9 0)] ⟨f, [[(2, (.cells ((za p0).map .d))), (3, (.cells [(xi p1)])), (6, (.cells ((za p0).map .d))), (8, (.cells [(xi (w64 ((zo 1 (p0.Slips.1.length : Int)) - 1)))])), (9, (.cells [(.fn 77 [] [(.ptr 0 6 0), (.ptr 0 8 0), (.ptr 0 3 0), (.ptr 0 9 0)])]))], f1, f2, f3, f4, f5, f6, f7, f8, f9]⟩ [] = some (zu r, ⟨f, [[(2, (.cells ((za p0).map .d))), (3, (.cells [(xi p1)])), (6, (.cells ((za p0).map .d))), (8, (.cells [(xi (w64 ((zo 1 (p0.Slips.1.length : Int)) - 1)))])), (9, (.cells [(.fn 77 [] [(.ptr 0 6 0), (.ptr 0 8 0), (.ptr 0 3 0), (.ptr 0 9 0)])]))], f1, f2, f3, f4, f5, f6, f7, f8, f9]⟩, [])) (r : zt1) (h : zOi k p0 p1 r0 r1 r2 cb rc = some r) : ev TE 77 (cnd TE 77 36) ⟨(zjl r0 r1 r2 cb), ⟨[], [[(zc 2 (za p0)), (3, (.cells [(xi p1)])), (zc 6 (za p0)), (8, (.cells [(xi (w64 ((zo 1 (p0.Slips.1.length : Int)) - 1)))])), (9, (.cells [(.fn 77 [] [(.ptr 0 6 0), (.ptr 0 8 0), (.ptr 0 3 0), (.ptr 0 9 0)])]))], f1, f2, f3, f4, f5, f6, f7, f8, f9]⟩, []⟩ = some (.nor, zne p0 p1 r0 r1 r2 cb rc f1 f2 f3 f4 f5 f6 f7 f8 f9 r) := by
 unfold zOi at h
 refine zm h (fun h2201 g1 => ?_) (fun h2201 g1 => ?_)
 ·subst h2201
  refine zj g1 (fun v2202 h2203 g2 => ?_)
  exact zy (g := fun r => (Ex.nor, zne p0 p1 r0 r1 r2 true rc f1 f2 f3 f4 f5 f6 f7 f8 f9 r)) g2 (zqe [(77, 6, 2, .q (xi (r0.1.length : Int))), (77, 6, 4, .q (.d (.pin [(di v2202)])))] [] (ob (zp eI r0.1) (ob (o_ia (e := eI) 1 h2203 rfl) ob0)) (by kernel_rfl))
 ·subst h2201
  exact zy (g := fun r => (Ex.nor, zne p0 p1 r0 r1 r2 false rc f1 f2 f3 f4 f5 f6 f7 f8 f9 r)) g1 (zqe [] [] ob0 (by kernel_rfl))
noncomputable def zQx (r0 : (SL Int)) (r1 r2 : Int) (v2102 : zt1) (s22_8 : Int) : TM := [(0, (.d (dl eI r0.1 r0.2))), (1, (xi r1)), (2, (xi r2)), (3, (.ptr 0 6 0)), (4, (.ptr 0 8 0)), (5, (.ptr 0 3 0)), (6, (.ptr 0 9 0)), (10, (.d (.sl [] .nil))), (11, (xb false)), (21, (xb false)), (14, (xi v2102.1)), (36, (xb v2102.2)), (15, (xi s22_8))]
noncomputable def zeo (p0 : zb) (p1 : Int) (r0 : (SL Int)) (r1 r2 : Int) (v2102 : zt1) (rc : zt0) (f1 f2 f3 f4 f5 f6 f7 f8 f9 : Fr) (s22_8 : Int) : St := ⟨(zQx r0 r1 r2 v2102 s22_8), ⟨[], [[(zc 2 (za p0)), (3, (.cells [(xi p1)])), (zc 6 (za p0)), (8, (.cells [(xi (w64 ((zo 1 (p0.Slips.1.length : Int)) - 1)))])), (9, (.cells [(.fn 77 [] [(.ptr 0 6 0), (.ptr 0 8 0), (.ptr 0 3 0), (.ptr 0 9 0)])]))], f1, f2, f3, f4, f5, f6, f7, f8, f9]⟩, []⟩
noncomputable def zsx (r0 : (SL Int)) (r1 r2 : Int) (r : zt17) (v2102 : zt1) : TM := [(0, (.d (dl eI r0.1 r0.2))), (1, (xi r1)), (2, (xi r2)), (3, (.ptr 0 6 0)), (4, (.ptr 0 8 0)), (5, (.ptr 0 3 0)), (6, (.ptr 0 9 0)), (10, (.d (dl eI r.1.1 r.1.2))), (11, (xb true)), (21, (xb false)), (14, (xi v2102.1)), (36, (xb v2102.2)), (15, (xi r.2.1)), (50, (xb true)), (16, (.d (dl eI r.1.1 r.1.2))), (17, (xb r.2.2)), (72, (xb true))]
noncomputable def z4g (p0 : zb) (p1 : Int) (r0 : (SL Int)) (r1 r2 : Int) (v2102 : zt1) (rc : zt0) (f1 f2 f3 f4 f5 f6 f7 f8 f9 : Fr) (r : zt17) : St := ⟨(zsx r0 r1 r2 r v2102), ⟨[], [[(zc 2 (za p0)), (3, (.cells [(xi p1)])), (zc 6 (za p0)), (8, (.cells [(xi (w64 ((zo 1 (p0.Slips.1.length : Int)) - 1)))])), (9, (.cells [(.fn 77 [] [(.ptr 0 6 0), (.ptr 0 8 0), (.ptr 0 3 0), (.ptr 0 9 0)])]))], f1, f2, f3, f4, f5, f6, f7, f8, f9]⟩, []⟩
noncomputable def zmx (r0 : (SL Int)) (r1 r2 : Int) (v2102 : zt1) (r : Int) : TM := [(0, (.d (dl eI r0.1 r0.2))), (1, (xi r1)), (2, (xi r2)), (3, (.ptr 0 6 0)), (4, (.ptr 0 8 0)), (5, (.ptr 0 3 0)), (6, (.ptr 0 9 0)), (10, (.d (.sl [] .nil))), (11, (xb false)), (21, (xb false)), (14, (xi v2102.1)), (36, (xb v2102.2)), (15, (xi r)), (50, (xb false))]
noncomputable def zRg (p0 : zb) (p1 : Int) (r0 : (SL Int)) (r1 r2 : Int) (v2102 : zt1) (rc : zt0) (f1 f2 f3 f4 f5 f6 f7 f8 f9 : Fr) (r : Int) : St := ⟨(zmx r0 r1 r2 v2102 r), ⟨[], [[(zc 2 (za p0)), (3, (.cells [(xi p1)])), (zc 6 (za p0)), (8, (.cells [(xi (w64 ((zo 1 (p0.Slips.1.length : Int)) - 1)))])), (9, (.cells [(.fn 77 [] [(.ptr 0 6 0), (.ptr 0 8 0), (.ptr 0 3 0), (.ptr 0 9 0)])]))], f1, f2, f3, f4, f5, f6, f7, f8, f9]⟩, []⟩
noncomputable def zvo (p0 : zb) (p1 : Int) (r0 : (SL Int)) (r1 r2 : Int) (v2102 : zt1) (rc : zt0) (f1 f2 f3 f4 f5 f6 f7 f8 f9 : Fr) : (((SL Int) × Int × Bool) ⊕ Int) → Ex × St := Sum.elim (fun r => (.ret, z4g p0 p1 r0 r1 r2 v2102 rc f1 f2 f3 f4 f5 f6 f7 f8 f9 r)) (fun r => ((.exit 0), zRg p0 p1 r0 r1 r2 v2102 rc f1 f2 f3 f4 f5 f6 f7 f8 f9 r))
theorem zsj (k : Nat) (p0 : zb) (p1 : Int) (r0 : (SL Int)) (r1 r2 : Int) (v2102 : zt1) (rc : zt0) (f1 f2 f3 f4 f5 f6 f7 f8 f9 : Fr) (hrc : ∀ (f : Fr) (r0 : (SL Int)) (r1 : Int) (r2 : Int) (r : ((SL Int) × Bool)), rc r0 r1 r2 = some r → zR TE (ev TE) 77 [(.d (dl eI r0.1 r0.2)), (xi r1), (xi r2), (.ptr 0 6 0), (.ptr 0 8 0), (.ptr 0 3 0), (.ptr 0 9 0)] ⟨f, [[(2, (.cells ((za p0).map .d))), (3, (.cells [(xi p1)])), (6, (.cells ((za p0).map .d))), (8, (.cells [(xi (w64 ((zo 1 (p0.Slips.1.length : Int)) - 1)))])), (9, (.cells [(.fn 77 [] [(.ptr 0 6 0), (.ptr 0 8 0), (.ptr 0 3 0), (.ptr 0 9 0)])]))], f1, f2, f3, f4, f5, f6, f7, f8, f9]⟩ [] = some (zu r, ⟨f, [[(2, (.cells ((za p0).map .d))), (3, (.cells [(xi p1)])), (6, (.cells ((za p0).map .d))), (8, (.cells [(xi (w64 ((zo 1 (p0.Slips.1.length : Int)) - 1)))])), (9, (.cells [(.fn 77 [] [(.ptr 0 6 0), (.ptr 0 8 0), (.ptr 0 3 0), (.ptr 0 9 0)])]))], f1, f2, f3, f4, f5, f6, f7, f8, f9]⟩, [])) (s22_8 : Int) (x : Int ⊕ (((SL Int) × Int × Bool) ⊕ Int)) (h : zGi k p0 p1 r0 r1 r2 v2102 rc s22_8 = some x) : zM TE 77 (blk TE 77 0) (fun s : Int => zeo p0 p1 r0 r1 r2 v2102 rc f1 f2 f3 f4 f5 f6 f7 f8 f9 s) (zvo p0 p1 r0 r1 r2 v2102 rc f1 f2 f3 f4 f5 f6 f7 f8 f9) s22_8 x := by
 unfold zGi at h
 refine zm h (fun h2301 g1 => ?_) (fun h2301 g1 => ?_)
 ·refine zm g1 (fun h2302 g2 => ?_) (fun h2302 g2 => ?_)
  ·cases g2
  ·refine z9 g2 (fun h2303 g3 => ?_)
   refine zm g3 (fun h2304 g4 => ?_) (fun h2304 g4 => ?_)
   ·cases g4
   ·refine zj g4 (fun v2305 h2306 g5 => ?_)
    refine zm g5 (fun h2307 g6 => ?_) (fun h2307 g6 => ?_)
    ·exact zqo [(77, 8, 4, .q (xi (p0.Slips.1.length : Int))), (77, 8, 5, .q (xb true)), (77, 10, 3, .q (xi (r0.1.length : Int))), (77, 10, 5, .q (xi (r0.1.length : Int))), (77, 10, 6, .q (.d (dl eI r0.1 (ccap r0.2)))), (77, 10, 9, .q (.d (dl eI (r0.1 ++ [s22_8]) .ro))), (77, 10, 12, .q (xi (zo 1 s22_8))), (77, 10, 15, .i (.tup [(dl eI v2305.1.1 v2305.1.2), (db v2305.2)]) ⟨[], [[(2, (.cells ((za p0).map .d))), (3, (.cells [(xi p1)])), (6, (.cells ((za p0).map .d))), (8, (.cells [(xi (w64 ((zo 1 (p0.Slips.1.length : Int)) - 1)))])), (9, (.cells [(.fn 77 [] [(.ptr 0 6 0), (.ptr 0 8 0), (.ptr 0 3 0), (.ptr 0 9 0)])]))], f1, f2, f3, f4, f5, f6, f7, f8, f9]⟩ []), (77, 11, 0, .q (xb true))] [] g6 (ob (zp zi p0.Slips.1) (ob (o_b h2301) (ob (zp eI r0.1) (ob (zp eI r0.1) (ob (z0c (e := eI) (z := 1) r0.1 r0.2) (ob (o_ad (P := TE.P) (φ := fun _ _ => none) (T := 22) (q := (1, [(di 0)])) (c := (ccap r0.2)) (e := eI) r0.1 s22_8 (by kernel_rfl) (fun _ => rfl) h2302 h2303) (ob (zYb (x := 1) h2304) (ob (hrc ([] : Fr) ((r0.1 ++ [s22_8]), .ro) (or64 r1 (zo 1 s22_8)) r2 _ h2306) (ob (o_b h2307) ob0))))))))) (by kernel_rfl)
    ·exact zqn (w64 (s22_8 + 1)) [] [(77, 8, 4, .q (xi (p0.Slips.1.length : Int))), (77, 8, 5, .q (xb true)), (77, 10, 3, .q (xi (r0.1.length : Int))), (77, 10, 5, .q (xi (r0.1.length : Int))), (77, 10, 6, .q (.d (dl eI r0.1 (ccap r0.2)))), (77, 10, 9, .q (.d (dl eI (r0.1 ++ [s22_8]) .ro))), (77, 10, 12, .q (xi (zo 1 s22_8))), (77, 10, 15, .i (.tup [(dl eI v2305.1.1 v2305.1.2), (db v2305.2)]) ⟨[], [[(2, (.cells ((za p0).map .d))), (3, (.cells [(xi p1)])), (6, (.cells ((za p0).map .d))), (8, (.cells [(xi (w64 ((zo 1 (p0.Slips.1.length : Int)) - 1)))])), (9, (.cells [(.fn 77 [] [(.ptr 0 6 0), (.ptr 0 8 0), (.ptr 0 3 0), (.ptr 0 9 0)])]))], f1, f2, f3, f4, f5, f6, f7, f8, f9]⟩ []), (77, 11, 0, .q (xb false))] [] g6 (ob (zp zi p0.Slips.1) (ob (o_b h2301) (ob (zp eI r0.1) (ob (zp eI r0.1) (ob (z0c (e := eI) (z := 1) r0.1 r0.2) (ob (o_ad (P := TE.P) (φ := fun _ _ => none) (T := 22) (q := (1, [(di 0)])) (c := (ccap r0.2)) (e := eI) r0.1 s22_8 (by kernel_rfl) (fun _ => rfl) h2302 h2303) (ob (zYb (x := 1) h2304) (ob (hrc ([] : Fr) ((r0.1 ++ [s22_8]), .ro) (or64 r1 (zo 1 s22_8)) r2 _ h2306) (ob (o_b h2307) ob0))))))))) (by kernel_rfl)
 ·exact zqo [(77, 8, 4, .q (xi (p0.Slips.1.length : Int))), (77, 8, 5, .q (xb false))] [] g1 (ob (zp zi p0.Slips.1) (ob (o_b h2301) ob0)) (by kernel_rfl)
theorem zgn (k : Nat) (p0 : zb) (p1 : Int) (rc : zt0) (f1 f2 f3 f4 f5 f6 f7 f8 f9 : Fr) (hrc : ∀ (f : Fr) (r0 : (SL Int)) (r1 : Int) (r2 : Int) (r : ((SL Int) × Bool)), rc r0 r1 r2 = some r → zR TE (ev TE) 77 [(.d (dl eI r0.1 r0.2)), (xi r1), (xi r2), (.ptr 0 6 0), (.ptr 0 8 0), (.ptr 0 3 0), (.ptr 0 9 0)] ⟨f, [[(2, (.cells ((za p0).map .d))), (3, (.cells [(xi p1)])), (6, (.cells ((za p0).map .d))), (8, (.cells [(xi (w64 ((zo 1 (p0.Slips.1.length : Int)) - 1)))])), (9, (.cells [(.fn 77 [] [(.ptr 0 6 0), (.ptr 0 8 0), (.ptr 0 3 0), (.ptr 0 9 0)])]))], f1, f2, f3, f4, f5, f6, f7, f8, f9]⟩ [] = some (zu r, ⟨f, [[(2, (.cells ((za p0).map .d))), (3, (.cells [(xi p1)])), (6, (.cells ((za p0).map .d))), (8, (.cells [(xi (w64 ((zo 1 (p0.Slips.1.length : Int)) - 1)))])), (9, (.cells [(.fn 77 [] [(.ptr 0 6 0), (.ptr 0 8 0), (.ptr 0 3 0), (.ptr 0 9 0)])]))], f1, f2, f3, f4, f5, f6, f7, f8, f9]⟩, [])) (r0 : (SL Int)) (r1 r2 : Int) (r : zt13) (h : zSg k p0 p1 rc r0 r1 r2 = some r) : zR TE (ev TE) 77 [(.d (dl eI r0.1 r0.2)), (xi r1), (xi r2), (.ptr 0 6 0), (.ptr 0 8 0), (.ptr 0 3 0), (.ptr 0 9 0)] ⟨f9, [[(zc 2 (za p0)), (3, (.cells [(xi p1)])), (zc 6 (za p0)), (8, (.cells [(xi (w64 ((zo 1 (p0.Slips.1.length : Int)) - 1)))])), (9, (.cells [(.fn 77 [] [(.ptr 0 6 0), (.ptr 0 8 0), (.ptr 0 3 0), (.ptr 0 9 0)])]))], f1, f2, f3, f4, f5, f6, f7, f8]⟩ [] = some (zu r, ⟨f9, [[(zc 2 (za p0)), (3, (.cells [(xi p1)])), (zc 6 (za p0)), (8, (.cells [(xi (w64 ((zo 1 (p0.Slips.1.length : Int)) - 1)))])), (9, (.cells [(.fn 77 [] [(.ptr 0 6 0), (.ptr 0 8 0), (.ptr 0 3 0), (.ptr 0 9 0)])]))], f1, f2, f3, f4, f5, f6, f7, f8]⟩, []) := by
 unfold zSg at h
 refine zm h (fun h2101 g1 => ?_) (fun h2101 g1 => ?_)
 ·refine zj g1 (fun v2102 h2103 g2 => ?_)
  exact zW (g := (fun r => (zu r, ⟨f9, [[(2, (.cells ((za p0).map .d))), (3, (.cells [(xi p1)])), (6, (.cells ((za p0).map .d))), (8, (.cells [(xi (w64 ((zo 1 (p0.Slips.1.length : Int)) - 1)))])), (9, (.cells [(.fn 77 [] [(.ptr 0 6 0), (.ptr 0 8 0), (.ptr 0 3 0), (.ptr 0 9 0)])]))], f1, f2, f3, f4, f5, f6, f7, f8]⟩, []))) g2 (zN (n := 80) (V := [(77, 1, 1, .q (xi (r0.1.length : Int))), (77, 1, 3, .q (xb true)), (77, 2, 6, .c (.tup [(dl (eL eI) v2102.1.1 v2102.1.2), (db v2102.2)]))]) (C := []) (ob (zp eI r0.1) (ob (o_b h2101) (ob (zX k (⟨p0⟩ : zd) (⟨(znb (w64 ((zo 1 (p0.Slips.1.length : Int)) - 1)) r1), p1⟩ : zt) _ h2103) ob0))) (by kernel_rfl))
 ·refine zj g1 (fun v2102 h2103 g2 => ?_)
  refine zj g2 (fun v2104 h2105 g3 => ?_)
  refine zFc g3 (fun v2107 hh g4_0 => ?_) (fun v2107 hh g4_0 => ?_)
  ·subst hh
   exact zW (g := (fun r => (zu r, ⟨f9, [[(2, (.cells ((za p0).map .d))), (3, (.cells [(xi p1)])), (6, (.cells ((za p0).map .d))), (8, (.cells [(xi (w64 ((zo 1 (p0.Slips.1.length : Int)) - 1)))])), (9, (.cells [(.fn 77 [] [(.ptr 0 6 0), (.ptr 0 8 0), (.ptr 0 3 0), (.ptr 0 9 0)])]))], f1, f2, f3, f4, f5, f6, f7, f8]⟩, []))) g4_0 (zN (n := 80) (V := [(77, 1, 1, .q (xi (r0.1.length : Int))), (77, 1, 3, .q (xb false)), (77, 5, 1, .q (xi (r0.1.length : Int)))]) (C := [(77, 2000036, (.nor, zne p0 p1 r0 r1 r2 (decide ((r0.1.length : Int) > 0)) rc f1 f2 f3 f4 f5 f6 f7 f8 f9 v2102)), (77, 0, (.ret, z4g p0 p1 r0 r1 r2 v2102 rc f1 f2 f3 f4 f5 f6 f7 f8 f9 v2107))]) (ob (zp eI r0.1) (ob (o_b h2101) (ob (zp eI r0.1) (ob (z2j k p0 p1 r0 r1 r2 (decide ((r0.1.length : Int) > 0)) rc f1 f2 f3 f4 f5 f6 f7 f8 f9 hrc _ h2103) (ob (zA (id := 0) (r' := (.ret, z4g p0 p1 r0 r1 r2 v2102 rc f1 f2 f3 f4 f5 f6 f7 f8 f9 v2107)) (zud (zsj k p0 p1 r0 r1 r2 v2102 rc f1 f2 f3 f4 f5 f6 f7 f8 f9 hrc) k _ _ h2105) rfl) ob0))))) (by kernel_rfl))
  ·subst hh
   exact zW (g := (fun r => (zu r, ⟨f9, [[(2, (.cells ((za p0).map .d))), (3, (.cells [(xi p1)])), (6, (.cells ((za p0).map .d))), (8, (.cells [(xi (w64 ((zo 1 (p0.Slips.1.length : Int)) - 1)))])), (9, (.cells [(.fn 77 [] [(.ptr 0 6 0), (.ptr 0 8 0), (.ptr 0 3 0), (.ptr 0 9 0)])]))], f1, f2, f3, f4, f5, f6, f7, f8]⟩, []))) g4_0 (zN (n := 80) (V := [(77, 1, 1, .q (xi (r0.1.length : Int))), (77, 1, 3, .q (xb false)), (77, 5, 1, .q (xi (r0.1.length : Int)))]) (C := [(77, 2000036, (.nor, zne p0 p1 r0 r1 r2 (decide ((r0.1.length : Int) > 0)) rc f1 f2 f3 f4 f5 f6 f7 f8 f9 v2102)), (77, 0, (.nor, zRg p0 p1 r0 r1 r2 v2102 rc f1 f2 f3 f4 f5 f6 f7 f8 f9 v2107))]) (ob (zp eI r0.1) (ob (o_b h2101) (ob (zp eI r0.1) (ob (z2j k p0 p1 r0 r1 r2 (decide ((r0.1.length : Int) > 0)) rc f1 f2 f3 f4 f5 f6 f7 f8 f9 hrc _ h2103) (ob (zA (id := 0) (r' := (.nor, zRg p0 p1 r0 r1 r2 v2102 rc f1 f2 f3 f4 f5 f6 f7 f8 f9 v2107)) (zud (zsj k p0 p1 r0 r1 r2 v2102 rc f1 f2 f3 f4 f5 f6 f7 f8 f9 hrc) k _ _ h2105) rfl) ob0))))) (by kernel_rfl))
theorem zAk (k : Nat) (p0 : zb) (p1 : Int) (r0 : (SL Int)) (r1 r2 : Int) (r : zt13) (h : z8j k p0 p1 10 r0 r1 r2 = some r) : zR TE (ev TE) 77 [(.d (dl eI r0.1 r0.2)), (xi r1), (xi r2), (.ptr 0 6 0), (.ptr 0 8 0), (.ptr 0 3 0), (.ptr 0 9 0)] ⟨[(zc 2 (za p0)), (3, (.cells [(xi p1)])), (zc 6 (za p0)), (8, (.cells [(xi (w64 ((zo 1 (p0.Slips.1.length : Int)) - 1)))])), (9, (.cells [(.fn 77 [] [(.ptr 0 6 0), (.ptr 0 8 0), (.ptr 0 3 0), (.ptr 0 9 0)])]))], []⟩ [] = some (zu r, ⟨[(zc 2 (za p0)), (3, (.cells [(xi p1)])), (zc 6 (za p0)), (8, (.cells [(xi (w64 ((zo 1 (p0.Slips.1.length : Int)) - 1)))])), (9, (.cells [(.fn 77 [] [(.ptr 0 6 0), (.ptr 0 8 0), (.ptr 0 3 0), (.ptr 0 9 0)])]))], []⟩, []) := by
 unfold z8j at h
 exact z5n k p0 p1 _ (fun f1 r0 r1 r2 r h => zCn k p0 p1 _ f1 (fun f2 r0 r1 r2 r h => zTn k p0 p1 _ f1 f2 (fun f3 r0 r1 r2 r h => zyn k p0 p1 _ f1 f2 f3 (fun f4 r0 r1 r2 r h => zHn k p0 p1 _ f1 f2 f3 f4 (fun f5 r0 r1 r2 r h => zWn k p0 p1 _ f1 f2 f3 f4 f5 (fun f6 r0 r1 r2 r h => zMn k p0 p1 _ f1 f2 f3 f4 f5 f6 (fun f7 r0 r1 r2 r h => zEn k p0 p1 _ f1 f2 f3 f4 f5 f6 f7 (fun f8 r0 r1 r2 r h => zKn k p0 p1 _ f1 f2 f3 f4 f5 f6 f7 f8 (fun f9 r0 r1 r2 r h => zgn k p0 p1 _ f1 f2 f3 f4 f5 f6 f7 f8 f9 (fun f r0 r1 r2 r h => by cases h) r0 r1 r2 r h) r0 r1 r2 r h) r0 r1 r2 r h) r0 r1 r2 r h) r0 r1 r2 r h) r0 r1 r2 r h) r0 r1 r2 r h) r0 r1 r2 r h) r0 r1 r2 r h) r0 r1 r2 r h
noncomputable def z4w (p0 : zb) (p1 s1_12 : Int) : TM := [(0, (.d (.agg (za p0)))), (1, (xi p1)), (zsp 2), (zsp 3), (4, (.d (.sl [] .nil))), (5, (xi 0)), (zsp 6), (7, (xi 0)), (20, (xb false)), (zsp 8), (zsp 9), (33, (xi (w64 ((p0.Slips.1.length : Int) + 1)))), (34, (xi s1_12))]
noncomputable def zGp (p0 : zb) (p1 s1_12 : Int) : St := ⟨(z4w p0 p1 s1_12), ⟨[(zc 2 (za p0)), (3, (.cells [(xi p1)])), (zc 6 (za p0)), (8, (.cells [(xi (w64 ((zo 1 (p0.Slips.1.length : Int)) - 1)))])), (9, (.cells [(.fn 77 [] [(.ptr 0 6 0), (.ptr 0 8 0), (.ptr 0 3 0), (.ptr 0 9 0)])]))], []⟩, []⟩
noncomputable def zbx (p0 : zb) (p1 : Int) (r : ((SL Int) × Int × (SL Int) × Bool)) : TM := [(0, (.d (.agg (za p0)))), (1, (xi p1)), (zsp 2), (zsp 3), (4, (.d (dl eI r.1.1 r.1.2))), (5, (xi 0)), (zsp 6), (7, (xi 0)), (20, (xb false)), (zsp 8), (zsp 9), (33, (xi (w64 ((p0.Slips.1.length : Int) + 1)))), (34, (xi r.2.1)), (35, (xb true)), (10, (xi r.2.1)), (11, (.d (dl eI r.2.2.1.1 r.2.2.1.2))), (12, (xb r.2.2.2)), (43, (xb true))]
noncomputable def zlh (p0 : zb) (p1 : Int) (r : ((SL Int) × Int × (SL Int) × Bool)) : St := ⟨(zbx p0 p1 r), ⟨[(zc 2 (za p0)), (3, (.cells [(xi p1)])), (zc 6 (za p0)), (8, (.cells [(xi (w64 ((zo 1 (p0.Slips.1.length : Int)) - 1)))])), (9, (.cells [(.fn 77 [] [(.ptr 0 6 0), (.ptr 0 8 0), (.ptr 0 3 0), (.ptr 0 9 0)])]))], []⟩, []⟩
noncomputable def zNx (p0 : zb) (p1 r : Int) : TM := [(0, (.d (.agg (za p0)))), (1, (xi p1)), (zsp 2), (zsp 3), (4, (.d (.sl [] .nil))), (5, (xi 0)), (zsp 6), (7, (xi 0)), (20, (xb false)), (zsp 8), (zsp 9), (33, (xi (w64 ((p0.Slips.1.length : Int) + 1)))), (34, (xi r)), (35, (xb false))]
noncomputable def zGh (p0 : zb) (p1 r : Int) : St := ⟨(zNx p0 p1 r), ⟨[(zc 2 (za p0)), (3, (.cells [(xi p1)])), (zc 6 (za p0)), (8, (.cells [(xi (w64 ((zo 1 (p0.Slips.1.length : Int)) - 1)))])), (9, (.cells [(.fn 77 [] [(.ptr 0 6 0), (.ptr 0 8 0), (.ptr 0 3 0), (.ptr 0 9 0)])]))], []⟩, []⟩
noncomputable def zrp (p0 : zb) (p1 : Int) : (((SL Int) × Int × (SL Int) × Bool) ⊕ Int) → Ex × St := Sum.elim (fun r => (.ret, zlh p0 p1 r)) (fun r => ((.exit 0), zGh p0 p1 r))
theorem zWk (k : Nat) (p0 : zb) (p1 s1_12 : Int) (x : Int ⊕ (((SL Int) × Int × (SL Int) × Bool) ⊕ Int)) (h : zFj k p0 p1 s1_12 = some x) : zM TE 30 (blk TE 30 0) (fun s : Int => zGp p0 p1 s) (zrp p0 p1) s1_12 x := by
 unfold zFj at h
 refine zm h (fun h2301 g1 => ?_) (fun h2301 g1 => ?_)
 ·refine zj g1 (fun v2302 h2303 g2 => ?_)
  refine zm g2 (fun h2304 g3 => ?_) (fun h2304 g3 => ?_)
  ·exact zqo [(30, 8, 0, .q (xb true)), (30, 10, 2, .i (.tup [(dl eI v2302.1.1 v2302.1.2), (db v2302.2)]) ⟨[(2, (.cells ((za p0).map .d))), (3, (.cells [(xi p1)])), (6, (.cells ((za p0).map .d))), (8, (.cells [(xi (w64 ((zo 1 (p0.Slips.1.length : Int)) - 1)))])), (9, (.cells [(.fn 77 [] [(.ptr 0 6 0), (.ptr 0 8 0), (.ptr 0 3 0), (.ptr 0 9 0)])]))], []⟩ []), (30, 11, 0, .q (xb true)), (30, 12, 2, .q (xi (v2302.1.1.length : Int))), (30, 12, 4, .q (xi (v2302.1.1.length : Int))), (30, 12, 5, .q (.d (dl eI v2302.1.1 (ccap v2302.1.2))))] [] g3 (ob (o_b h2301) (ob (zAk k p0 p1 ([], Cap.nil) 0 s1_12 _ h2303) (ob (o_b h2304) (ob (zp eI v2302.1.1) (ob (zp eI v2302.1.1) (ob (z0c (e := eI) (z := 1) v2302.1.1 v2302.1.2) ob0)))))) (by kernel_rfl)
  ·exact zqn (w64 (s1_12 + 1)) [] [(30, 8, 0, .q (xb true)), (30, 10, 2, .i (.tup [(dl eI v2302.1.1 v2302.1.2), (db v2302.2)]) ⟨[(2, (.cells ((za p0).map .d))), (3, (.cells [(xi p1)])), (6, (.cells ((za p0).map .d))), (8, (.cells [(xi (w64 ((zo 1 (p0.Slips.1.length : Int)) - 1)))])), (9, (.cells [(.fn 77 [] [(.ptr 0 6 0), (.ptr 0 8 0), (.ptr 0 3 0), (.ptr 0 9 0)])]))], []⟩ []), (30, 11, 0, .q (xb false))] [] g3 (ob (o_b h2301) (ob (zAk k p0 p1 ([], Cap.nil) 0 s1_12 _ h2303) (ob (o_b h2304) ob0))) (by kernel_rfl)
 ·exact zqo [(30, 8, 0, .q (xb false))] [] g1 (ob (o_b h2301) ob0) (by kernel_rfl)
theorem zcd (k : Nat) (p0 : zb) (p1 : Int) (r : ((SL Int) × Int)) (h : zFm k p0 p1 = some r) : zD TE (ev TE) 30 [(.agg (za p0)), (di p1)] = some (zng r) := by
 unfold zFm at h
 refine zj h (fun v1 h2 g1 => ?_)
 refine zm g1 (fun h3 g2 => ?_) (fun h3 g2 => ?_)
 ·exact zC (g := zng) g2 (zqc [(52, 1, 1, .c (di v1)), (52, 2, 1, .q (xb true)), (30, 2, 1, .q (xb true))] [] (ob (zH k p0 _ h2) (ob (o_b h3) (ob (o_b h3) ob0))) (by kernel_rfl))
 ·refine zj g2 (fun v4 h5 g3 => ?_)
  refine zm g3 (fun h6 g4 => ?_) (fun h6 g4 => ?_)
  ·exact zC (g := zng) g4 (zqc [(52, 1, 1, .c (di v1)), (52, 2, 1, .q (xb false)), (76, 1, 1, .c (db v4)), (52, 4, 4, .q (xb true))] [] (ob (zH k p0 _ h2) (ob (o_b h3) (ob (zO k p1 1 5 _ h5) (ob (o_b h6) ob0)))) (by kernel_rfl))
  ·refine zm g4 (fun h7 g5 => ?_) (fun h7 g5 => ?_)
   ·cases g5
   ·refine zj g5 (fun v8 h9 g6 => ?_)
    refine zFc g6 (fun v11 hh g7_0 => ?_) (fun v11 hh g7_0 => ?_)
    ·subst hh
     exact zC (g := zng) g7_0 (zqc [(52, 1, 1, .c (di v1)), (52, 2, 1, .q (xb false)), (76, 1, 1, .c (db v4)), (52, 4, 4, .q (xb false)), (30, 4, 3, .q (xi (p0.Slips.1.length : Int))), (30, 4, 4, .q (xi (zo 1 (p0.Slips.1.length : Int)))), (30, 7, 3, .q (xi (p0.Slips.1.length : Int)))] [(30, 0, (.ret, zlh p0 p1 v11))] (ob (zH k p0 _ h2) (ob (o_b h3) (ob (zO k p1 1 5 _ h5) (ob (o_b h6) (ob (zp zi p0.Slips.1) (ob (zYb (x := 1) h7) (ob (zp zi p0.Slips.1) (ob (zA (id := 0) (r' := (.ret, zlh p0 p1 v11)) (zud (zWk k p0 p1) k _ _ h9) rfl) ob0)))))))) (by kernel_rfl))
    ·subst hh
     exact zC (g := zng) g7_0 (zqc [(52, 1, 1, .c (di v1)), (52, 2, 1, .q (xb false)), (76, 1, 1, .c (db v4)), (52, 4, 4, .q (xb false)), (30, 4, 3, .q (xi (p0.Slips.1.length : Int))), (30, 4, 4, .q (xi (zo 1 (p0.Slips.1.length : Int)))), (30, 7, 3, .q (xi (p0.Slips.1.length : Int)))] [(30, 0, (.nor, zGh p0 p1 v11))] (ob (zH k p0 _ h2) (ob (o_b h3) (ob (zO k p1 1 5 _ h5) (ob (o_b h6) (ob (zp zi p0.Slips.1) (ob (zYb (x := 1) h7) (ob (zp zi p0.Slips.1) (ob (zA (id := 0) (r' := (.nor, zGh p0 p1 v11)) (zud (zWk k p0 p1) k _ _ h9) rfl) ob0)))))))) (by kernel_rfl))
noncomputable def zkx (s1_0 : Int) (p1 : (SL Int)) (s1_5 : Int) : TM := [(0, (xi s1_0)), (1, (.d (dl eI p1.1 p1.2))), (4, (xi 0)), (7, (.d (dl eI p1.1 p1.2))), (8, (xi (p1.1.length : Int))), (9, (xi s1_5))]
noncomputable def z5k (p1 : (SL Int)) (s1_0 s1_5 : Int) : St := ⟨(zkx s1_0 p1 s1_5), ⟨[], []⟩, []⟩
noncomputable def zVw (r : zt9) (p1 : (SL Int)) : TM := [(0, (xi r.1)), (1, (.d (dl eI p1.1 p1.2))), (4, (xi 0)), (7, (.d (dl eI p1.1 p1.2))), (8, (xi (p1.1.length : Int))), (9, (xi r.2)), (10, (xb false))]
noncomputable def z2d (p1 : (SL Int)) (r : zt9) : St := ⟨(zVw r p1), ⟨[], []⟩, []⟩
noncomputable def zfl (p1 : (SL Int)) : (Int × Int) → Ex × St := fun r => ((.exit 0), z2d p1 r)
theorem zrk (k : Nat) (p1 : (SL Int)) (s1_0 s1_5 : Int) (x : (Int × Int) ⊕ (Int × Int)) (h : zNb k p1 s1_0 s1_5 = some x) : zM TE 81 (blk TE 81 0) (fun s : (Int × Int) => z5k p1 s.1 s.2) (zfl p1) (s1_0, s1_5) x := by
 unfold zNb at h
 refine zm h (fun h201 g1 => ?_) (fun h201 g1 => ?_)
 ·refine zj g1 (fun v202 h203 g2 => ?_)
  exact zqn ((if v202 > s1_0 then v202 else s1_0), (w64 (s1_5 + 1))) [] [(81, 2, 0, .q (xb true)), (81, 3, 0, .q (.d (.pin [(di v202)])))] [] g2 (ob (o_b h201) (ob (o_ia (e := eI) 1 h203 rfl) ob0)) (by kernel_rfl)
 ·exact zqo [(81, 2, 0, .q (xb false))] [] g1 (ob (o_b h201) ob0) (by kernel_rfl)
theorem zPh (k : Nat) (p0 : Int) (p1 : (SL Int)) (r : Int) (h : zVc k p0 p1 = some r) : zD TE (ev TE) 81 [(di p0), (dl eI p1.1 p1.2)] = some (zYh r) := by
 unfold zVc at h
 refine zj h (fun v1 h2 g1 => ?_)
 exact zC (g := zYh) g1 (zqc [(81, 1, 1, .q (xi (p1.1.length : Int)))] [(81, 0, (.nor, z2d p1 v1))] (ob (zp eI p1.1) (ob (zA (id := 0) (r' := (.nor, z2d p1 v1)) (zPb (zrk k p1) k _ _ h2) rfl) ob0)) (by kernel_rfl))
noncomputable def zDv (p0 : zb) (p1 : Int) (v7 : zt10) (v11 : Int) (v13 : zk) : TM := [(0, (.d (.agg (za p0)))), (1, (xi p1)), (zsp 2), (zsp 3), (4, (xi 0)), (5, (xi 0)), (zsp 6), (7, (xi 0)), (24, (xb false)), (9, (xi v7.2.1)), (10, (xb v7.2.2)), (33, (xb false)), (zsp 11), (12, (xi v11)), (13, (xi v13.Until))]
noncomputable def zMk (p0 : zb) (p1 : Int) (v7 : zt10) (v11 : Int) (v13 : zk) : St := ⟨(zDv p0 p1 v7 v11 v13), ⟨[(zc 2 (za p0)), (3, (.cells [(xi p1)])), (6, (.cells [(.d (dl eI p0.Far.1 p0.Far.2)), (xi p0.Step.Low), (xi p0.Step.High), (.d (dl zr p0.Pick.1 p0.Pick.2)), (xi p0.Carry), (.row 0 57 0)])), (11, (.cells [(xi (w64 ((zo 1 (p0.Slips.1.length : Int)) - 1))), (xi v7.2.1)])), (57, .nrow)], []⟩, []⟩
noncomputable def zFg (p0 : zb) (p1 : Int) (v7 : zt10) (v11 : Int) (v13 : zk) (r : Unit) : St := ⟨(zDv p0 p1 v7 v11 v13 ++ [(62, (xb false))]), ⟨[(zc 2 (za p0)), (3, (.cells [(xi p1)])), (6, (.cells [(.d (dl eI p0.Far.1 p0.Far.2)), (xi p0.Step.Low), (xi p0.Step.High), (.d (dl zr p0.Pick.1 p0.Pick.2)), (xi p0.Carry), (.row 0 57 0)])), (11, (.cells [(xi (w64 ((zo 1 (p0.Slips.1.length : Int)) - 1))), (xi v7.2.1)])), (57, .nrow)], []⟩, []⟩
noncomputable def zQk (p0 : zb) (p1 : Int) (v7 : zt10) (v11 : Int) (v13 : zk) : Unit → Ex × St := fun r => ((.exit 0), zFg p0 p1 v7 v11 v13 r)
theorem zOn (k : Nat) (p0 : zb) (p1 : Int) (v7 : zt10) (v11 : Int) (v13 : zk) (x : Unit ⊕ Unit) (h : zAg k p0 p1 v7 v11 v13 = some x) : zM TE 33 (blk TE 33 0) (fun s : Unit => zMk p0 p1 v7 v11 v13) (zQk p0 p1 v7 v11 v13) () x := by
 unfold zAg at h
 refine zm h (fun h201 g1 => ?_) (fun h201 g1 => ?_)
 ·cases g1
 ·exact zqo [(33, 10, 2, .q (xb false))] [] g1 (ob (o_b h201) ob0) (by kernel_rfl)
theorem zFn (k : Nat) (p0 : zb) (p1 : Int) (v7 : zt10) (v11 : Int) (v13 : zk) : ∀ (s : Unit) (x : Unit ⊕ Unit), (fun s => zAg k p0 p1 v7 v11 v13) s = some x → zM TE 33 (blk TE 33 0) (fun s : Unit => zMk p0 p1 v7 v11 v13) (zQk p0 p1 v7 v11 v13) s x := fun s x h => zOn k p0 p1 v7 v11 v13 x h
noncomputable def z9w (p0 : zb) (p1 : Int) (v7 : zt10) (r : (Int × Int × Bool)) (s2_14 s2_15 : Int) (v404 : ((SL (SL Int)) × Bool)) : TM := [(0, (.d (.agg (za p0)))), (1, (xi p1)), (zsp 2), (zsp 3), (4, (xi 0)), (5, (xi 0)), (zsp 6), (7, (xi 0)), (24, (xb false)), (9, (xi v7.2.1)), (10, (xb v7.2.2)), (33, (xb false)), (zsp 11), (12, (xi r.1)), (13, (xi r.2.1)), (62, (xb true)), (14, (xi (w64 ((w64 (s2_14 + s2_15)).tdiv 2)))), (16, (xb v404.2)), (80, (xb r.2.2))]
noncomputable def zJf (p0 : zb) (p1 : Int) (v7 : zt10) (s2_14 s2_15 : Int) (s2_30 : (List zk)) (v402 : zk) (v404 : ((SL (SL Int)) × Bool)) (cb : Bool) (r : (Int × Int × Bool)) : St := ⟨(z9w p0 p1 v7 r s2_14 s2_15 v404), ⟨[(zc 2 (za p0)), (3, (.cells [(xi p1)])), (6, (.cells [(.d (dl eI p0.Far.1 p0.Far.2)), (xi p0.Step.Low), (xi p0.Step.High), (.d (dl zr p0.Pick.1 p0.Pick.2)), (xi p0.Carry), (.row 0 57 (s2_30.set p1.toNat (⟨v402.Lines, (w64 ((w64 (s2_14 + s2_15)).tdiv 2))⟩ : zk)).length)])), (11, (.cells [(xi (w64 ((zo 1 (p0.Slips.1.length : Int)) - 1))), (xi v7.2.1)])), (57, (rowO false 2 zi (s2_30.set p1.toNat (⟨v402.Lines, (w64 ((w64 (s2_14 + s2_15)).tdiv 2))⟩ : zk)) true))], []⟩, []⟩
noncomputable def znx (p0 : zb) (p1 : Int) (v7 : zt10) (s2_14 s2_15 : Int) (v404 : ((SL (SL Int)) × Bool)) (cb : Bool) : TM := [(0, (.d (.agg (za p0)))), (1, (xi p1)), (zsp 2), (zsp 3), (4, (xi 0)), (5, (xi 0)), (zsp 6), (7, (xi 0)), (24, (xb false)), (9, (xi v7.2.1)), (10, (xb v7.2.2)), (33, (xb false)), (zsp 11), (12, (xi s2_14)), (13, (xi s2_15)), (62, (xb true)), (14, (xi (w64 ((w64 (s2_14 + s2_15)).tdiv 2)))), (16, (xb v404.2)), (80, (xb cb))]
theorem zwn (k : Nat) (p0 : zb) (p1 : Int) (v7 : zt10) (s2_14 s2_15 : Int) (s2_30 : (List zk)) (v402 : zk) (v404 : ((SL (SL Int)) × Bool)) (cb : Bool) (r : (Int × Int × Bool)) (h : zjf k p0 p1 v7 s2_14 s2_15 s2_30 v402 v404 cb = some r) : ev TE 33 (cnd TE 33 80) ⟨(znx p0 p1 v7 s2_14 s2_15 v404 cb), ⟨[(zc 2 (za p0)), (3, (.cells [(xi p1)])), (6, (.cells [(.d (dl eI p0.Far.1 p0.Far.2)), (xi p0.Step.Low), (xi p0.Step.High), (.d (dl zr p0.Pick.1 p0.Pick.2)), (xi p0.Carry), (.row 0 57 (s2_30.set p1.toNat (⟨v402.Lines, (w64 ((w64 (s2_14 + s2_15)).tdiv 2))⟩ : zk)).length)])), (11, (.cells [(xi (w64 ((zo 1 (p0.Slips.1.length : Int)) - 1))), (xi v7.2.1)])), (57, (rowO false 2 zi (s2_30.set p1.toNat (⟨v402.Lines, (w64 ((w64 (s2_14 + s2_15)).tdiv 2))⟩ : zk)) true))], []⟩, []⟩ = some (.nor, zJf p0 p1 v7 s2_14 s2_15 s2_30 v402 v404 cb r) := by
 unfold zjf at h
 refine zm h (fun h501 g1 => ?_) (fun h501 g1 => ?_)
 ·subst h501
  exact zy (g := fun r => (Ex.nor, zJf p0 p1 v7 s2_14 s2_15 s2_30 v402 v404 true r)) g1 (zqe [] [] ob0 (by kernel_rfl))
 ·subst h501
  exact zy (g := fun r => (Ex.nor, zJf p0 p1 v7 s2_14 s2_15 s2_30 v402 v404 false r)) g1 (zqe [] [] ob0 (by kernel_rfl))
noncomputable def zyx (p0 : zb) (p1 : Int) (v7 : zt10) (s2_14 s2_15 : Int) : TM := [(0, (.d (.agg (za p0)))), (1, (xi p1)), (zsp 2), (zsp 3), (4, (xi 0)), (5, (xi 0)), (zsp 6), (7, (xi 0)), (24, (xb false)), (9, (xi v7.2.1)), (10, (xb v7.2.2)), (33, (xb false)), (zsp 11), (12, (xi s2_14)), (13, (xi s2_15))]
noncomputable def zpo (p0 : zb) (p1 : Int) (v7 : zt10) (s2_14 s2_15 : Int) (s2_30 : (List zk)) : St := ⟨(zyx p0 p1 v7 s2_14 s2_15), ⟨[(zc 2 (za p0)), (3, (.cells [(xi p1)])), (6, (.cells [(.d (dl eI p0.Far.1 p0.Far.2)), (xi p0.Step.Low), (xi p0.Step.High), (.d (dl zr p0.Pick.1 p0.Pick.2)), (xi p0.Carry), (.row 0 57 s2_30.length)])), (11, (.cells [(xi (w64 ((zo 1 (p0.Slips.1.length : Int)) - 1))), (xi v7.2.1)])), (57, (rowO false 2 zi s2_30 true))], []⟩, []⟩
noncomputable def zEx (p0 : zb) (p1 : Int) (v7 : zt10) (r : (Int × Int × (List zk))) : TM := [(0, (.d (.agg (za p0)))), (1, (xi p1)), (zsp 2), (zsp 3), (4, (xi 0)), (5, (xi 0)), (zsp 6), (7, (xi 0)), (24, (xb false)), (9, (xi v7.2.1)), (10, (xb v7.2.2)), (33, (xb false)), (zsp 11), (12, (xi r.1)), (13, (xi r.2.1)), (62, (xb false))]
noncomputable def zGg (p0 : zb) (p1 : Int) (v7 : zt10) (r : (Int × Int × (List zk))) : St := ⟨(zEx p0 p1 v7 r), ⟨[(zc 2 (za p0)), (3, (.cells [(xi p1)])), (6, (.cells [(.d (dl eI p0.Far.1 p0.Far.2)), (xi p0.Step.Low), (xi p0.Step.High), (.d (dl zr p0.Pick.1 p0.Pick.2)), (xi p0.Carry), (.row 0 57 r.2.2.length)])), (11, (.cells [(xi (w64 ((zo 1 (p0.Slips.1.length : Int)) - 1))), (xi v7.2.1)])), (57, (rowO false 2 zi r.2.2 true))], []⟩, []⟩
noncomputable def zjo (p0 : zb) (p1 : Int) (v7 : zt10) : (Int × Int × (List zk)) → Ex × St := fun r => ((.exit 0), zGg p0 p1 v7 r)
theorem z6n (k : Nat) (p0 : zb) (p1 : Int) (v7 : zt10) (s2_14 s2_15 : Int) (s2_30 : (List zk)) (x : (Int × Int × (List zk)) ⊕ (Int × Int × (List zk))) (h : zif k p0 p1 v7 s2_14 s2_15 s2_30 = some x) : zM TE 33 (blk TE 33 0) (fun s : (Int × Int × (List zk)) => zpo p0 p1 v7 s.1 s.2.1 s.2.2) (zjo p0 p1 v7) (s2_14, s2_15, s2_30) x := by
 unfold zif at h
 refine zm h (fun h401 g1 => ?_) (fun h401 g1 => ?_)
 ·refine zj g1 (fun v402 h403 g2 => ?_)
  refine zj g2 (fun v404 h405 g3 => ?_)
  refine zj g3 (fun v406 h407 g4 => ?_)
  exact zqn (v406.1, v406.2.1, (s2_30.set p1.toNat (⟨v402.Lines, (w64 ((w64 (s2_14 + s2_15)).tdiv 2))⟩ : zk))) [57] [(33, 10, 2, .q (xb true)), (33, 12, 5, .q (.rp 0 57 s2_30.length p1.toNat 0)), (33, 12, 6, .q (.rp 0 57 s2_30.length p1.toNat 1)), (33, 12, 7, .rs (rowO false 2 zi (s2_30.set p1.toNat (⟨v402.Lines, (w64 ((w64 (s2_14 + s2_15)).tdiv 2))⟩ : zk)) true)), (33, 12, 999, .nm [] [(6, 5, (s2_30.set p1.toNat (⟨v402.Lines, (w64 ((w64 (s2_14 + s2_15)).tdiv 2))⟩ : zk)).length)]), (33, 13, 2, .cr [((dl zi (s2_30.set p1.toNat (⟨v402.Lines, (w64 ((w64 (s2_14 + s2_15)).tdiv 2))⟩ : zk)) (rcap false (s2_30.set p1.toNat (⟨v402.Lines, (w64 ((w64 (s2_14 + s2_15)).tdiv 2))⟩ : zk)))), (rowO false 2 zi (s2_30.set p1.toNat (⟨v402.Lines, (w64 ((w64 (s2_14 + s2_15)).tdiv 2))⟩ : zk)) false))] (.tup [(dl (eL eI) v404.1.1 v404.1.2), (db v404.2)]))] [(33, 2000080, (.nor, zJf p0 p1 v7 s2_14 s2_15 s2_30 v402 v404 v404.2 v406))] g4 (ob (o_b h401) (ob (zqa 26 32 0 57 p1 false 2 zi s2_30 true (by kernel_rfl) (by kernel_rfl) h403) (ob (zqf 52 (1, 1, false) 0 57 0 1 p1 false 2 zi s2_30 true (by kernel_rfl) (by decide) h403) (ob (o_rs (b := false) (z := 2) (e := zi) (l := s2_30) (o := 1) (n := 1) (ds := [(di (w64 ((w64 (s2_14 + s2_15)).tdiv 2)))]) (i := p1) (y' := (⟨v402.Lines, (w64 ((w64 (s2_14 + s2_15)).tdiv 2))⟩ : zk)) h403 (Nat.le_of_ble_eq_true rfl) rfl) (ob (show s2_30.length = (s2_30.set p1.toNat (⟨v402.Lines, (w64 ((w64 (s2_14 + s2_15)).tdiv 2))⟩ : zk)).length by simp) (ob (o_cr false 2 zi (s2_30.set p1.toNat (⟨v402.Lines, (w64 ((w64 (s2_14 + s2_15)).tdiv 2))⟩ : zk)) true 0 57) (ob (zX k (⟨(⟨p0.Far, p0.Step, p0.Pick, p0.Carry, ((s2_30.set p1.toNat (⟨v402.Lines, (w64 ((w64 (s2_14 + s2_15)).tdiv 2))⟩ : zk)), (rcap false (s2_30.set p1.toNat (⟨v402.Lines, (w64 ((w64 (s2_14 + s2_15)).tdiv 2))⟩ : zk))))⟩ : zb)⟩ : zd) (⟨(w64 ((zo 1 (p0.Slips.1.length : Int)) - 1)), v7.2.1⟩ : zt) _ h405) (ob (zwn k p0 p1 v7 s2_14 s2_15 s2_30 v402 v404 v404.2 _ h407) (ob (z6i false 2 zi (s2_30.set p1.toNat (⟨v402.Lines, (w64 ((w64 (s2_14 + s2_15)).tdiv 2))⟩ : zk)) true) ob0))))))))) (by kernel_rfl)
 ·exact zqo [(33, 10, 2, .q (xb false))] [] g1 (ob (o_b h401) ob0) (by kernel_rfl)
theorem zab (k : Nat) (p0 : zb) (p1 : Int) (r : zt9) (h : z6f k p0 p1 = some r) : zD TE (ev TE) 33 [(.agg (za p0)), (di p1)] = some (zMe r) := by
 unfold z6f at h
 refine zj h (fun v1 h2 g1 => ?_)
 refine zm g1 (fun h3 g2 => ?_) (fun h3 g2 => ?_)
 ·exact zC (g := zMe) g2 (zqc [(52, 1, 1, .c (di v1)), (52, 2, 1, .q (xb true)), (33, 2, 1, .q (xb true))] [] (ob (zH k p0 _ h2) (ob (o_b h3) (ob (o_b h3) ob0))) (by kernel_rfl))
 ·refine zj g2 (fun v4 h5 g3 => ?_)
  refine zm g3 (fun h6 g4 => ?_) (fun h6 g4 => ?_)
  ·exact zC (g := zMe) g4 (zqc [(52, 1, 1, .c (di v1)), (52, 2, 1, .q (xb false)), (79, 1, 2, .c (db v4)), (52, 4, 4, .q (xb true))] [] (ob (zH k p0 _ h2) (ob (o_b h3) (ob (zQ k (⟨p0⟩ : zd) p1 _ h5) (ob (o_b h6) ob0)))) (by kernel_rfl))
  ·refine zj g4 (fun v7 h8 g5 => ?_)
   refine zm g5 (fun h9 g6 => ?_) (fun h9 g6 => ?_)
   ·exact zC (g := zMe) g6 (zqc [(52, 1, 1, .c (di v1)), (52, 2, 1, .q (xb false)), (79, 1, 2, .c (db v4)), (52, 4, 4, .q (xb false)), (33, 4, 1, .c (.tup [(dl (eL eI) v7.1.1 v7.1.2), (di v7.2.1), (db v7.2.2)])), (33, 5, 1, .q (xb true))] [] (ob (zH k p0 _ h2) (ob (o_b h3) (ob (zQ k (⟨p0⟩ : zd) p1 _ h5) (ob (o_b h6) (ob (zPc k (⟨p0⟩ : zd) _ h8) (ob (o_b h9) ob0)))))) (by kernel_rfl))
   ·refine zm g6 (fun h10 g7 => ?_) (fun h10 g7 => ?_)
    ·cases g7
    ·refine zj g7 (fun v11 h12 g8 => ?_)
     refine zj g8 (fun v13 h14 g9 => ?_)
     refine zm g9 (fun h15 g10 => ?_) (fun h15 g10 => ?_)
     ·refine zj g10 (fun v16 h17 g11 => ?_)
      refine zj g11 (fun v18 h19 g12 => ?_)
      exact zC (g := zMe) g12 (zqc [(52, 1, 1, .c (di v1)), (52, 2, 1, .q (xb false)), (79, 1, 2, .c (db v4)), (52, 4, 4, .q (xb false)), (33, 4, 1, .c (.tup [(dl (eL eI) v7.1.1 v7.1.2), (di v7.2.1), (db v7.2.2)])), (33, 5, 1, .q (xb false)), (33, 7, 3, .q (xi (p0.Slips.1.length : Int))), (33, 7, 4, .q (xi (zo 1 (p0.Slips.1.length : Int)))), (33, 8, 4, .c (di v11)), (33, 8, 9, .q (.d (.pin [(dl zh v13.Lines.1 v13.Lines.2), (di v13.Until)]))), (80, 1, 1, .q (xb true)), (33, 17, 2, .c (di v18))] [(33, 0, (.nor, zFg p0 p1 v7 v11 v13 v16))] (ob (zH k p0 _ h2) (ob (o_b h3) (ob (zQ k (⟨p0⟩ : zd) p1 _ h5) (ob (o_b h6) (ob (zPc k (⟨p0⟩ : zd) _ h8) (ob (o_b h9) (ob (zp zi p0.Slips.1) (ob (zYb (x := 1) h10) (ob (zjd k (⟨p0⟩ : zd) p1 _ h12) (ob (o_ia (e := zi) 2 h14 rfl) (ob (o_b h15) (ob (zA (id := 0) (r' := (.nor, zFg p0 p1 v7 v11 v13 v16)) (zuf (zFn k p0 p1 v7 v11 v13) k _ _ h17) rfl) (ob (zPh k v11 ([0], .ex) _ h19) ob0))))))))))))) (by kernel_rfl))
     ·refine z9 g10 (fun h16 g11 => ?_)
      refine zj g11 (fun v17 h18 g12 => ?_)
      refine zj g12 (fun v19 h20 g13 => ?_)
      exact zC (g := zMe) g13 (zqc [(52, 1, 1, .c (di v1)), (52, 2, 1, .q (xb false)), (79, 1, 2, .c (db v4)), (52, 4, 4, .q (xb false)), (33, 4, 1, .c (.tup [(dl (eL eI) v7.1.1 v7.1.2), (di v7.2.1), (db v7.2.2)])), (33, 5, 1, .q (xb false)), (33, 7, 3, .q (xi (p0.Slips.1.length : Int))), (33, 7, 4, .q (xi (zo 1 (p0.Slips.1.length : Int)))), (33, 8, 4, .c (di v11)), (33, 8, 9, .q (.d (.pin [(dl zh v13.Lines.1 v13.Lines.2), (di v13.Until)]))), (80, 1, 1, .q (xb false)), (80, 3, 2, .ns (p0.Slips.1.map zi) p0.Slips.1.length), (33, 17, 2, .c (di v19))] [(33, 0, (.nor, zGg p0 p1 v7 v17))] (ob (zH k p0 _ h2) (ob (o_b h3) (ob (zQ k (⟨p0⟩ : zd) p1 _ h5) (ob (o_b h6) (ob (zPc k (⟨p0⟩ : zd) _ h8) (ob (o_b h9) (ob (zp zi p0.Slips.1) (ob (zYb (x := 1) h10) (ob (zjd k (⟨p0⟩ : zd) p1 _ h12) (ob (o_ia (e := zi) 2 h14 rfl) (ob (o_b h15) (ob (zvv p0.Slips.1 zi) (ob (o_ns (P := TE.P) (φ := fun _ _ => none) (T := 26) (q := (2, [(.sl [] .nil), (di 0)])) (c := p0.Slips.2) (e := zi) p0.Slips.1 (by kernel_rfl) (fun _ => rfl) h16) (ob (rfl : (([] : List (List D)).isEmpty || !(p0.Slips.1.map zi).isEmpty) = true) (ob (o_rh false 2 zi p0.Slips.1) (ob (zA (id := 0) (r' := (.nor, zGg p0 p1 v7 v17)) (zqp (z6n k p0 p1 v7) k _ _ h18) rfl) (ob (zPh k v17.1 ([0], .ex) _ h20) ob0))))))))))))))))) (by kernel_rfl))
noncomputable def z2w (p0 p1 : (SL zq)) (s1_3 : Bool) (s1_4 : Int) (r : Bool) : TM := [(0, (.d (dl zr p0.1 p0.2))), (1, (.d (dl zr p1.1 p1.2))), (4, (xb false)), (5, (xb s1_3)), (6, (xi s1_4)), (18, (xb r))]
noncomputable def zFb (p0 p1 : (SL zq)) (s1_3 : Bool) (s1_4 : Int) (r : Bool) : St := ⟨(z2w p0 p1 s1_3 s1_4 r), ⟨[], []⟩, []⟩
noncomputable def zrv (p0 p1 : (SL zq)) (s1_3 : Bool) (s1_4 : Int) : TM := [(0, (.d (dl zr p0.1 p0.2))), (1, (.d (dl zr p1.1 p1.2))), (4, (xb false)), (5, (xb s1_3)), (6, (xi s1_4))]
theorem zve (k : Nat) (p0 p1 : (SL zq)) (s1_3 : Bool) (s1_4 : Int) (r : Bool) (h : zfd k p0 p1 s1_3 s1_4 = some r) : ev TE 27 (rgn TE 27 3) ⟨(zrv p0 p1 s1_3 s1_4), ⟨[], []⟩, []⟩ = some (.nor, zFb p0 p1 s1_3 s1_4 r) := by
 unfold zfd at h
 refine zm h (fun h401 g1 => ?_) (fun h401 g1 => ?_)
 ·exact zy (g := fun r => (Ex.nor, zFb p0 p1 s1_3 s1_4 r)) g1 (zqe [(27, 3, 1, .q (xb true)), (27, 3, 4, .q (xi (p0.1.length : Int)))] [] (ob (o_b h401) (ob (zp zr p0.1) ob0)) (by kernel_rfl))
 ·exact zy (g := fun r => (Ex.nor, zFb p0 p1 s1_3 s1_4 r)) g1 (zqe [(27, 3, 1, .q (xb false))] [] (ob (o_b h401) ob0) (by kernel_rfl))
noncomputable def zVh (p0 p1 : (SL zq)) (s1_3 : Bool) (s1_4 : Int) : St := ⟨(zrv p0 p1 s1_3 s1_4), ⟨[], []⟩, []⟩
noncomputable def zux (p0 p1 : (SL zq)) (r : zt3) : TM := [(0, (.d (dl zr p0.1 p0.2))), (1, (.d (dl zr p1.1 p1.2))), (4, (xb false)), (5, (xb r.1)), (6, (xi r.2)), (18, (xb false))]
noncomputable def zQc (p0 p1 : (SL zq)) (r : zt3) : St := ⟨(zux p0 p1 r), ⟨[], []⟩, []⟩
noncomputable def zWh (p0 p1 : (SL zq)) : (Bool × Int) → Ex × St := fun r => ((.exit 0), zQc p0 p1 r)
theorem zuh (k : Nat) (p0 p1 : (SL zq)) (s1_3 : Bool) (s1_4 : Int) (x : (Bool × Int) ⊕ (Bool × Int)) (h : zed k p0 p1 s1_3 s1_4 = some x) : zM TE 27 (blk TE 27 0) (fun s : (Bool × Int) => zVh p0 p1 s.1 s.2) (zWh p0 p1) (s1_3, s1_4) x := by
 unfold zed at h
 refine zj h (fun v301 h302 g1 => ?_)
 refine zm g1 (fun h303 g2 => ?_) (fun h303 g2 => ?_)
 ·subst h303
  refine zj g2 (fun v304 h305 g3 => ?_)
  refine zj g3 (fun v306 h307 g4 => ?_)
  exact zqn (((v304.Low == v306.Low) && ((v304.High == v306.High) && true)), (w64 (s1_4 + 1))) [] [(27, 5, 2, .q (.d (.pin [(di v304.Low), (di v304.High)]))), (27, 5, 6, .q (.d (.pin [(di v306.Low), (di v306.High)])))] [(27, 1000003, (.nor, zFb p0 p1 s1_3 s1_4 true))] g4 (ob (zve k p0 p1 s1_3 s1_4 _ h302) (ob (o_ia (e := zr) 2 h305 rfl) (ob (o_ia (e := zr) 2 h307 rfl) ob0))) (by kernel_rfl)
 ·subst h303
  exact zqo [] [(27, 1000003, (.nor, zFb p0 p1 s1_3 s1_4 false))] g2 (ob (zve k p0 p1 s1_3 s1_4 _ h302) ob0) (by kernel_rfl)
theorem zkc (k : Nat) (p0 p1 : (SL zq)) (r : Bool) (h : zQd k p0 p1 = some r) : zD TE (ev TE) 27 [(dl zr p0.1 p0.2), (dl zr p1.1 p1.2)] = some (zpf r) := by
 unfold zQd at h
 refine zj h (fun v1 h2 g1 => ?_)
 exact zC (g := zpf) g1 (zqc [(27, 1, 1, .q (xi (p0.1.length : Int))), (27, 1, 3, .q (xi (p1.1.length : Int)))] [(27, 0, (.nor, zQc p0 p1 v1))] (ob (zp zr p0.1) (ob (zp zr p1.1) (ob (zA (id := 0) (r' := (.nor, zQc p0 p1 v1)) (zPb (zuh k p0 p1) k _ _ h2) rfl) ob0))) (by kernel_rfl))
noncomputable def zgx (p0 p1 : (SL Int)) (s1_3 : Bool) (s1_4 : Int) (r : Bool) : TM := [(0, (.d (dl eI p0.1 p0.2))), (1, (.d (dl eI p1.1 p1.2))), (4, (xb false)), (5, (xb s1_3)), (6, (xi s1_4)), (18, (xb r))]
noncomputable def zZb (p0 p1 : (SL Int)) (s1_3 : Bool) (s1_4 : Int) (r : Bool) : St := ⟨(zgx p0 p1 s1_3 s1_4 r), ⟨[], []⟩, []⟩
noncomputable def zsv (p0 p1 : (SL Int)) (s1_3 : Bool) (s1_4 : Int) : TM := [(0, (.d (dl eI p0.1 p0.2))), (1, (.d (dl eI p1.1 p1.2))), (4, (xb false)), (5, (xb s1_3)), (6, (xi s1_4))]
theorem zLf (k : Nat) (p0 p1 : (SL Int)) (s1_3 : Bool) (s1_4 : Int) (r : Bool) (h : zDe k p0 p1 s1_3 s1_4 = some r) : ev TE 32 (rgn TE 32 3) ⟨(zsv p0 p1 s1_3 s1_4), ⟨[], []⟩, []⟩ = some (.nor, zZb p0 p1 s1_3 s1_4 r) := by
 unfold zDe at h
 refine zm h (fun h401 g1 => ?_) (fun h401 g1 => ?_)
 ·exact zy (g := fun r => (Ex.nor, zZb p0 p1 s1_3 s1_4 r)) g1 (zqe [(32, 3, 1, .q (xb true)), (32, 3, 4, .q (xi (p0.1.length : Int)))] [] (ob (o_b h401) (ob (zp eI p0.1) ob0)) (by kernel_rfl))
 ·exact zy (g := fun r => (Ex.nor, zZb p0 p1 s1_3 s1_4 r)) g1 (zqe [(32, 3, 1, .q (xb false))] [] (ob (o_b h401) ob0) (by kernel_rfl))
noncomputable def zak (p0 p1 : (SL Int)) (s1_3 : Bool) (s1_4 : Int) : St := ⟨(zsv p0 p1 s1_3 s1_4), ⟨[], []⟩, []⟩
noncomputable def z3w (p0 p1 : (SL Int)) (r : zt3) : TM := [(0, (.d (dl eI p0.1 p0.2))), (1, (.d (dl eI p1.1 p1.2))), (4, (xb false)), (5, (xb r.1)), (6, (xi r.2)), (18, (xb false))]
noncomputable def zxd (p0 p1 : (SL Int)) (r : zt3) : St := ⟨(z3w p0 p1 r), ⟨[], []⟩, []⟩
noncomputable def zxj (p0 p1 : (SL Int)) : (Bool × Int) → Ex × St := fun r => ((.exit 0), zxd p0 p1 r)
theorem z9i (k : Nat) (p0 p1 : (SL Int)) (s1_3 : Bool) (s1_4 : Int) (x : (Bool × Int) ⊕ (Bool × Int)) (h : zCe k p0 p1 s1_3 s1_4 = some x) : zM TE 32 (blk TE 32 0) (fun s : (Bool × Int) => zak p0 p1 s.1 s.2) (zxj p0 p1) (s1_3, s1_4) x := by
 unfold zCe at h
 refine zj h (fun v301 h302 g1 => ?_)
 refine zm g1 (fun h303 g2 => ?_) (fun h303 g2 => ?_)
 ·subst h303
  refine zj g2 (fun v304 h305 g3 => ?_)
  refine zj g3 (fun v306 h307 g4 => ?_)
  exact zqn ((v304 == v306), (w64 (s1_4 + 1))) [] [(32, 5, 2, .q (.d (.pin [(di v304)]))), (32, 5, 6, .q (.d (.pin [(di v306)])))] [(32, 1000003, (.nor, zZb p0 p1 s1_3 s1_4 true))] g4 (ob (zLf k p0 p1 s1_3 s1_4 _ h302) (ob (o_ia (e := eI) 1 h305 rfl) (ob (o_ia (e := eI) 1 h307 rfl) ob0))) (by kernel_rfl)
 ·subst h303
  exact zqo [] [(32, 1000003, (.nor, zZb p0 p1 s1_3 s1_4 false))] g2 (ob (zLf k p0 p1 s1_3 s1_4 _ h302) ob0) (by kernel_rfl)
theorem zqg (k : Nat) (p0 p1 : (SL Int)) (r : Bool) (h : zxf k p0 p1 = some r) : zD TE (ev TE) 32 [(dl eI p0.1 p0.2), (dl eI p1.1 p1.2)] = some (z9g r) := by
 unfold zxf at h
 refine zj h (fun v1 h2 g1 => ?_)
 exact zC (g := z9g) g1 (zqc [(32, 1, 1, .q (xi (p0.1.length : Int))), (32, 1, 3, .q (xi (p1.1.length : Int)))] [(32, 0, (.nor, zxd p0 p1 v1))] (ob (zp eI p0.1) (ob (zp eI p1.1) (ob (zA (id := 0) (r' := (.nor, zxd p0 p1 v1)) (zPb (z9i k p0 p1) k _ _ h2) rfl) ob0))) (by kernel_rfl))
noncomputable def zTx (v3 : zt9) (v7 : (zq × Int)) (v11 : ((SL (SL zl)) × Int)) (v21 : zt3) (r : Bool) : TM := [(0, (xb false)), (1, (xi v3.1)), (2, (xi v3.2)), (zsp 3), (4, (xi v7.2)), (5, (.d (dl (eL zh) v11.1.1 v11.1.2))), (6, (xi v11.2)), (7, (xb v21.1)), (8, (xi v21.2)), (86, (xb r))]
noncomputable def zF (v3 : zt9) (v7 : (zq × Int)) (v11 : ((SL (SL zl)) × Int)) (v21 : zt3) (r : Bool) : St := ⟨(zTx v3 v7 v11 v21 r), ⟨[(3, (.cells [(xi v7.1.Low), (xi v7.1.High)]))], []⟩, []⟩
noncomputable def zOx (v3 : zt9) (v7 : (zq × Int)) (v11 : ((SL (SL zl)) × Int)) (v21 : zt3) : TM := [(0, (xb false)), (1, (xi v3.1)), (2, (xi v3.2)), (zsp 3), (4, (xi v7.2)), (5, (.d (dl (eL zh) v11.1.1 v11.1.2))), (6, (xi v11.2)), (7, (xb v21.1)), (8, (xi v21.2))]
theorem zbb (k : Nat) (v3 : zt9) (v7 : (zq × Int)) (v11 : ((SL (SL zl)) × Int)) (v21 : zt3) (r : Bool) (h : zEe k v3 v7 v11 v21 = some r) : ev TE 23 (rgn TE 23 5) ⟨(zOx v3 v7 v11 v21), ⟨[(3, (.cells [(xi v7.1.Low), (xi v7.1.High)]))], []⟩, []⟩ = some (.nor, zF v3 v7 v11 v21 r) := by
 unfold zEe at h
 refine zm h (fun h201 g1 => ?_) (fun h201 g1 => ?_)
 ·exact zy (g := fun r => (Ex.nor, zF v3 v7 v11 v21 r)) g1 (zqe [(23, 5, 2, .q (xb true))] [] (ob (o_b h201) ob0) (by kernel_rfl))
 ·refine zm g1 (fun h202 g2 => ?_) (fun h202 g2 => ?_)
  ·exact zy (g := fun r => (Ex.nor, zF v3 v7 v11 v21 r)) g2 (zqe [(23, 5, 2, .q (xb false)), (23, 5, 6, .q (xb true))] [] (ob (o_b h201) (ob (o_b h202) ob0)) (by kernel_rfl))
  ·refine zm g2 (fun h203 g3 => ?_) (fun h203 g3 => ?_)
   ·exact zy (g := fun r => (Ex.nor, zF v3 v7 v11 v21 r)) g3 (zqe [(23, 5, 2, .q (xb false)), (23, 5, 6, .q (xb false)), (23, 5, 10, .q (xb true))] [] (ob (o_b h201) (ob (o_b h202) (ob (o_b h203) ob0))) (by kernel_rfl))
   ·refine zm g3 (fun h204 g4 => ?_) (fun h204 g4 => ?_)
    ·exact zy (g := fun r => (Ex.nor, zF v3 v7 v11 v21 r)) g4 (zqe [(23, 5, 2, .q (xb false)), (23, 5, 6, .q (xb false)), (23, 5, 10, .q (xb false)), (23, 5, 14, .q (xb true))] [] (ob (o_b h201) (ob (o_b h202) (ob (o_b h203) (ob (o_b h204) ob0)))) (by kernel_rfl))
    ·refine zm g4 (fun h205 g5 => ?_) (fun h205 g5 => ?_)
     ·exact zy (g := fun r => (Ex.nor, zF v3 v7 v11 v21 r)) g5 (zqe [(23, 5, 2, .q (xb false)), (23, 5, 6, .q (xb false)), (23, 5, 10, .q (xb false)), (23, 5, 14, .q (xb false)), (23, 5, 18, .q (xb true))] [] (ob (o_b h201) (ob (o_b h202) (ob (o_b h203) (ob (o_b h204) (ob (o_b h205) ob0))))) (by kernel_rfl))
     ·refine zj g5 (fun v206 h207 g6 => ?_)
      refine zm g6 (fun h208 g7 => ?_) (fun h208 g7 => ?_)
      ·exact zy (g := fun r => (Ex.nor, zF v3 v7 v11 v21 r)) g7 (zqe [(23, 5, 2, .q (xb false)), (23, 5, 6, .q (xb false)), (23, 5, 10, .q (xb false)), (23, 5, 14, .q (xb false)), (23, 5, 18, .q (xb false)), (23, 5, 20, .c (.agg [(di v206.Low), (di v206.High)])), (23, 5, 23, .q (xb true))] [] (ob (o_b h201) (ob (o_b h202) (ob (o_b h203) (ob (o_b h204) (ob (o_b h205) (ob (zB k 140 252 _ h207) (ob (o_b h208) ob0))))))) (by kernel_rfl))
      ·refine zm g7 (fun h209 g8 => ?_) (fun h209 g8 => ?_)
       ·exact zy (g := fun r => (Ex.nor, zF v3 v7 v11 v21 r)) g8 (zqe [(23, 5, 2, .q (xb false)), (23, 5, 6, .q (xb false)), (23, 5, 10, .q (xb false)), (23, 5, 14, .q (xb false)), (23, 5, 18, .q (xb false)), (23, 5, 20, .c (.agg [(di v206.Low), (di v206.High)])), (23, 5, 23, .q (xb false)), (23, 5, 25, .q (xi (v11.1.1.length : Int))), (23, 5, 28, .q (xb true))] [] (ob (o_b h201) (ob (o_b h202) (ob (o_b h203) (ob (o_b h204) (ob (o_b h205) (ob (zB k 140 252 _ h207) (ob (o_b h208) (ob (zp (eL zh) v11.1.1) (ob (o_b h209) ob0))))))))) (by kernel_rfl))
       ·refine zj g8 (fun v210 h211 g9 => ?_)
        refine zm g9 (fun h212 g10 => ?_) (fun h212 g10 => ?_)
        ·exact zy (g := fun r => (Ex.nor, zF v3 v7 v11 v21 r)) g10 (zqe [(23, 5, 2, .q (xb false)), (23, 5, 6, .q (xb false)), (23, 5, 10, .q (xb false)), (23, 5, 14, .q (xb false)), (23, 5, 18, .q (xb false)), (23, 5, 20, .c (.agg [(di v206.Low), (di v206.High)])), (23, 5, 23, .q (xb false)), (23, 5, 25, .q (xi (v11.1.1.length : Int))), (23, 5, 28, .q (xb false)), (23, 5, 30, .q (.d (.pin [(dl zh v210.1 v210.2)]))), (23, 5, 32, .q (xi (v210.1.length : Int))), (23, 5, 35, .q (xb true))] [] (ob (o_b h201) (ob (o_b h202) (ob (o_b h203) (ob (o_b h204) (ob (o_b h205) (ob (zB k 140 252 _ h207) (ob (o_b h208) (ob (zp (eL zh) v11.1.1) (ob (o_b h209) (ob (o_ia (e := (eL zh)) 1 h211 rfl) (ob (zp zh v210.1) (ob (o_b h212) ob0)))))))))))) (by kernel_rfl))
        ·refine zj g10 (fun v213 h214 g11 => ?_)
         refine zj g11 (fun v215 h216 g12 => ?_)
         refine zj g12 (fun v217 h218 g13 => ?_)
         refine zm g13 (fun h219 g14 => ?_) (fun h219 g14 => ?_)
         ·exact zy (g := fun r => (Ex.nor, zF v3 v7 v11 v21 r)) g14 (zqe [(23, 5, 2, .q (xb false)), (23, 5, 6, .q (xb false)), (23, 5, 10, .q (xb false)), (23, 5, 14, .q (xb false)), (23, 5, 18, .q (xb false)), (23, 5, 20, .c (.agg [(di v206.Low), (di v206.High)])), (23, 5, 23, .q (xb false)), (23, 5, 25, .q (xi (v11.1.1.length : Int))), (23, 5, 28, .q (xb false)), (23, 5, 30, .q (.d (.pin [(dl zh v210.1 v210.2)]))), (23, 5, 32, .q (xi (v210.1.length : Int))), (23, 5, 35, .q (xb false)), (23, 5, 37, .q (.d (.pin [(dl zh v213.1 v213.2)]))), (23, 5, 39, .q (.d (.pin [(di v215.Shelf), (di v215.Many)]))), (23, 5, 41, .c (.agg [(di v217.Shelf), (di v217.Many)])), (23, 5, 44, .q (xb true))] [] (ob (o_b h201) (ob (o_b h202) (ob (o_b h203) (ob (o_b h204) (ob (o_b h205) (ob (zB k 140 252 _ h207) (ob (o_b h208) (ob (zp (eL zh) v11.1.1) (ob (o_b h209) (ob (o_ia (e := (eL zh)) 1 h211 rfl) (ob (zp zh v210.1) (ob (o_b h212) (ob (o_ia (e := (eL zh)) 1 h214 rfl) (ob (o_ia (e := zh) 2 h216 rfl) (ob (zx k 0 1 _ h218) (ob (o_b h219) ob0)))))))))))))))) (by kernel_rfl))
         ·exact zy (g := fun r => (Ex.nor, zF v3 v7 v11 v21 r)) g14 (zqe [(23, 5, 2, .q (xb false)), (23, 5, 6, .q (xb false)), (23, 5, 10, .q (xb false)), (23, 5, 14, .q (xb false)), (23, 5, 18, .q (xb false)), (23, 5, 20, .c (.agg [(di v206.Low), (di v206.High)])), (23, 5, 23, .q (xb false)), (23, 5, 25, .q (xi (v11.1.1.length : Int))), (23, 5, 28, .q (xb false)), (23, 5, 30, .q (.d (.pin [(dl zh v210.1 v210.2)]))), (23, 5, 32, .q (xi (v210.1.length : Int))), (23, 5, 35, .q (xb false)), (23, 5, 37, .q (.d (.pin [(dl zh v213.1 v213.2)]))), (23, 5, 39, .q (.d (.pin [(di v215.Shelf), (di v215.Many)]))), (23, 5, 41, .c (.agg [(di v217.Shelf), (di v217.Many)])), (23, 5, 44, .q (xb false))] [] (ob (o_b h201) (ob (o_b h202) (ob (o_b h203) (ob (o_b h204) (ob (o_b h205) (ob (zB k 140 252 _ h207) (ob (o_b h208) (ob (zp (eL zh) v11.1.1) (ob (o_b h209) (ob (o_ia (e := (eL zh)) 1 h211 rfl) (ob (zp zh v210.1) (ob (o_b h212) (ob (o_ia (e := (eL zh)) 1 h214 rfl) (ob (o_ia (e := zh) 2 h216 rfl) (ob (zx k 0 1 _ h218) (ob (o_b h219) ob0)))))))))))))))) (by kernel_rfl))
theorem zwc (k : Nat) (r : Bool) (h : zvb k = some r) : zD TE (ev TE) 23 [] = some (zgb r) := by
 unfold zvb at h
 refine zj h (fun v1 h2 g1 => ?_)
 refine zj g1 (fun v3 h4 g2 => ?_)
 refine zj g2 (fun v5 h6 g3 => ?_)
 refine zj g3 (fun v7 h8 g4 => ?_)
 refine zj g4 (fun v9 h10 g5 => ?_)
 refine zj g5 (fun v11 h12 g6 => ?_)
 refine zj g6 (fun v13 h14 g7 => ?_)
 refine zj g7 (fun v15 h16 g8 => ?_)
 refine zj g8 (fun v17 h18 g9 => ?_)
 refine zj g9 (fun v19 h20 g10 => ?_)
 refine zj g10 (fun v21 h22 g11 => ?_)
 refine zj g11 (fun v23 h24 g12 => ?_)
 refine zm g12 (fun h25 g13 => ?_) (fun h25 g13 => ?_)
 ·subst h25
  exact zC (g := zgb) g13 (zqc [(23, 1, 0, .c (.agg (za v1))), (23, 1, 1, .c (.tup [(di v3.1), (di v3.2)])), (23, 2, 0, .c (.agg (za v5))), (23, 2, 1, .c (.tup [(.agg [(di v7.1.Low), (di v7.1.High)]), (di v7.2)])), (23, 3, 0, .c (.agg (za v9))), (23, 3, 1, .c (.tup [(dl (eL zh) v11.1.1 v11.1.2), (di v11.2)])), (23, 4, 0, .c (.agg (za v13))), (23, 4, 1, .c (.agg [(di v15.Shelf), (di v15.Many)])), (23, 4, 2, .c (.agg [(di v17.Shelf), (di v17.Many)])), (23, 4, 4, .c (.agg [(di v19.Shelf), (di v19.Many)])), (23, 4, 7, .c (.tup [(db v21.1), (di v21.2)]))] [(23, 1000005, (.nor, zF v3 v7 v11 v21 true))] (ob (zn k _ h2) (ob (zyc k v1 3 _ h4) (ob (zn k _ h6) (ob (zBc k v5 0 _ h8) (ob (zn k _ h10) (ob (zAc k v9 2 _ h12) (ob (zn k _ h14) (ob (zx k 0 1 _ h16) (ob (zx k 2 3 _ h18) (ob (zx k 0 1 _ h20) (ob (zXb k v13 0 ([([v15, v17], .ex), ([v19], .ex)], .ex) _ h22) (ob (zbb k v3 v7 v11 v21 _ h24) ob0)))))))))))) (by kernel_rfl))
 ·subst h25
  refine zj g13 (fun v26 h27 g14 => ?_)
  refine zj g14 (fun v28 h29 g15 => ?_)
  refine zj g15 (fun v30 h31 g16 => ?_)
  refine zj g16 (fun v32 h33 g17 => ?_)
  refine zj g17 (fun v34 h35 g18 => ?_)
  refine zj g18 (fun v36 h37 g19 => ?_)
  refine zj g19 (fun v38 h39 g20 => ?_)
  refine zj g20 (fun v40 h41 g21 => ?_)
  refine zm g21 (fun h42 g22 => ?_) (fun h42 g22 => ?_)
  ·refine zm g22 (fun h43 g23 => ?_) (fun h43 g23 => ?_)
   ·refine zm g23 (fun h44 g24 => ?_) (fun h44 g24 => ?_)
    ·refine zm g24 (fun h45 g25 => ?_) (fun h45 g25 => ?_)
     ·refine zj g25 (fun v46 h47 g26 => ?_)
      refine zj g26 (fun v48 h49 g27 => ?_)
      refine zj g27 (fun v50 h51 g28 => ?_)
      refine zj g28 (fun v52 h53 g29 => ?_)
      refine zj g29 (fun v54 h55 g30 => ?_)
      refine zm g30 (fun h56 g31 => ?_) (fun h56 g31 => ?_)
      ·refine zm g31 (fun h57 g32 => ?_) (fun h57 g32 => ?_)
       ·refine zj g32 (fun v58 h59 g33 => ?_)
        refine zm g33 (fun h60 g34 => ?_) (fun h60 g34 => ?_)
        ·exact zC (g := zgb) g34 (zqc [(23, 1, 0, .c (.agg (za v1))), (23, 1, 1, .c (.tup [(di v3.1), (di v3.2)])), (23, 2, 0, .c (.agg (za v5))), (23, 2, 1, .c (.tup [(.agg [(di v7.1.Low), (di v7.1.High)]), (di v7.2)])), (23, 3, 0, .c (.agg (za v9))), (23, 3, 1, .c (.tup [(dl (eL zh) v11.1.1 v11.1.2), (di v11.2)])), (23, 4, 0, .c (.agg (za v13))), (23, 4, 1, .c (.agg [(di v15.Shelf), (di v15.Many)])), (23, 4, 2, .c (.agg [(di v17.Shelf), (di v17.Many)])), (23, 4, 4, .c (.agg [(di v19.Shelf), (di v19.Many)])), (23, 4, 7, .c (.tup [(db v21.1), (di v21.2)])), (23, 7, 0, .c (.agg (za v26))), (23, 7, 4, .c (.tup [(dl zr v28.1.1 v28.1.2), (di v28.2)])), (23, 8, 0, .c (.agg (za v30))), (23, 8, 1, .c (.tup [(dl (eL eI) v32.1.1 v32.1.2), (di v32.2)])), (23, 9, 0, .c (.agg (za v34))), (23, 9, 1, .c (.tup [(dl eI v36.1.1 v36.1.2), (di v36.2)])), (23, 10, 0, .c (.agg (za v38))), (23, 10, 1, .c (.tup [(di v40.1), (di v40.2)])), (23, 11, 2, .q (xb true)), (23, 11, 6, .q (xb true)), (23, 11, 10, .q (xb true)), (23, 11, 14, .q (xb true)), (23, 11, 16, .c (.agg [(di v46.Low), (di v46.High)])), (23, 11, 17, .c (.agg [(di v48.Low), (di v48.High)])), (23, 11, 18, .c (.agg [(di v50.Low), (di v50.High)])), (23, 11, 19, .c (.agg [(di v52.Low), (di v52.High)])), (23, 11, 21, .c (db v54)), (23, 11, 23, .q (xb true)), (23, 11, 25, .q (xi (v32.1.1.length : Int))), (23, 11, 28, .q (xb true)), (23, 11, 31, .c (db v58)), (23, 11, 33, .q (xb true))] [(23, 1000005, (.nor, zF v3 v7 v11 v21 false))] (ob (zn k _ h2) (ob (zyc k v1 3 _ h4) (ob (zn k _ h6) (ob (zBc k v5 0 _ h8) (ob (zn k _ h10) (ob (zAc k v9 2 _ h12) (ob (zn k _ h14) (ob (zx k 0 1 _ h16) (ob (zx k 2 3 _ h18) (ob (zx k 0 1 _ h20) (ob (zXb k v13 0 ([([v15, v17], .ex), ([v19], .ex)], .ex) _ h22) (ob (zbb k v3 v7 v11 v21 _ h24) (ob (zn k _ h27) (ob (zhd k v26 ([([2, 1], .ex), ([0, 3], .ex)], .ex) _ h29) (ob (zn k _ h31) (ob (zJ k v30 _ h33) (ob (zn k _ h35) (ob (zcd k v34 1 _ h37) (ob (zn k _ h39) (ob (zab k v38 3 _ h41) (ob (o_b h42) (ob (o_b h43) (ob (o_b h44) (ob (o_b h45) (ob (zB k 140 252 _ h47) (ob (zB k 95 188 _ h49) (ob (zB k 25 48 _ h51) (ob (zB k 365 654 _ h53) (ob (zkc k v28.1 ([v46, v48, v50, v52], .ex) _ h55) (ob (o_b h56) (ob (zp (eL eI) v32.1.1) (ob (o_b h57) (ob (zqg k v36.1 ([0], .ex) _ h59) (ob (o_b h60) ob0)))))))))))))))))))))))))))))))))) (by kernel_rfl))
        ·exact zC (g := zgb) g34 (zqc [(23, 1, 0, .c (.agg (za v1))), (23, 1, 1, .c (.tup [(di v3.1), (di v3.2)])), (23, 2, 0, .c (.agg (za v5))), (23, 2, 1, .c (.tup [(.agg [(di v7.1.Low), (di v7.1.High)]), (di v7.2)])), (23, 3, 0, .c (.agg (za v9))), (23, 3, 1, .c (.tup [(dl (eL zh) v11.1.1 v11.1.2), (di v11.2)])), (23, 4, 0, .c (.agg (za v13))), (23, 4, 1, .c (.agg [(di v15.Shelf), (di v15.Many)])), (23, 4, 2, .c (.agg [(di v17.Shelf), (di v17.Many)])), (23, 4, 4, .c (.agg [(di v19.Shelf), (di v19.Many)])), (23, 4, 7, .c (.tup [(db v21.1), (di v21.2)])), (23, 7, 0, .c (.agg (za v26))), (23, 7, 4, .c (.tup [(dl zr v28.1.1 v28.1.2), (di v28.2)])), (23, 8, 0, .c (.agg (za v30))), (23, 8, 1, .c (.tup [(dl (eL eI) v32.1.1 v32.1.2), (di v32.2)])), (23, 9, 0, .c (.agg (za v34))), (23, 9, 1, .c (.tup [(dl eI v36.1.1 v36.1.2), (di v36.2)])), (23, 10, 0, .c (.agg (za v38))), (23, 10, 1, .c (.tup [(di v40.1), (di v40.2)])), (23, 11, 2, .q (xb true)), (23, 11, 6, .q (xb true)), (23, 11, 10, .q (xb true)), (23, 11, 14, .q (xb true)), (23, 11, 16, .c (.agg [(di v46.Low), (di v46.High)])), (23, 11, 17, .c (.agg [(di v48.Low), (di v48.High)])), (23, 11, 18, .c (.agg [(di v50.Low), (di v50.High)])), (23, 11, 19, .c (.agg [(di v52.Low), (di v52.High)])), (23, 11, 21, .c (db v54)), (23, 11, 23, .q (xb true)), (23, 11, 25, .q (xi (v32.1.1.length : Int))), (23, 11, 28, .q (xb true)), (23, 11, 31, .c (db v58)), (23, 11, 33, .q (xb false))] [(23, 1000005, (.nor, zF v3 v7 v11 v21 false))] (ob (zn k _ h2) (ob (zyc k v1 3 _ h4) (ob (zn k _ h6) (ob (zBc k v5 0 _ h8) (ob (zn k _ h10) (ob (zAc k v9 2 _ h12) (ob (zn k _ h14) (ob (zx k 0 1 _ h16) (ob (zx k 2 3 _ h18) (ob (zx k 0 1 _ h20) (ob (zXb k v13 0 ([([v15, v17], .ex), ([v19], .ex)], .ex) _ h22) (ob (zbb k v3 v7 v11 v21 _ h24) (ob (zn k _ h27) (ob (zhd k v26 ([([2, 1], .ex), ([0, 3], .ex)], .ex) _ h29) (ob (zn k _ h31) (ob (zJ k v30 _ h33) (ob (zn k _ h35) (ob (zcd k v34 1 _ h37) (ob (zn k _ h39) (ob (zab k v38 3 _ h41) (ob (o_b h42) (ob (o_b h43) (ob (o_b h44) (ob (o_b h45) (ob (zB k 140 252 _ h47) (ob (zB k 95 188 _ h49) (ob (zB k 25 48 _ h51) (ob (zB k 365 654 _ h53) (ob (zkc k v28.1 ([v46, v48, v50, v52], .ex) _ h55) (ob (o_b h56) (ob (zp (eL eI) v32.1.1) (ob (o_b h57) (ob (zqg k v36.1 ([0], .ex) _ h59) (ob (o_b h60) ob0)))))))))))))))))))))))))))))))))) (by kernel_rfl))
       ·exact zC (g := zgb) g32 (zqc [(23, 1, 0, .c (.agg (za v1))), (23, 1, 1, .c (.tup [(di v3.1), (di v3.2)])), (23, 2, 0, .c (.agg (za v5))), (23, 2, 1, .c (.tup [(.agg [(di v7.1.Low), (di v7.1.High)]), (di v7.2)])), (23, 3, 0, .c (.agg (za v9))), (23, 3, 1, .c (.tup [(dl (eL zh) v11.1.1 v11.1.2), (di v11.2)])), (23, 4, 0, .c (.agg (za v13))), (23, 4, 1, .c (.agg [(di v15.Shelf), (di v15.Many)])), (23, 4, 2, .c (.agg [(di v17.Shelf), (di v17.Many)])), (23, 4, 4, .c (.agg [(di v19.Shelf), (di v19.Many)])), (23, 4, 7, .c (.tup [(db v21.1), (di v21.2)])), (23, 7, 0, .c (.agg (za v26))), (23, 7, 4, .c (.tup [(dl zr v28.1.1 v28.1.2), (di v28.2)])), (23, 8, 0, .c (.agg (za v30))), (23, 8, 1, .c (.tup [(dl (eL eI) v32.1.1 v32.1.2), (di v32.2)])), (23, 9, 0, .c (.agg (za v34))), (23, 9, 1, .c (.tup [(dl eI v36.1.1 v36.1.2), (di v36.2)])), (23, 10, 0, .c (.agg (za v38))), (23, 10, 1, .c (.tup [(di v40.1), (di v40.2)])), (23, 11, 2, .q (xb true)), (23, 11, 6, .q (xb true)), (23, 11, 10, .q (xb true)), (23, 11, 14, .q (xb true)), (23, 11, 16, .c (.agg [(di v46.Low), (di v46.High)])), (23, 11, 17, .c (.agg [(di v48.Low), (di v48.High)])), (23, 11, 18, .c (.agg [(di v50.Low), (di v50.High)])), (23, 11, 19, .c (.agg [(di v52.Low), (di v52.High)])), (23, 11, 21, .c (db v54)), (23, 11, 23, .q (xb true)), (23, 11, 25, .q (xi (v32.1.1.length : Int))), (23, 11, 28, .q (xb false))] [(23, 1000005, (.nor, zF v3 v7 v11 v21 false))] (ob (zn k _ h2) (ob (zyc k v1 3 _ h4) (ob (zn k _ h6) (ob (zBc k v5 0 _ h8) (ob (zn k _ h10) (ob (zAc k v9 2 _ h12) (ob (zn k _ h14) (ob (zx k 0 1 _ h16) (ob (zx k 2 3 _ h18) (ob (zx k 0 1 _ h20) (ob (zXb k v13 0 ([([v15, v17], .ex), ([v19], .ex)], .ex) _ h22) (ob (zbb k v3 v7 v11 v21 _ h24) (ob (zn k _ h27) (ob (zhd k v26 ([([2, 1], .ex), ([0, 3], .ex)], .ex) _ h29) (ob (zn k _ h31) (ob (zJ k v30 _ h33) (ob (zn k _ h35) (ob (zcd k v34 1 _ h37) (ob (zn k _ h39) (ob (zab k v38 3 _ h41) (ob (o_b h42) (ob (o_b h43) (ob (o_b h44) (ob (o_b h45) (ob (zB k 140 252 _ h47) (ob (zB k 95 188 _ h49) (ob (zB k 25 48 _ h51) (ob (zB k 365 654 _ h53) (ob (zkc k v28.1 ([v46, v48, v50, v52], .ex) _ h55) (ob (o_b h56) (ob (zp (eL eI) v32.1.1) (ob (o_b h57) ob0)))))))))))))))))))))))))))))))) (by kernel_rfl))
      ·exact zC (g := zgb) g31 (zqc [(23, 1, 0, .c (.agg (za v1))), (23, 1, 1, .c (.tup [(di v3.1), (di v3.2)])), (23, 2, 0, .c (.agg (za v5))), (23, 2, 1, .c (.tup [(.agg [(di v7.1.Low), (di v7.1.High)]), (di v7.2)])), (23, 3, 0, .c (.agg (za v9))), (23, 3, 1, .c (.tup [(dl (eL zh) v11.1.1 v11.1.2), (di v11.2)])), (23, 4, 0, .c (.agg (za v13))), (23, 4, 1, .c (.agg [(di v15.Shelf), (di v15.Many)])), (23, 4, 2, .c (.agg [(di v17.Shelf), (di v17.Many)])), (23, 4, 4, .c (.agg [(di v19.Shelf), (di v19.Many)])), (23, 4, 7, .c (.tup [(db v21.1), (di v21.2)])), (23, 7, 0, .c (.agg (za v26))), (23, 7, 4, .c (.tup [(dl zr v28.1.1 v28.1.2), (di v28.2)])), (23, 8, 0, .c (.agg (za v30))), (23, 8, 1, .c (.tup [(dl (eL eI) v32.1.1 v32.1.2), (di v32.2)])), (23, 9, 0, .c (.agg (za v34))), (23, 9, 1, .c (.tup [(dl eI v36.1.1 v36.1.2), (di v36.2)])), (23, 10, 0, .c (.agg (za v38))), (23, 10, 1, .c (.tup [(di v40.1), (di v40.2)])), (23, 11, 2, .q (xb true)), (23, 11, 6, .q (xb true)), (23, 11, 10, .q (xb true)), (23, 11, 14, .q (xb true)), (23, 11, 16, .c (.agg [(di v46.Low), (di v46.High)])), (23, 11, 17, .c (.agg [(di v48.Low), (di v48.High)])), (23, 11, 18, .c (.agg [(di v50.Low), (di v50.High)])), (23, 11, 19, .c (.agg [(di v52.Low), (di v52.High)])), (23, 11, 21, .c (db v54)), (23, 11, 23, .q (xb false))] [(23, 1000005, (.nor, zF v3 v7 v11 v21 false))] (ob (zn k _ h2) (ob (zyc k v1 3 _ h4) (ob (zn k _ h6) (ob (zBc k v5 0 _ h8) (ob (zn k _ h10) (ob (zAc k v9 2 _ h12) (ob (zn k _ h14) (ob (zx k 0 1 _ h16) (ob (zx k 2 3 _ h18) (ob (zx k 0 1 _ h20) (ob (zXb k v13 0 ([([v15, v17], .ex), ([v19], .ex)], .ex) _ h22) (ob (zbb k v3 v7 v11 v21 _ h24) (ob (zn k _ h27) (ob (zhd k v26 ([([2, 1], .ex), ([0, 3], .ex)], .ex) _ h29) (ob (zn k _ h31) (ob (zJ k v30 _ h33) (ob (zn k _ h35) (ob (zcd k v34 1 _ h37) (ob (zn k _ h39) (ob (zab k v38 3 _ h41) (ob (o_b h42) (ob (o_b h43) (ob (o_b h44) (ob (o_b h45) (ob (zB k 140 252 _ h47) (ob (zB k 95 188 _ h49) (ob (zB k 25 48 _ h51) (ob (zB k 365 654 _ h53) (ob (zkc k v28.1 ([v46, v48, v50, v52], .ex) _ h55) (ob (o_b h56) ob0)))))))))))))))))))))))))))))) (by kernel_rfl))
     ·exact zC (g := zgb) g25 (zqc [(23, 1, 0, .c (.agg (za v1))), (23, 1, 1, .c (.tup [(di v3.1), (di v3.2)])), (23, 2, 0, .c (.agg (za v5))), (23, 2, 1, .c (.tup [(.agg [(di v7.1.Low), (di v7.1.High)]), (di v7.2)])), (23, 3, 0, .c (.agg (za v9))), (23, 3, 1, .c (.tup [(dl (eL zh) v11.1.1 v11.1.2), (di v11.2)])), (23, 4, 0, .c (.agg (za v13))), (23, 4, 1, .c (.agg [(di v15.Shelf), (di v15.Many)])), (23, 4, 2, .c (.agg [(di v17.Shelf), (di v17.Many)])), (23, 4, 4, .c (.agg [(di v19.Shelf), (di v19.Many)])), (23, 4, 7, .c (.tup [(db v21.1), (di v21.2)])), (23, 7, 0, .c (.agg (za v26))), (23, 7, 4, .c (.tup [(dl zr v28.1.1 v28.1.2), (di v28.2)])), (23, 8, 0, .c (.agg (za v30))), (23, 8, 1, .c (.tup [(dl (eL eI) v32.1.1 v32.1.2), (di v32.2)])), (23, 9, 0, .c (.agg (za v34))), (23, 9, 1, .c (.tup [(dl eI v36.1.1 v36.1.2), (di v36.2)])), (23, 10, 0, .c (.agg (za v38))), (23, 10, 1, .c (.tup [(di v40.1), (di v40.2)])), (23, 11, 2, .q (xb true)), (23, 11, 6, .q (xb true)), (23, 11, 10, .q (xb true)), (23, 11, 14, .q (xb false))] [(23, 1000005, (.nor, zF v3 v7 v11 v21 false))] (ob (zn k _ h2) (ob (zyc k v1 3 _ h4) (ob (zn k _ h6) (ob (zBc k v5 0 _ h8) (ob (zn k _ h10) (ob (zAc k v9 2 _ h12) (ob (zn k _ h14) (ob (zx k 0 1 _ h16) (ob (zx k 2 3 _ h18) (ob (zx k 0 1 _ h20) (ob (zXb k v13 0 ([([v15, v17], .ex), ([v19], .ex)], .ex) _ h22) (ob (zbb k v3 v7 v11 v21 _ h24) (ob (zn k _ h27) (ob (zhd k v26 ([([2, 1], .ex), ([0, 3], .ex)], .ex) _ h29) (ob (zn k _ h31) (ob (zJ k v30 _ h33) (ob (zn k _ h35) (ob (zcd k v34 1 _ h37) (ob (zn k _ h39) (ob (zab k v38 3 _ h41) (ob (o_b h42) (ob (o_b h43) (ob (o_b h44) (ob (o_b h45) ob0)))))))))))))))))))))))) (by kernel_rfl))
    ·exact zC (g := zgb) g24 (zqc [(23, 1, 0, .c (.agg (za v1))), (23, 1, 1, .c (.tup [(di v3.1), (di v3.2)])), (23, 2, 0, .c (.agg (za v5))), (23, 2, 1, .c (.tup [(.agg [(di v7.1.Low), (di v7.1.High)]), (di v7.2)])), (23, 3, 0, .c (.agg (za v9))), (23, 3, 1, .c (.tup [(dl (eL zh) v11.1.1 v11.1.2), (di v11.2)])), (23, 4, 0, .c (.agg (za v13))), (23, 4, 1, .c (.agg [(di v15.Shelf), (di v15.Many)])), (23, 4, 2, .c (.agg [(di v17.Shelf), (di v17.Many)])), (23, 4, 4, .c (.agg [(di v19.Shelf), (di v19.Many)])), (23, 4, 7, .c (.tup [(db v21.1), (di v21.2)])), (23, 7, 0, .c (.agg (za v26))), (23, 7, 4, .c (.tup [(dl zr v28.1.1 v28.1.2), (di v28.2)])), (23, 8, 0, .c (.agg (za v30))), (23, 8, 1, .c (.tup [(dl (eL eI) v32.1.1 v32.1.2), (di v32.2)])), (23, 9, 0, .c (.agg (za v34))), (23, 9, 1, .c (.tup [(dl eI v36.1.1 v36.1.2), (di v36.2)])), (23, 10, 0, .c (.agg (za v38))), (23, 10, 1, .c (.tup [(di v40.1), (di v40.2)])), (23, 11, 2, .q (xb true)), (23, 11, 6, .q (xb true)), (23, 11, 10, .q (xb false))] [(23, 1000005, (.nor, zF v3 v7 v11 v21 false))] (ob (zn k _ h2) (ob (zyc k v1 3 _ h4) (ob (zn k _ h6) (ob (zBc k v5 0 _ h8) (ob (zn k _ h10) (ob (zAc k v9 2 _ h12) (ob (zn k _ h14) (ob (zx k 0 1 _ h16) (ob (zx k 2 3 _ h18) (ob (zx k 0 1 _ h20) (ob (zXb k v13 0 ([([v15, v17], .ex), ([v19], .ex)], .ex) _ h22) (ob (zbb k v3 v7 v11 v21 _ h24) (ob (zn k _ h27) (ob (zhd k v26 ([([2, 1], .ex), ([0, 3], .ex)], .ex) _ h29) (ob (zn k _ h31) (ob (zJ k v30 _ h33) (ob (zn k _ h35) (ob (zcd k v34 1 _ h37) (ob (zn k _ h39) (ob (zab k v38 3 _ h41) (ob (o_b h42) (ob (o_b h43) (ob (o_b h44) ob0))))))))))))))))))))))) (by kernel_rfl))
   ·exact zC (g := zgb) g23 (zqc [(23, 1, 0, .c (.agg (za v1))), (23, 1, 1, .c (.tup [(di v3.1), (di v3.2)])), (23, 2, 0, .c (.agg (za v5))), (23, 2, 1, .c (.tup [(.agg [(di v7.1.Low), (di v7.1.High)]), (di v7.2)])), (23, 3, 0, .c (.agg (za v9))), (23, 3, 1, .c (.tup [(dl (eL zh) v11.1.1 v11.1.2), (di v11.2)])), (23, 4, 0, .c (.agg (za v13))), (23, 4, 1, .c (.agg [(di v15.Shelf), (di v15.Many)])), (23, 4, 2, .c (.agg [(di v17.Shelf), (di v17.Many)])), (23, 4, 4, .c (.agg [(di v19.Shelf), (di v19.Many)])), (23, 4, 7, .c (.tup [(db v21.1), (di v21.2)])), (23, 7, 0, .c (.agg (za v26))), (23, 7, 4, .c (.tup [(dl zr v28.1.1 v28.1.2), (di v28.2)])), (23, 8, 0, .c (.agg (za v30))), (23, 8, 1, .c (.tup [(dl (eL eI) v32.1.1 v32.1.2), (di v32.2)])), (23, 9, 0, .c (.agg (za v34))), (23, 9, 1, .c (.tup [(dl eI v36.1.1 v36.1.2), (di v36.2)])), (23, 10, 0, .c (.agg (za v38))), (23, 10, 1, .c (.tup [(di v40.1), (di v40.2)])), (23, 11, 2, .q (xb true)), (23, 11, 6, .q (xb false))] [(23, 1000005, (.nor, zF v3 v7 v11 v21 false))] (ob (zn k _ h2) (ob (zyc k v1 3 _ h4) (ob (zn k _ h6) (ob (zBc k v5 0 _ h8) (ob (zn k _ h10) (ob (zAc k v9 2 _ h12) (ob (zn k _ h14) (ob (zx k 0 1 _ h16) (ob (zx k 2 3 _ h18) (ob (zx k 0 1 _ h20) (ob (zXb k v13 0 ([([v15, v17], .ex), ([v19], .ex)], .ex) _ h22) (ob (zbb k v3 v7 v11 v21 _ h24) (ob (zn k _ h27) (ob (zhd k v26 ([([2, 1], .ex), ([0, 3], .ex)], .ex) _ h29) (ob (zn k _ h31) (ob (zJ k v30 _ h33) (ob (zn k _ h35) (ob (zcd k v34 1 _ h37) (ob (zn k _ h39) (ob (zab k v38 3 _ h41) (ob (o_b h42) (ob (o_b h43) ob0)))))))))))))))))))))) (by kernel_rfl))
  ·exact zC (g := zgb) g22 (zqc [(23, 1, 0, .c (.agg (za v1))), (23, 1, 1, .c (.tup [(di v3.1), (di v3.2)])), (23, 2, 0, .c (.agg (za v5))), (23, 2, 1, .c (.tup [(.agg [(di v7.1.Low), (di v7.1.High)]), (di v7.2)])), (23, 3, 0, .c (.agg (za v9))), (23, 3, 1, .c (.tup [(dl (eL zh) v11.1.1 v11.1.2), (di v11.2)])), (23, 4, 0, .c (.agg (za v13))), (23, 4, 1, .c (.agg [(di v15.Shelf), (di v15.Many)])), (23, 4, 2, .c (.agg [(di v17.Shelf), (di v17.Many)])), (23, 4, 4, .c (.agg [(di v19.Shelf), (di v19.Many)])), (23, 4, 7, .c (.tup [(db v21.1), (di v21.2)])), (23, 7, 0, .c (.agg (za v26))), (23, 7, 4, .c (.tup [(dl zr v28.1.1 v28.1.2), (di v28.2)])), (23, 8, 0, .c (.agg (za v30))), (23, 8, 1, .c (.tup [(dl (eL eI) v32.1.1 v32.1.2), (di v32.2)])), (23, 9, 0, .c (.agg (za v34))), (23, 9, 1, .c (.tup [(dl eI v36.1.1 v36.1.2), (di v36.2)])), (23, 10, 0, .c (.agg (za v38))), (23, 10, 1, .c (.tup [(di v40.1), (di v40.2)])), (23, 11, 2, .q (xb false))] [(23, 1000005, (.nor, zF v3 v7 v11 v21 false))] (ob (zn k _ h2) (ob (zyc k v1 3 _ h4) (ob (zn k _ h6) (ob (zBc k v5 0 _ h8) (ob (zn k _ h10) (ob (zAc k v9 2 _ h12) (ob (zn k _ h14) (ob (zx k 0 1 _ h16) (ob (zx k 2 3 _ h18) (ob (zx k 0 1 _ h20) (ob (zXb k v13 0 ([([v15, v17], .ex), ([v19], .ex)], .ex) _ h22) (ob (zbb k v3 v7 v11 v21 _ h24) (ob (zn k _ h27) (ob (zhd k v26 ([([2, 1], .ex), ([0, 3], .ex)], .ex) _ h29) (ob (zn k _ h31) (ob (zJ k v30 _ h33) (ob (zn k _ h35) (ob (zcd k v34 1 _ h37) (ob (zn k _ h39) (ob (zab k v38 3 _ h41) (ob (o_b h42) ob0))))))))))))))))))))) (by kernel_rfl))
noncomputable def z1w (p0 p1 : Int) (r : zt1) : TM := [(0, (xi p0)), (1, (xi p1)), (4, (xi 0)), (7, (xb false)), (5, (xi r.1)), (12, (xb r.2))]
noncomputable def zZc (p0 p1 : Int) (cb : Bool) (r : zt1) : St := ⟨(z1w p0 p1 r), ⟨[], []⟩, []⟩
noncomputable def zSx (p0 p1 : Int) (cb : Bool) : TM := [(0, (xi p0)), (1, (xi p1)), (4, (xi 0)), (7, (xb false)), (5, (xi (p0.tmod p1))), (12, (xb cb))]
theorem znk (k : Nat) (p0 p1 : Int) (cb : Bool) (r : zt1) (h : zDc k p0 p1 cb = some r) : ev TE 36 (cnd TE 36 12) ⟨(zSx p0 p1 cb), ⟨[], []⟩, []⟩ = some (.nor, zZc p0 p1 cb r) := by
 unfold zDc at h
 refine zm h (fun h201 g1 => ?_) (fun h201 g1 => ?_)
 ·subst h201
  exact zy (g := fun r => (Ex.nor, zZc p0 p1 true r)) g1 (zqe [] [] ob0 (by kernel_rfl))
 ·subst h201
  exact zy (g := fun r => (Ex.nor, zZc p0 p1 false r)) g1 (zqe [] [] ob0 (by kernel_rfl))
theorem z8 (k : Nat) (p0 p1 r : Int) (h : zBb k p0 p1 = some r) : zD TE (ev TE) 36 [(di p0), (di p1)] = some (z4e r) := by
 unfold zBb at h
 refine zm h (fun h1 g1 => ?_) (fun h1 g1 => ?_)
 ·exact zC (g := z4e) g1 (zqc [(36, 1, 1, .q (xb true))] [] (ob (o_b h1) ob0) (by kernel_rfl))
 ·refine zm g1 (fun h2 g2 => ?_) (fun h2 g2 => ?_)
  ·cases g2
  ·refine zj g2 (fun v3 h4 g3 => ?_)
   exact zC (g := z4e) g3 (zqc [(36, 1, 1, .q (xb false)), (36, 3, 2, .q (xi (p0.tmod p1)))] [(36, 2000012, (.nor, zZc p0 p1 (decide ((p0.tmod p1) < 0)) v3))] (ob (o_b h1) (ob (zhx (x := p0) .i64 h2) (ob (znk k p0 p1 (decide ((p0.tmod p1) < 0)) _ h4) ob0))) (by kernel_rfl))
theorem z5b (k : Nat) (p0 : zq) (p1 r : Int) (h : zdc k p0 p1 = some r) : zD TE (ev TE) 49 [(.agg [(di p0.Low), (di p0.High)]), (di p1)] = some (z0d r) := by
 unfold zdc at h
 refine zm h (fun h1 g1 => ?_) (fun h1 g1 => ?_)
 ·exact zC (g := z0d) g1 (zqc [(49, 1, 4, .q (xb true))] [] (ob (o_b h1) ob0) (by kernel_rfl))
 ·refine zm g1 (fun h2 g2 => ?_) (fun h2 g2 => ?_)
  ·exact zC (g := z0d) g2 (zqc [(49, 1, 4, .q (xb false)), (49, 4, 1, .q (xb true))] [] (ob (o_b h1) (ob (o_b h2) ob0)) (by kernel_rfl))
  ·refine zj g2 (fun v3 h4 g3 => ?_)
   exact zC (g := z0d) g3 (zqc [(49, 1, 4, .q (xb false)), (49, 4, 1, .q (xb false)), (49, 6, 4, .c (di v3))] [] (ob (o_b h1) (ob (o_b h2) (ob (z8 k p1 (w64 ((w64 (p0.High - p0.Low)) + 1)) _ h4) ob0))) (by kernel_rfl))
theorem zdb (k : Nat) (p0 : zb) (p1 p2 : Int) (r : zb) (h : zoc k p0 p1 p2 = some r) : zD TE (ev TE) 48 [(.agg (za p0)), (di p1), (di p2)] = some (zeh r) := by
 unfold zoc at h
 refine z9 h (fun h1 g1 => ?_)
 refine zj g1 (fun v2 h3 g2 => ?_)
 refine zj g2 (fun v4 h5 g3 => ?_)
 exact zC (g := zeh) g3 (zqr [(48, 2, 3, .ns (p0.Slips.1.map zi) p0.Slips.1.length), (48, 3, 6, .q (.d (.pin [(dl zh v2.Lines.1 v2.Lines.2), (di v2.Until)]))), (48, 3, 11, .q (.rp 0 12 p0.Slips.1.length p1.toNat 0)), (48, 3, 12, .rs (rowO false 2 zi (p0.Slips.1.set p1.toNat (⟨v2.Lines, p2⟩ : zk)) true)), (48, 3, 999, .nm [] [(7, 5, (p0.Slips.1.set p1.toNat (⟨v2.Lines, p2⟩ : zk)).length)])] [] [(.agg [(dl eI p0.Far.1 p0.Far.2), (di p0.Step.Low), (di p0.Step.High), (dl zr p0.Pick.1 p0.Pick.2), (di p0.Carry), (dl zi (p0.Slips.1.set p1.toNat (⟨v2.Lines, p2⟩ : zk)) (rcap false (p0.Slips.1.set p1.toNat (⟨v2.Lines, p2⟩ : zk))))])] (ob (zvv p0.Slips.1 zi) (ob (o_ns (P := TE.P) (φ := fun _ _ => none) (T := 26) (q := (2, [(.sl [] .nil), (di 0)])) (c := p0.Slips.2) (e := zi) p0.Slips.1 (by kernel_rfl) (fun _ => rfl) h1) (ob (rfl : (([] : List (List D)).isEmpty || !(p0.Slips.1.map zi).isEmpty) = true) (ob (o_ia (e := zi) 2 h3 rfl) (ob (zqa 26 32 0 12 p1 false 2 zi p0.Slips.1 true (by kernel_rfl) (by kernel_rfl) h5) (ob (o_rs (b := false) (z := 2) (e := zi) (l := p0.Slips.1) (o := 0) (n := 2) (ds := [(dl zh v2.Lines.1 v2.Lines.2), (di p2)]) (i := p1) (y' := (⟨v2.Lines, p2⟩ : zk)) h5 (Nat.le_of_ble_eq_true rfl) rfl) (ob (show p0.Slips.1.length = (p0.Slips.1.set p1.toNat (⟨v2.Lines, p2⟩ : zk)).length by simp) (ob (show zzc ⟨[(12, (rowO false 2 zi (p0.Slips.1.set p1.toNat (⟨v2.Lines, p2⟩ : zk)) true))], []⟩ _ = _ from (o_s1 (x := (.agg [(.d (dl eI p0.Far.1 p0.Far.2)), (xi p0.Step.Low), (xi p0.Step.High), (.d (dl zr p0.Pick.1 p0.Pick.2)), (xi p0.Carry), (.row 0 12 (p0.Slips.1.set p1.toNat (⟨v2.Lines, p2⟩ : zk)).length)])) (znw (o_cd (o_cd (o_cd (o_cd (o_cd (o_c1 (zpr false 2 zi (p0.Slips.1.set p1.toNat (⟨v2.Lines, p2⟩ : zk)) true rfl) o_c0))))))) o_s0)) ob0)))))))) (by kernel_rfl))
noncomputable def zFx (p0 : zb) (p1 p2 : Int) (r : Bool) : TM := [(0, (.d (.agg (za p0)))), (1, (xi p1)), (2, (xi p2)), (zsp 3), (6, (xb false)), (23, (xb r))]
noncomputable def zI (p0 : zb) (p1 p2 : Int) (r : Bool) : St := ⟨(zFx p0 p1 p2 r), ⟨[(zc 3 (za p0))], []⟩, []⟩
noncomputable def zqt (p0 : zb) (p1 p2 : Int) : TM := [(0, (.d (.agg (za p0)))), (1, (xi p1)), (2, (xi p2)), (zsp 3), (6, (xb false))]
theorem zL (k : Nat) (p0 : zb) (p1 p2 : Int) (r : Bool) (h : zlc k p0 p1 p2 = some r) : ev TE 11 (rgn TE 11 1) ⟨(zqt p0 p1 p2), ⟨[(zc 3 (za p0))], []⟩, []⟩ = some (.nor, zI p0 p1 p2 r) := by
 unfold zlc at h
 refine zj h (fun v201 h202 g1 => ?_)
 refine zm g1 (fun h203 g2 => ?_) (fun h203 g2 => ?_)
 ·exact zy (g := fun r => (Ex.nor, zI p0 p1 p2 r)) g2 (zqe [(11, 1, 1, .c (db v201)), (11, 1, 3, .q (xb true))] [] (ob (zsg k p0 _ h202) (ob (o_b h203) ob0)) (by kernel_rfl))
 ·exact zy (g := fun r => (Ex.nor, zI p0 p1 p2 r)) g2 (zqe [(11, 1, 1, .c (db v201)), (11, 1, 3, .q (xb false)), (11, 1, 6, .q (xi (p0.Slips.1.length : Int)))] [] (ob (zsg k p0 _ h202) (ob (o_b h203) (ob (zp zi p0.Slips.1) ob0))) (by kernel_rfl))
noncomputable def zAx (p0 : zb) (p1 p2 v4 : Int) (v6 : zt9) (v8 : zt16) (r : Bool) : TM := zqt p0 p1 p2 ++ [(23, (xb false)), (7, (xi v4)), (8, (xi v6.1)), (9, (xi v6.2)), (10, (.d (dl (eL eI) v8.1.1 v8.1.2))), (11, (xi v8.2)), (42, (xb false)), (69, (xb r))]
noncomputable def zS (p0 : zb) (p1 p2 v4 : Int) (v6 : zt9) (v8 : zt16) (r : Bool) : St := ⟨(zAx p0 p1 p2 v4 v6 v8 r), ⟨[(zc 3 (za p0))], []⟩, []⟩
noncomputable def zNs (p0 : zb) (p1 p2 v4 : Int) (v6 : zt9) (v8 : zt16) : TM := zqt p0 p1 p2 ++ [(23, (xb false)), (7, (xi v4)), (8, (xi v6.1)), (9, (xi v6.2)), (10, (.d (dl (eL eI) v8.1.1 v8.1.2))), (11, (xi v8.2)), (42, (xb false))]
theorem zeb (k : Nat) (p0 : zb) (p1 p2 v4 : Int) (v6 : zt9) (v8 : zt16) (r : Bool) (h : zJb k p0 p1 p2 v4 v6 v8 = some r) : ev TE 11 (rgn TE 11 8) ⟨(zNs p0 p1 p2 v4 v6 v8), ⟨[(zc 3 (za p0))], []⟩, []⟩ = some (.nor, zS p0 p1 p2 v4 v6 v8 r) := by
 unfold zJb at h
 refine zm h (fun h301 g1 => ?_) (fun h301 g1 => ?_)
 ·exact zy (g := fun r => (Ex.nor, zS p0 p1 p2 v4 v6 v8 r)) g1 (zqe [(11, 8, 2, .q (xb true))] [] (ob (o_b h301) ob0) (by kernel_rfl))
 ·refine zj g1 (fun v302 h303 g2 => ?_)
  refine zj g2 (fun v304 h305 g3 => ?_)
  exact zy (g := fun r => (Ex.nor, zS p0 p1 p2 v4 v6 v8 r)) g3 (zqe [(11, 8, 2, .q (xb false)), (11, 8, 7, .q (.d (.pin [(dl zh v302.Lines.1 v302.Lines.2), (di v302.Until)]))), (11, 8, 10, .c (db v304))] [] (ob (o_b h301) (ob (o_ia (e := zi) 2 h303 rfl) (ob (zE k v6.1 0 v302.Until _ h305) ob0))) (by kernel_rfl))
noncomputable def zMx (p0 : zb) (p1 p2 v4 : Int) (v6 : zt9) (v8 v22 : zt16) (r : Bool) : TM := zNs p0 p1 p2 v4 v6 v8 ++ [(69, (xb false)), (12, (.d (dl (eL eI) v22.1.1 v22.1.2))), (13, (xi v22.2)), (95, (xb r))]
noncomputable def zV (p0 : zb) (p1 p2 v4 : Int) (v6 : zt9) (v8 v22 : zt16) (r : Bool) : St := ⟨(zMx p0 p1 p2 v4 v6 v8 v22 r), ⟨[(zc 3 (za p0))], []⟩, []⟩
noncomputable def zex (p0 : zb) (p1 p2 v4 : Int) (v6 : zt9) (v8 v22 : zt16) : TM := zNs p0 p1 p2 v4 v6 v8 ++ [(69, (xb false)), (12, (.d (dl (eL eI) v22.1.1 v22.1.2))), (13, (xi v22.2))]
theorem zlb (k : Nat) (p0 : zb) (p1 p2 v4 : Int) (v6 : zt9) (v8 v22 : zt16) (r : Bool) (h : zKb k p0 p1 p2 v4 v6 v8 v22 = some r) : ev TE 11 (rgn TE 11 11) ⟨(zex p0 p1 p2 v4 v6 v8 v22), ⟨[(zc 3 (za p0))], []⟩, []⟩ = some (.nor, zV p0 p1 p2 v4 v6 v8 v22 r) := by
 unfold zKb at h
 refine zm h (fun h401 g1 => ?_) (fun h401 g1 => ?_)
 ·exact zy (g := fun r => (Ex.nor, zV p0 p1 p2 v4 v6 v8 v22 r)) g1 (zqe [(11, 11, 2, .q (xb true))] [] (ob (o_b h401) ob0) (by kernel_rfl))
 ·exact zy (g := fun r => (Ex.nor, zV p0 p1 p2 v4 v6 v8 v22 r)) g1 (zqe [(11, 11, 2, .q (xb false)), (11, 11, 4, .q (xi (v22.1.1.length : Int))), (11, 11, 6, .q (xi (v8.1.1.length : Int)))] [] (ob (o_b h401) (ob (zp (eL eI) v22.1.1) (ob (zp (eL eI) v8.1.1) ob0))) (by kernel_rfl))
theorem zAi (k : Nat) (p0 : zb) (p1 p2 : Int) (r : Bool) (h : zIb k p0 p1 p2 = some r) : zD TE (ev TE) 11 [(.agg (za p0)), (di p1), (di p2)] = some (zP r) := by
 unfold zIb at h
 refine zj h (fun v1 h2 g1 => ?_)
 refine zm g1 (fun h3 g2 => ?_) (fun h3 g2 => ?_)
 ·subst h3
  refine zj g2 (fun v4 h5 g3 => ?_)
  exact zC (g := zP) g3 (zqc [(11, 2, 0, .c (db v4))] [(11, 1000001, (.nor, zI p0 p1 p2 true))] (ob (zL k p0 p1 p2 _ h2) (ob (zwc k _ h5) ob0)) (by kernel_rfl))
 ·subst h3
  refine zj g2 (fun v4 h5 g3 => ?_)
  refine zj g3 (fun v6 h7 g4 => ?_)
  refine zj g4 (fun v8 h9 g5 => ?_)
  refine zm g5 (fun h10 g6 => ?_) (fun h10 g6 => ?_)
  ·refine zm g6 (fun h11 g7 => ?_) (fun h11 g7 => ?_)
   ·refine zm g7 (fun h12 g8 => ?_) (fun h12 g8 => ?_)
    ·refine zm g8 (fun h13 g9 => ?_) (fun h13 g9 => ?_)
     ·refine zj g9 (fun v14 h15 g10 => ?_)
      exact zC (g := zP) g10 (zqc [(11, 3, 3, .q (xi (p0.Slips.1.length : Int))), (11, 3, 4, .c (di v4)), (11, 4, 2, .c (.tup [(di v6.1), (di v6.2)])), (11, 5, 1, .c (.tup [(dl (eL eI) v8.1.1 v8.1.2), (di v8.2)])), (11, 6, 1, .q (xb true)), (11, 7, 2, .q (xb true)), (11, 7, 7, .q (xb true)), (11, 7, 11, .q (xb true)), (11, 7, 12, .c (db v14))] [(11, 1000001, (.nor, zI p0 p1 p2 false))] (ob (zL k p0 p1 p2 _ h2) (ob (zp zi p0.Slips.1) (ob (z8 k p1 (p0.Slips.1.length : Int) _ h5) (ob (zab k p0 v4 _ h7) (ob (zJ k p0 _ h9) (ob (o_b h10) (ob (o_b h11) (ob (o_b h12) (ob (o_b h13) (ob (zwc k _ h15) ob0)))))))))) (by kernel_rfl))
     ·exact zC (g := zP) g9 (zqc [(11, 3, 3, .q (xi (p0.Slips.1.length : Int))), (11, 3, 4, .c (di v4)), (11, 4, 2, .c (.tup [(di v6.1), (di v6.2)])), (11, 5, 1, .c (.tup [(dl (eL eI) v8.1.1 v8.1.2), (di v8.2)])), (11, 6, 1, .q (xb true)), (11, 7, 2, .q (xb true)), (11, 7, 7, .q (xb true)), (11, 7, 11, .q (xb false))] [(11, 1000001, (.nor, zI p0 p1 p2 false))] (ob (zL k p0 p1 p2 _ h2) (ob (zp zi p0.Slips.1) (ob (z8 k p1 (p0.Slips.1.length : Int) _ h5) (ob (zab k p0 v4 _ h7) (ob (zJ k p0 _ h9) (ob (o_b h10) (ob (o_b h11) (ob (o_b h12) (ob (o_b h13) ob0))))))))) (by kernel_rfl))
    ·exact zC (g := zP) g8 (zqc [(11, 3, 3, .q (xi (p0.Slips.1.length : Int))), (11, 3, 4, .c (di v4)), (11, 4, 2, .c (.tup [(di v6.1), (di v6.2)])), (11, 5, 1, .c (.tup [(dl (eL eI) v8.1.1 v8.1.2), (di v8.2)])), (11, 6, 1, .q (xb true)), (11, 7, 2, .q (xb true)), (11, 7, 7, .q (xb false))] [(11, 1000001, (.nor, zI p0 p1 p2 false))] (ob (zL k p0 p1 p2 _ h2) (ob (zp zi p0.Slips.1) (ob (z8 k p1 (p0.Slips.1.length : Int) _ h5) (ob (zab k p0 v4 _ h7) (ob (zJ k p0 _ h9) (ob (o_b h10) (ob (o_b h11) (ob (o_b h12) ob0)))))))) (by kernel_rfl))
   ·exact zC (g := zP) g7 (zqc [(11, 3, 3, .q (xi (p0.Slips.1.length : Int))), (11, 3, 4, .c (di v4)), (11, 4, 2, .c (.tup [(di v6.1), (di v6.2)])), (11, 5, 1, .c (.tup [(dl (eL eI) v8.1.1 v8.1.2), (di v8.2)])), (11, 6, 1, .q (xb true)), (11, 7, 2, .q (xb false))] [(11, 1000001, (.nor, zI p0 p1 p2 false))] (ob (zL k p0 p1 p2 _ h2) (ob (zp zi p0.Slips.1) (ob (z8 k p1 (p0.Slips.1.length : Int) _ h5) (ob (zab k p0 v4 _ h7) (ob (zJ k p0 _ h9) (ob (o_b h10) (ob (o_b h11) ob0))))))) (by kernel_rfl))
  ·refine zj g6 (fun v11 h12 g7 => ?_)
   refine zm g7 (fun h13 g8 => ?_) (fun h13 g8 => ?_)
   ·subst h13
    exact zC (g := zP) g8 (zqc [(11, 3, 3, .q (xi (p0.Slips.1.length : Int))), (11, 3, 4, .c (di v4)), (11, 4, 2, .c (.tup [(di v6.1), (di v6.2)])), (11, 5, 1, .c (.tup [(dl (eL eI) v8.1.1 v8.1.2), (di v8.2)])), (11, 6, 1, .q (xb false))] [(11, 1000001, (.nor, zI p0 p1 p2 false)), (11, 1000008, (.nor, zS p0 p1 p2 v4 v6 v8 true))] (ob (zL k p0 p1 p2 _ h2) (ob (zp zi p0.Slips.1) (ob (z8 k p1 (p0.Slips.1.length : Int) _ h5) (ob (zab k p0 v4 _ h7) (ob (zJ k p0 _ h9) (ob (o_b h10) (ob (zeb k p0 p1 p2 v4 v6 v8 _ h12) ob0))))))) (by kernel_rfl))
   ·subst h13
    refine zj g8 (fun v14 h15 g9 => ?_)
    refine zj g9 (fun v16 h17 g10 => ?_)
    refine zj g10 (fun v18 h19 g11 => ?_)
    refine zj g11 (fun v20 h21 g12 => ?_)
    refine zj g12 (fun v22 h23 g13 => ?_)
    refine zj g13 (fun v24 h25 g14 => ?_)
    refine zm g14 (fun h26 g15 => ?_) (fun h26 g15 => ?_)
    ·subst h26
     exact zC (g := zP) g15 (zqc [(11, 3, 3, .q (xi (p0.Slips.1.length : Int))), (11, 3, 4, .c (di v4)), (11, 4, 2, .c (.tup [(di v6.1), (di v6.2)])), (11, 5, 1, .c (.tup [(dl (eL eI) v8.1.1 v8.1.2), (di v8.2)])), (11, 6, 1, .q (xb false)), (11, 10, 6, .q (.d (.pin [(dl zh v14.Lines.1 v14.Lines.2), (di v14.Until)]))), (11, 10, 9, .c (.agg [(di v16.Low), (di v16.High)])), (11, 10, 11, .c (di v18)), (11, 10, 12, .c (.agg (za v20))), (11, 10, 13, .c (.tup [(dl (eL eI) v22.1.1 v22.1.2), (di v22.2)]))] [(11, 1000001, (.nor, zI p0 p1 p2 false)), (11, 1000008, (.nor, zS p0 p1 p2 v4 v6 v8 false)), (11, 1000011, (.nor, zV p0 p1 p2 v4 v6 v8 v22 true))] (ob (zL k p0 p1 p2 _ h2) (ob (zp zi p0.Slips.1) (ob (z8 k p1 (p0.Slips.1.length : Int) _ h5) (ob (zab k p0 v4 _ h7) (ob (zJ k p0 _ h9) (ob (o_b h10) (ob (zeb k p0 p1 p2 v4 v6 v8 _ h12) (ob (o_ia (e := zi) 2 h15 rfl) (ob (zB k v6.1 v14.Until _ h17) (ob (z5b k v16 p2 _ h19) (ob (zdb k p0 v4 v18 _ h21) (ob (zJ k v20 _ h23) (ob (zlb k p0 p1 p2 v4 v6 v8 v22 _ h25) ob0))))))))))))) (by kernel_rfl))
    ·subst h26
     refine zm g15 (fun h27 g16 => ?_) (fun h27 g16 => ?_)
     ·refine zj g16 (fun v28 h29 g17 => ?_)
      exact zC (g := zP) g17 (zqc [(11, 3, 3, .q (xi (p0.Slips.1.length : Int))), (11, 3, 4, .c (di v4)), (11, 4, 2, .c (.tup [(di v6.1), (di v6.2)])), (11, 5, 1, .c (.tup [(dl (eL eI) v8.1.1 v8.1.2), (di v8.2)])), (11, 6, 1, .q (xb false)), (11, 10, 6, .q (.d (.pin [(dl zh v14.Lines.1 v14.Lines.2), (di v14.Until)]))), (11, 10, 9, .c (.agg [(di v16.Low), (di v16.High)])), (11, 10, 11, .c (di v18)), (11, 10, 12, .c (.agg (za v20))), (11, 10, 13, .c (.tup [(dl (eL eI) v22.1.1 v22.1.2), (di v22.2)])), (11, 13, 1, .q (xb true)), (11, 14, 0, .c (db v28))] [(11, 1000001, (.nor, zI p0 p1 p2 false)), (11, 1000008, (.nor, zS p0 p1 p2 v4 v6 v8 false)), (11, 1000011, (.nor, zV p0 p1 p2 v4 v6 v8 v22 false))] (ob (zL k p0 p1 p2 _ h2) (ob (zp zi p0.Slips.1) (ob (z8 k p1 (p0.Slips.1.length : Int) _ h5) (ob (zab k p0 v4 _ h7) (ob (zJ k p0 _ h9) (ob (o_b h10) (ob (zeb k p0 p1 p2 v4 v6 v8 _ h12) (ob (o_ia (e := zi) 2 h15 rfl) (ob (zB k v6.1 v14.Until _ h17) (ob (z5b k v16 p2 _ h19) (ob (zdb k p0 v4 v18 _ h21) (ob (zJ k v20 _ h23) (ob (zlb k p0 p1 p2 v4 v6 v8 v22 _ h25) (ob (o_b h27) (ob (zwc k _ h29) ob0))))))))))))))) (by kernel_rfl))
     ·refine zj g16 (fun v28 h29 g17 => ?_)
      refine zj g17 (fun v30 h31 g18 => ?_)
      refine zm g18 (fun h32 g19 => ?_) (fun h32 g19 => ?_)
      ·refine zj g19 (fun v33 h34 g20 => ?_)
       exact zC (g := zP) g20 (zqc [(11, 3, 3, .q (xi (p0.Slips.1.length : Int))), (11, 3, 4, .c (di v4)), (11, 4, 2, .c (.tup [(di v6.1), (di v6.2)])), (11, 5, 1, .c (.tup [(dl (eL eI) v8.1.1 v8.1.2), (di v8.2)])), (11, 6, 1, .q (xb false)), (11, 10, 6, .q (.d (.pin [(dl zh v14.Lines.1 v14.Lines.2), (di v14.Until)]))), (11, 10, 9, .c (.agg [(di v16.Low), (di v16.High)])), (11, 10, 11, .c (di v18)), (11, 10, 12, .c (.agg (za v20))), (11, 10, 13, .c (.tup [(dl (eL eI) v22.1.1 v22.1.2), (di v22.2)])), (11, 13, 1, .q (xb false)), (11, 15, 4, .c (.agg (za v28))), (11, 15, 5, .c (.tup [(dl (eL eI) v30.1.1 v30.1.2), (di v30.2)])), (11, 16, 2, .q (xb true)), (11, 16, 14, .c (db v33))] [(11, 1000001, (.nor, zI p0 p1 p2 false)), (11, 1000008, (.nor, zS p0 p1 p2 v4 v6 v8 false)), (11, 1000011, (.nor, zV p0 p1 p2 v4 v6 v8 v22 false))] (ob (zL k p0 p1 p2 _ h2) (ob (zp zi p0.Slips.1) (ob (z8 k p1 (p0.Slips.1.length : Int) _ h5) (ob (zab k p0 v4 _ h7) (ob (zJ k p0 _ h9) (ob (o_b h10) (ob (zeb k p0 p1 p2 v4 v6 v8 _ h12) (ob (o_ia (e := zi) 2 h15 rfl) (ob (zB k v6.1 v14.Until _ h17) (ob (z5b k v16 p2 _ h19) (ob (zdb k p0 v4 v18 _ h21) (ob (zJ k v20 _ h23) (ob (zlb k p0 p1 p2 v4 v6 v8 v22 _ h25) (ob (o_b h27) (ob (zdb k p0 v4 (w64 (v6.1 - 1)) _ h29) (ob (zJ k v28 _ h31) (ob (o_b h32) (ob (zwc k _ h34) ob0)))))))))))))))))) (by kernel_rfl))
      ·refine zm g19 (fun h33 g20 => ?_) (fun h33 g20 => ?_)
       ·refine zm g20 (fun h34 g21 => ?_) (fun h34 g21 => ?_)
        ·refine zj g21 (fun v35 h36 g22 => ?_)
         exact zC (g := zP) g22 (zqc [(11, 3, 3, .q (xi (p0.Slips.1.length : Int))), (11, 3, 4, .c (di v4)), (11, 4, 2, .c (.tup [(di v6.1), (di v6.2)])), (11, 5, 1, .c (.tup [(dl (eL eI) v8.1.1 v8.1.2), (di v8.2)])), (11, 6, 1, .q (xb false)), (11, 10, 6, .q (.d (.pin [(dl zh v14.Lines.1 v14.Lines.2), (di v14.Until)]))), (11, 10, 9, .c (.agg [(di v16.Low), (di v16.High)])), (11, 10, 11, .c (di v18)), (11, 10, 12, .c (.agg (za v20))), (11, 10, 13, .c (.tup [(dl (eL eI) v22.1.1 v22.1.2), (di v22.2)])), (11, 13, 1, .q (xb false)), (11, 15, 4, .c (.agg (za v28))), (11, 15, 5, .c (.tup [(dl (eL eI) v30.1.1 v30.1.2), (di v30.2)])), (11, 16, 2, .q (xb false)), (11, 16, 5, .q (xb true)), (11, 16, 7, .q (xi (v30.1.1.length : Int))), (11, 16, 9, .q (xi (v8.1.1.length : Int))), (11, 16, 13, .q (xb true)), (11, 16, 14, .c (db v35))] [(11, 1000001, (.nor, zI p0 p1 p2 false)), (11, 1000008, (.nor, zS p0 p1 p2 v4 v6 v8 false)), (11, 1000011, (.nor, zV p0 p1 p2 v4 v6 v8 v22 false))] (ob (zL k p0 p1 p2 _ h2) (ob (zp zi p0.Slips.1) (ob (z8 k p1 (p0.Slips.1.length : Int) _ h5) (ob (zab k p0 v4 _ h7) (ob (zJ k p0 _ h9) (ob (o_b h10) (ob (zeb k p0 p1 p2 v4 v6 v8 _ h12) (ob (o_ia (e := zi) 2 h15 rfl) (ob (zB k v6.1 v14.Until _ h17) (ob (z5b k v16 p2 _ h19) (ob (zdb k p0 v4 v18 _ h21) (ob (zJ k v20 _ h23) (ob (zlb k p0 p1 p2 v4 v6 v8 v22 _ h25) (ob (o_b h27) (ob (zdb k p0 v4 (w64 (v6.1 - 1)) _ h29) (ob (zJ k v28 _ h31) (ob (o_b h32) (ob (o_b h33) (ob (zp (eL eI) v30.1.1) (ob (zp (eL eI) v8.1.1) (ob (o_b h34) (ob (zwc k _ h36) ob0)))))))))))))))))))))) (by kernel_rfl))
        ·exact zC (g := zP) g21 (zqc [(11, 3, 3, .q (xi (p0.Slips.1.length : Int))), (11, 3, 4, .c (di v4)), (11, 4, 2, .c (.tup [(di v6.1), (di v6.2)])), (11, 5, 1, .c (.tup [(dl (eL eI) v8.1.1 v8.1.2), (di v8.2)])), (11, 6, 1, .q (xb false)), (11, 10, 6, .q (.d (.pin [(dl zh v14.Lines.1 v14.Lines.2), (di v14.Until)]))), (11, 10, 9, .c (.agg [(di v16.Low), (di v16.High)])), (11, 10, 11, .c (di v18)), (11, 10, 12, .c (.agg (za v20))), (11, 10, 13, .c (.tup [(dl (eL eI) v22.1.1 v22.1.2), (di v22.2)])), (11, 13, 1, .q (xb false)), (11, 15, 4, .c (.agg (za v28))), (11, 15, 5, .c (.tup [(dl (eL eI) v30.1.1 v30.1.2), (di v30.2)])), (11, 16, 2, .q (xb false)), (11, 16, 5, .q (xb true)), (11, 16, 7, .q (xi (v30.1.1.length : Int))), (11, 16, 9, .q (xi (v8.1.1.length : Int))), (11, 16, 13, .q (xb false))] [(11, 1000001, (.nor, zI p0 p1 p2 false)), (11, 1000008, (.nor, zS p0 p1 p2 v4 v6 v8 false)), (11, 1000011, (.nor, zV p0 p1 p2 v4 v6 v8 v22 false))] (ob (zL k p0 p1 p2 _ h2) (ob (zp zi p0.Slips.1) (ob (z8 k p1 (p0.Slips.1.length : Int) _ h5) (ob (zab k p0 v4 _ h7) (ob (zJ k p0 _ h9) (ob (o_b h10) (ob (zeb k p0 p1 p2 v4 v6 v8 _ h12) (ob (o_ia (e := zi) 2 h15 rfl) (ob (zB k v6.1 v14.Until _ h17) (ob (z5b k v16 p2 _ h19) (ob (zdb k p0 v4 v18 _ h21) (ob (zJ k v20 _ h23) (ob (zlb k p0 p1 p2 v4 v6 v8 v22 _ h25) (ob (o_b h27) (ob (zdb k p0 v4 (w64 (v6.1 - 1)) _ h29) (ob (zJ k v28 _ h31) (ob (o_b h32) (ob (o_b h33) (ob (zp (eL eI) v30.1.1) (ob (zp (eL eI) v8.1.1) (ob (o_b h34) ob0))))))))))))))))))))) (by kernel_rfl))
       ·exact zC (g := zP) g20 (zqc [(11, 3, 3, .q (xi (p0.Slips.1.length : Int))), (11, 3, 4, .c (di v4)), (11, 4, 2, .c (.tup [(di v6.1), (di v6.2)])), (11, 5, 1, .c (.tup [(dl (eL eI) v8.1.1 v8.1.2), (di v8.2)])), (11, 6, 1, .q (xb false)), (11, 10, 6, .q (.d (.pin [(dl zh v14.Lines.1 v14.Lines.2), (di v14.Until)]))), (11, 10, 9, .c (.agg [(di v16.Low), (di v16.High)])), (11, 10, 11, .c (di v18)), (11, 10, 12, .c (.agg (za v20))), (11, 10, 13, .c (.tup [(dl (eL eI) v22.1.1 v22.1.2), (di v22.2)])), (11, 13, 1, .q (xb false)), (11, 15, 4, .c (.agg (za v28))), (11, 15, 5, .c (.tup [(dl (eL eI) v30.1.1 v30.1.2), (di v30.2)])), (11, 16, 2, .q (xb false)), (11, 16, 5, .q (xb false))] [(11, 1000001, (.nor, zI p0 p1 p2 false)), (11, 1000008, (.nor, zS p0 p1 p2 v4 v6 v8 false)), (11, 1000011, (.nor, zV p0 p1 p2 v4 v6 v8 v22 false))] (ob (zL k p0 p1 p2 _ h2) (ob (zp zi p0.Slips.1) (ob (z8 k p1 (p0.Slips.1.length : Int) _ h5) (ob (zab k p0 v4 _ h7) (ob (zJ k p0 _ h9) (ob (o_b h10) (ob (zeb k p0 p1 p2 v4 v6 v8 _ h12) (ob (o_ia (e := zi) 2 h15 rfl) (ob (zB k v6.1 v14.Until _ h17) (ob (z5b k v16 p2 _ h19) (ob (zdb k p0 v4 v18 _ h21) (ob (zJ k v20 _ h23) (ob (zlb k p0 p1 p2 v4 v6 v8 v22 _ h25) (ob (o_b h27) (ob (zdb k p0 v4 (w64 (v6.1 - 1)) _ h29) (ob (zJ k v28 _ h31) (ob (o_b h32) (ob (o_b h33) ob0)))))))))))))))))) (by kernel_rfl))
end Go.AM

namespace Go.AM
open Go
def Ok {α : Type} (o : Option α) (Q : α → Prop) : Prop := ∃ a, o = some a ∧ Q a
section
variable {α β : Type}
theorem Ok.pure {a : α} {Q : α → Prop} (h : Q a) : Ok (some a) Q := ⟨a, rfl, h⟩
theorem Ok.bind {o : Option α} {g : α → Option β} {P : α → Prop} {Q : β → Prop} (h : Ok o P) (hg : ∀ a, P a → Ok (g a) Q) : Ok (o.bind g) Q := by
 obtain ⟨a, rfl, ha⟩ := h
 exact hg a ha
theorem Ok.mono {o : Option α} {P Q : α → Prop} (h : Ok o P) (hq : ∀ a, P a → Q a) : Ok o Q := by
 obtain ⟨a, ha, hp⟩ := h
 exact ⟨a, ha, hq a hp⟩
theorem Ok.cond {b : Bool} {x y : Option α} {Q : α → Prop} (ht : b = true → Ok x Q) (hf : b = false → Ok y Q) : Ok (cond b x y) Q := by
 cases b
 ·exact hf rfl
 ·exact ht rfl
theorem Ok.eq {o : Option α} {a : α} (h : Ok o (· = a)) : o = some a := by
 obtain ⟨b, hb, rfl⟩ := h
 exact hb
theorem Ok.imp {o : Option α} {a : α} {Q : α → Prop} (h : Ok o Q) (ho : o = some a) : Q a := by
 obtain ⟨b, hb, hq⟩ := h
 rw [ho] at hb; cases hb; exact hq
theorem Ok.iter {S R : Type} {f : S → Option (S ⊕ R)} {Q : R → Prop} (I : Nat → S → Prop) (n : Nat)
  (h : ∀ j s, j ≤ n → I j s → Ok (f s) (fun x => match x with
   | .inl s' => j < n ∧ I (j + 1) s'
   | .inr r => Q r)) {k : Nat} {s : S} (h0 : I 0 s) (hk : n < k) : Ok (Go.AM.iter f k s) Q := by
 suffices ∀ m j s, j + m = n → I j s → ∀ k, m < k → Ok (Go.AM.iter f k s) Q from this n 0 s (by omega) h0 k hk
 intro m
 induction m with
 | zero =>
  intro j s hj hi k hk
  obtain ⟨k, rfl⟩ : ∃ k', k = k' + 1 := ⟨k - 1, by omega⟩
  obtain ⟨x, hx, hq⟩ := h j s (by omega) hi
  cases x with
  | inl s' => exact absurd hq.1 (by omega)
  | inr r => exact ⟨r, by simp [Go.AM.iter, hx], hq⟩
 | succ m ih =>
  intro j s hj hi k hk
  obtain ⟨k, rfl⟩ : ∃ k', k = k' + 1 := ⟨k - 1, by omega⟩
  obtain ⟨x, hx, hq⟩ := h j s (by omega) hi
  cases x with
  | inl s' =>
   obtain ⟨r, hr, hq'⟩ := ih (j + 1) s' (by omega) hq.2 k (by omega)
   exact ⟨r, by simp [Go.AM.iter, hx, hr], hq'⟩
  | inr r => exact ⟨r, by simp [Go.AM.iter, hx], hq⟩
def Goes {S R : Type} (I : S → Prop) (Q : R → Prop) : S ⊕ R → Prop
 | .inl s => I s
 | .inr r => Q r
theorem Ok.count {S R : Type} {f : S → Option (S ⊕ R)} {Q : R → Prop} (n : Nat) (I : Nat → S → Prop)
  (next : ∀ j s, j < n → I j s → Ok (f s) (Goes (I (j + 1)) Q))
  (last : ∀ s, I n s → Ok (f s) (Goes (fun _ => False) Q)) {k : Nat} {s : S} (h0 : I 0 s) (hk : n < k) : Ok (Go.AM.iter f k s) Q := by
 refine Ok.iter I n (fun j s hj hi => ?_) h0 hk
 by_cases h : j < n
 ·refine (next j s h hi).mono fun x hx => ?_
  cases x with
  | inl s' => exact ⟨h, hx⟩
  | inr r => exact hx
 ·obtain rfl : j = n := by omega
  refine (last s hi).mono fun x hx => ?_
  cases x with
  | inl s' => exact hx.elim
  | inr r => exact hx
end
theorem zjb {n : Int} (h1 : -9223372036854775808 ≤ n) (h2 : n ≤ 9223372036854775807) : w64 n = n := by
 have hd : w64 n = if n % 18446744073709551616 ≥ 9223372036854775808 then n % 18446744073709551616 - 18446744073709551616 else n % 18446744073709551616 := by
  show IntKind.wrap .i64 n = _
  have e : IntKind.wrap .i64 n = if (true && decide (n % 18446744073709551616 ≥ 9223372036854775808)) = true then n % 18446744073709551616 - 18446744073709551616 else n % 18446744073709551616 := rfl
  rw [e]
  simp
 rw [hd]
 split <;> omega
theorem zrw {α : Type} {l : List α} {i : Int} (h0 : 0 ≤ i) (h : i.toNat < l.length) : idx l i = some l[i.toNat] := by
 simp [idx, h0, List.getElem?_eq_getElem h]
theorem znd {α : Type} {l : List α} {i : Nat} (h : i < l.length) : idx l (i : Int) = some l[i] := by
 simp [idx, List.getElem?_eq_getElem h]
theorem z1t {n : Nat} (h : n ≤ 62) : zo 1 (n : Int) = 2 ^ n := by
 unfold zo
 have hm : min (n : Int).toNat 64 = n := by omega
 rw [hm, Int.one_mul, zjb]
 ·have : (0 : Int) < 2 ^ n := Int.pow_pos (by omega)
  omega
 ·have h2 : (2 : Nat) ^ n ≤ 2 ^ 62 := Nat.pow_le_pow_right (by omega) h
  have h3 : ((2 ^ n : Nat) : Int) ≤ ((2 ^ 62 : Nat) : Int) := by exact_mod_cast h2
  have h4 : ((2 ^ n : Nat) : Int) = (2 : Int) ^ n := by push_cast; rfl
  rw [← h4]; omega
theorem zBw {x i : Nat} (hi : i < 64) (hx : x < 2 ^ 63) : (z9c (zfj (x : Int) (i : Int)) 1 == 1) = x.testBit i := by
 have hm : min (i : Int).toNat 64 = i := by omega
 have hs : zfj (x : Int) (i : Int) = ((x >>> i : Nat) : Int) := by
  unfold zfj
  rw [hm, Nat.shiftRight_eq_div_pow]
  have : (2 : Int) ^ i = ((2 ^ i : Nat) : Int) := by push_cast; rfl
  rw [this, ← Int.ofNat_fdiv]
 have hle : x >>> i < 2 ^ 63 := by
  rw [Nat.shiftRight_eq_div_pow]
  exact Nat.lt_of_le_of_lt (Nat.div_le_self _ _) hx
 rw [hs]
 unfold z9c
 have hb : (BitVec.ofInt 64 ((x >>> i : Nat) : Int) &&& BitVec.ofInt 64 1).toNat = (x >>> i) % 2 := by
  rw [BitVec.toNat_and, BitVec.ofInt_natCast, BitVec.toNat_ofNat]
  have : (BitVec.ofInt 64 1).toNat = 1 := by decide
  rw [this, Nat.and_one_is_mod]
  omega
 rw [hb, zjb (by omega) (by omega), Nat.testBit_eq_decide_div_mod_eq, Nat.shiftRight_eq_div_pow]
 generalize x / 2 ^ i % 2 = y at *
 cases h : decide (y = 1) <;> simp at h ⊢ <;> omega
def dif (x y : Nat) : Nat := x &&& (2 ^ 64 - 1 - y)
theorem zqq {x y : Nat} (hx : x < 2 ^ 63) (hy : y < 2 ^ 63) : znb (x : Int) (y : Int) = ((dif x y : Nat) : Int) ∧ dif x y < 2 ^ 63 ∧ dif x y ≤ x ∧ ∀ i, (dif x y).testBit i = (x.testBit i && !y.testBit i) := by
 unfold dif
 have hb : (BitVec.ofInt 64 (x : Int) &&& ~~~ BitVec.ofInt 64 (y : Int)).toNat = x &&& (2 ^ 64 - 1 - y) := by
  rw [BitVec.toNat_and, BitVec.toNat_not, BitVec.ofInt_natCast, BitVec.ofInt_natCast, BitVec.toNat_ofNat, BitVec.toNat_ofNat, Nat.mod_eq_of_lt (by omega), Nat.mod_eq_of_lt (by omega)]
 refine ⟨?_, ?_, ?_, ?_⟩
 ·unfold znb
  rw [hb, zjb]
  ·omega
  ·have : x &&& (2 ^ 64 - 1 - y) ≤ x := Nat.and_le_left
   omega
 ·exact Nat.lt_of_le_of_lt Nat.and_le_left hx
 ·exact Nat.and_le_left
 ·intro i
  rw [Nat.testBit_and]
  have h1 : 2 ^ 64 - 1 - y = 2 ^ 64 - (y + 1) := by omega
  rw [h1, Nat.testBit_two_pow_sub_succ (by omega)]
  cases hxi : x.testBit i with
  | false => simp
  | true =>
   have : i < 63 := by
    apply Classical.byContradiction
    intro hn
    have : x < 2 ^ i := Nat.lt_of_lt_of_le hx (Nat.pow_le_pow_right (by omega) (by omega))
    rw [Nat.testBit_lt_two_pow this] at hxi
    cases hxi
   simp; omega
open Classical in
theorem zGr {κ ν : Type} {q : κ → κ → Bool} (hq : ∀ a b, q a b = true ↔ a = b) (k k' : κ) (v : ν) : ∀ m, zZ q k' (mset q k v m) = if k' = k then some v else zZ q k' m
 | [] => by
  simp only [mset, zZ]
  by_cases h : k' = k
  ·rw [(hq k' k).2 h, if_pos h]; rfl
  ·have : q k' k = false := by cases hb : q k' k; rfl; exact absurd ((hq _ _).1 hb) h
   rw [this, if_neg h]; rfl
 | p :: t => by
  have ih := zGr hq k k' v t
  simp only [mset]
  cases hk : q k p.1 with
  | true =>
   have hk' := (hq _ _).1 hk
   simp only [cond_true, zZ]
   by_cases h : k' = k
   ·rw [if_pos h, h, hk]; rfl
   ·have : q k' p.1 = false := by cases hb : q k' p.1; rfl; exact absurd ((hq _ _).1 hb) (by rw [← hk']; exact h)
    rw [this, if_neg h]; rfl
  | false =>
   simp only [cond_false, zZ]
   cases hp : q k' p.1 with
   | true =>
    by_cases h : k' = k
    ·rw [h, hk] at hp; cases hp
    ·rw [if_neg h]; rfl
   | false => exact ih
end Go.AM
set_option linter.unusedVariables false
namespace Go.AM
open Go
theorem zPd (c x : Bool) : cond c (some x) (some false) = some (c && x) := by cases c <;> rfl
theorem zod {j n : Nat} (h : j < n) (hn : n < 9223372036854775808) : w64 ((j : Int) + 1) = ((j + 1 : Nat) : Int) := by
 rw [zjb (by omega) (by omega)]; push_cast; rfl
theorem z4m {n : Nat} (hn : n < 9223372036854775808) : w64 ((n : Int) - 1) = (n : Int) - 1 := zjb (by omega) (by omega)
theorem zce {α : Type} {j : Nat} {l : List α} (h : j < l.length) : decide ((j : Int) < (l.length : Int)) = true := by simp; omega
theorem zri {α : Type} {l : List α} : decide ((l.length : Int) < (l.length : Int)) = false := by simp
theorem Ok.everyI {α : Type} {f : Bool × Int → Option ((Bool × Int) ⊕ (Bool × Int))} (l : List α) (p : Nat → α → Prop)
  (next : ∀ acc (j : Nat) (h : j < l.length), Ok (f (acc, (j : Int))) (fun x => ∃ r, x = .inl (r, ((j + 1 : Nat) : Int)) ∧ (r = true ↔ acc = true ∧ p j l[j])))
  (last : ∀ acc, f (acc, (l.length : Int)) = some (.inr (acc, (l.length : Int)))) {k : Nat} {acc : Bool} (hk : l.length < k) :
  Ok (Go.AM.iter f k (acc, 0)) (fun r => r.1 = true ↔ acc = true ∧ ∀ j (h : j < l.length), p j l[j]) := by
 refine Ok.count l.length (fun j s => s.2 = (j : Int) ∧ (s.1 = true ↔ acc = true ∧ ∀ i (h : i < l.length), i < j → p i l[i])) ?_ ?_ ⟨rfl, by simp⟩ hk
 ·rintro j ⟨a, i⟩ hj ⟨hi, ha⟩
  obtain rfl : i = (j : Int) := hi
  refine (next a j hj).mono ?_
  rintro x ⟨r, rfl, hr⟩
  refine ⟨rfl, hr.trans ?_⟩
  rw [ha]
  constructor
  ·rintro ⟨⟨h1, h2⟩, h3⟩
   refine ⟨h1, fun i h hij => ?_⟩
   by_cases e : i = j
   ·subst e; exact h3
   ·exact h2 i h (by omega)
  ·rintro ⟨h1, h2⟩
   exact ⟨⟨h1, fun i h hij => h2 i h (by omega)⟩, h2 j hj (by omega)⟩
 ·rintro ⟨a, i⟩ ⟨hi, ha⟩
  obtain rfl : i = (l.length : Int) := hi
  rw [last a]
  refine Ok.pure ?_
  show a = true ↔ _
  rw [ha]
  exact ⟨fun h => ⟨h.1, fun i hi => h.2 i hi hi⟩, fun h => ⟨h.1, fun i hi _ => h.2 i hi⟩⟩
theorem Ok.everyWI {α : Type} {f : Bool × Int → Option ((Bool × Int) ⊕ (Bool × Int))} (l : List α) (p : Nat → α → Prop)
  (next : ∀ (j : Nat) (h : j < l.length), (∀ i (h : i < l.length), i < j → p i l[i]) → Ok (f (true, (j : Int))) (fun x => ∃ r, x = .inl (r, ((j + 1 : Nat) : Int)) ∧ (r = true ↔ p j l[j])))
  (out : ∀ i, f (false, i) = some (.inr (false, i)))
  (last : f (true, (l.length : Int)) = some (.inr (true, (l.length : Int)))) {k : Nat} {acc : Bool} (hk : l.length < k) :
  Ok (Go.AM.iter f k (acc, 0)) (fun r => r.1 = true ↔ acc = true ∧ ∀ j (h : j < l.length), p j l[j]) := by
 refine Ok.count l.length (fun j s => s.2 = (j : Int) ∧ (s.1 = true ↔ acc = true ∧ ∀ i (h : i < l.length), i < j → p i l[i])) ?_ ?_ ⟨rfl, by simp⟩ hk
 ·rintro j ⟨a, i⟩ hj ⟨hi, ha⟩
  obtain rfl : i = (j : Int) := hi
  cases a with
  | false =>
   rw [out]
   refine Ok.pure ?_
   constructor
   ·intro h; cases h
   ·rintro ⟨h1, h2⟩
    exact ha.2 ⟨h1, fun i h _ => h2 i h⟩
  | true =>
   obtain ⟨h1, h2⟩ := ha.1 rfl
   refine (next j hj h2).mono ?_
   rintro x ⟨r, rfl, hr⟩
   refine ⟨rfl, hr.trans ?_⟩
   constructor
   ·intro h3
    refine ⟨h1, fun i h hij => ?_⟩
    by_cases e : i = j
    ·subst e; exact h3
    ·exact h2 i h (by omega)
   ·rintro ⟨_, h3⟩
    exact h3 j hj (by omega)
 ·rintro ⟨a, i⟩ ⟨hi, ha⟩
  obtain rfl : i = (l.length : Int) := hi
  have fin : a = true ↔ acc = true ∧ ∀ j (h : j < l.length), p j l[j] := ⟨fun h => ⟨(ha.1 h).1, fun j hj => (ha.1 h).2 j hj hj⟩, fun h => ha.2 ⟨h.1, fun j hj _ => h.2 j hj⟩⟩
  cases a with
  | false => rw [out]; exact Ok.pure fin
  | true => rw [last]; exact Ok.pure fin
def ex (f : Nat → Nat) : Nat → List Nat
 | 0 => []
 | m + 1 => List.replicate (f m) m ++ ex f m
def hi (f : Nat → Nat) (m : Nat) : Nat → List Nat
 | 0 => []
 | d + 1 => List.replicate (f (m + d)) (m + d) ++ hi f m d
theorem zQq (f : Nat → Nat) (m : Nat) : ∀ d, hi f m (d + 1) = hi f (m + 1) d ++ List.replicate (f m) m
 | 0 => by simp [hi]
 | d + 1 => by
  have ih := zQq f m d
  rw [hi, ih, hi]
  have : m + 1 + d = m + (d + 1) := by omega
  rw [this, List.append_assoc]
theorem zIn {f g : Nat → Nat} {m : Nat} : ∀ {d}, (∀ j, m ≤ j → j < m + d → f j = g j) → hi f m d = hi g m d
 | 0, _ => rfl
 | d + 1, h => by
  rw [hi, hi, h (m + d) (by omega) (by omega), zIn fun j h1 h2 => h j h1 (by omega)]
theorem zis (f : Nat → Nat) : ∀ n, hi f 0 n = ex f n
 | 0 => rfl
 | n + 1 => by rw [hi, ex, zis f n]; simp
theorem zno {f : Nat → Nat} : ∀ {n}, ex f n = [] ↔ ∀ j, j < n → f j = 0
 | 0 => by simp [ex]
 | n + 1 => by
  rw [ex, List.append_eq_nil_iff, zno, List.replicate_eq_nil_iff]
  constructor
  ·rintro ⟨h1, h2⟩ j hj
   by_cases e : j = n
   ·rw [e]; exact h1
   ·exact h2 j (by omega)
  ·intro h
   exact ⟨h n (by omega), fun j hj => h j (by omega)⟩
theorem zUt {f : Nat → Nat} {x : Nat} : ∀ {n}, x ∈ ex f n → x < n ∧ 0 < f x
 | 0, h => by simp [ex] at h
 | n + 1, h => by
  rw [ex, List.mem_append, List.mem_replicate] at h
  rcases h with ⟨h1, rfl⟩ | h
  ·exact ⟨by omega, by omega⟩
  ·have := zUt h
   exact ⟨by omega, this.2⟩
theorem zTm {f : Nat → Nat} {b : Nat} : ∀ {n}, (∀ j, j < n → f j ≤ b) → (ex f n).length ≤ b * n
 | 0, _ => by simp [ex]
 | n + 1, h => by
  have := zTm (n := n) fun j hj => h j (by omega)
  have := h n (by omega)
  rw [ex, List.length_append, List.length_replicate, Nat.mul_succ]
  omega
theorem zPu (r c m : Nat) (t : List Nat) : (List.replicate c m ++ t).drop r = List.replicate (c - r) m ++ t.drop (r - c) := by
 rw [List.drop_append, List.drop_replicate, List.length_replicate]
theorem zru (r c m : Nat) (t : List Nat) : (List.replicate c m ++ t).take r = List.replicate (min r c) m ++ t.take (r - c) := by
 rw [List.take_append, List.take_replicate, List.length_replicate]
def topF (b : Nat → Nat) (far : Nat → Int) : Nat → Int
 | 0 => 0
 | j + 1 => if 0 < b j then far j else topF b far j
theorem zos {b : Nat → Nat} {far : Nat → Int} {x : Nat} {t : List Nat} : ∀ {n}, ex b n = x :: t → topF b far n = far x
 | 0, h => by simp [ex] at h
 | n + 1, h => by
  rw [ex] at h
  rw [topF]
  by_cases hb : 0 < b n
  ·rw [if_pos hb]
   obtain ⟨c, hc⟩ : ∃ c, b n = c + 1 := ⟨b n - 1, by omega⟩
   rw [hc, List.replicate_succ, List.cons_append] at h
   injection h with h1 h2
   rw [h1]
  ·rw [if_neg hb]
   have : b n = 0 := by omega
   rw [this] at h
   exact zos (by simpa using h)
def wk (C : Nat) (far : Nat → Int) : Nat → List Nat → Int
 | _, [] => 0
 | 0, x :: t => 2 * far x + wk C far (C - 1) t
 | r + 1, _ :: t => wk C far r t
theorem zss (C : Nat) (far : Nat → Int) : ∀ (r : Nat) (l : List Nat), wk C far r l = wk C far 0 (l.drop r)
 | 0, _ => by simp
 | r + 1, [] => by simp [wk]
 | r + 1, x :: t => by rw [wk, List.drop_succ_cons, zss C far r t]
theorem zOv {C : Nat} (hC : 0 < C) (far : Nat → Int) (x : Nat) (t : List Nat) : wk C far 0 (x :: t) = 2 * far x + wk C far 0 ((x :: t).drop C) := by
 rw [wk, zss C far (C - 1) t]
 obtain ⟨c, rfl⟩ : ∃ c, C = c + 1 := ⟨C - 1, by omega⟩
 simp
theorem zRl {C : Nat} {far : Nat → Int} {b : Int} (hb : 0 ≤ b) : ∀ (l : List Nat) (r : Nat), (∀ x ∈ l, 0 ≤ far x ∧ far x ≤ b) → 0 ≤ wk C far r l ∧ wk C far r l ≤ 2 * b * l.length
 | [], r, _ => by cases r <;> simp [wk]
 | x :: t, 0, h => by
  have := zRl (C := C) hb t (C - 1) fun y hy => h y (by simp [hy])
  have hx := h x (by simp)
  rw [wk, List.length_cons]
  push_cast
  rw [Int.mul_add]
  omega
 | x :: t, r + 1, h => by
  have := zRl (C := C) hb t r fun y hy => h y (by simp [hy])
  rw [wk, List.length_cons]
  push_cast
  rw [Int.mul_add]
  omega
end Go.AM
set_option linter.unusedVariables false
namespace Go.AM
open Go
abbrev nF (f : zb) : Nat := f.Far.1.length
abbrev nS (f : zb) : Nat := f.Slips.1.length
def fr (f : zb) (i : Nat) : Int := (f.Far.1[i]?).getD 0
theorem zox {f : zb} {i : Nat} (h : i < nF f) : f.Far.1[i] = fr f i := by
 unfold fr
 rw [List.getElem?_eq_getElem h]; rfl
theorem zYm {f : zb} {i : Nat} (h : i < nF f) : idx f.Far.1 (i : Int) = some (fr f i) := by rw [znd h, zox h]
def frB (f : zb) : Nat → Int
 | 0 => 0
 | i + 1 => fr f i
def sh (l : List zl) (i : Nat) : Int := ((l[i]?).map (·.Shelf)).getD 0
def shB (l : List zl) : Nat → Int
 | 0 => -1
 | i + 1 => sh l i
theorem zRk {l : List zl} {i : Nat} (h : i < l.length) : l[i].Shelf = sh l i := by
 unfold sh
 rw [List.getElem?_eq_getElem h]; rfl
def z5c (lo hi : Int) (s : zq) : Prop := lo ≤ s.Low ∧ s.Low ≤ s.High ∧ s.High ≤ hi
def zOf (n : Nat) (l : List zl) : Prop := ∀ j (h : j < l.length), (shB l j + 1 ≤ l[j].Shelf ∧ l[j].Shelf ≤ (n : Int) - 1) ∧ (1 ≤ l[j].Many ∧ l[j].Many ≤ 20)
def z2g (n : Nat) (s : zk) : Prop := ((0 ≤ s.Until ∧ s.Until ≤ 100000) ∧ 0 < s.Lines.1.length) ∧ zOf n s.Lines.1
structure Fine (f : zb) : Prop where
 nfar : 1 ≤ nF f ∧ nF f ≤ 12
 npick : f.Pick.1.length = nF f
 step : z5c 1 10 f.Step
 carry : 1 ≤ f.Carry ∧ f.Carry ≤ 20
 nslips : nS f ≤ 9
 far : ∀ i, i < nF f → frB f i ≤ fr f i ∧ fr f i ≤ 500
 pick : ∀ i (h : i < f.Pick.1.length), z5c 0 300 f.Pick.1[i]
 slips : ∀ i (h : i < nS f), z2g (nF f) f.Slips.1[i]
structure zjc (f : zb) : Prop where
 far : nF f < 9223372036854775808
 pick : f.Pick.1.length < 9223372036854775808
 slips : nS f < 9223372036854775808
 lines : ∀ s ∈ f.Slips.1, s.Lines.1.length < 9223372036854775808
structure Fuel (k : Nat) (f : zb) : Prop where
 k0 : 5000 < k
 far : nF f < k
 pick : f.Pick.1.length < k
 slips : nS f < k
 lines : ∀ s ∈ f.Slips.1, s.Lines.1.length < k
theorem zpi (k : Nat) (a b c : Int) : zxb k a b c = some (decide (b ≤ a) && decide (a ≤ c)) := by
 simp only [zxb, zPd]
theorem zAj (k : Nat) (a b c : Int) : zcb k a b c = some (decide (b ≤ a) && decide (a ≤ c)) := by
 simp only [zcb, zPd]
theorem znq (k : Nat) (s : zq) (a b : Int) : zwf k s a b = some (decide (a ≤ s.Low) && (decide (s.Low ≤ s.High) && decide (s.High ≤ b))) := by
 simp only [zwf, zPd]
theorem z5p (k : Nat) (s : zq) (a b : Int) : zQb k s a b = some (decide (a ≤ s.Low) && (decide (s.Low ≤ s.High) && decide (s.High ≤ b))) := by
 simp only [zQb, zPd]
theorem zkv (k : Nat) (f : zb) : Ok (zrf k f) (fun r => r = true ↔ (1 ≤ nF f ∧ nF f ≤ 12) ∧ f.Pick.1.length = nF f ∧ z5c 1 10 f.Step ∧ (1 ≤ f.Carry ∧ f.Carry ≤ 20) ∧ nS f ≤ 9) := by
 simp only [zrf, zpi, znq, Option.bind_some, zPd]
 refine Ok.pure ?_
 simp only [Bool.and_eq_true, decide_eq_true_eq, beq_iff_eq, nF, nS, z5c]
 omega
theorem zfv {k : Nat} {f : zb} (hs : zjc f) (hk : Fuel k f) (acc : Bool) : Ok (iter (fun s => zbe k f s.1 s.2.1 s.2.2) k (acc, 0, 0)) (fun r => r.1 = true ↔ acc = true ∧ ∀ i, i < nF f → frB f i ≤ fr f i ∧ fr f i ≤ 500) := by
 refine Ok.count (nF f) (fun j s => s.2.2 = (j : Int) ∧ s.2.1 = frB f j ∧ (s.1 = true ↔ acc = true ∧ ∀ i, i < j → frB f i ≤ fr f i ∧ fr f i ≤ 500)) ?_ ?_ ⟨rfl, rfl, by simp⟩ hk.far
 ·rintro j ⟨a, d, i⟩ hj ⟨hi, hd, ha⟩
  obtain rfl : i = (j : Int) := hi
  obtain rfl : d = frB f j := hd
  simp only [zbe, zDg, zce hj, cond_true, zYm hj, zpi, Option.bind_some, zPd, zod hj hs.far]
  refine Ok.pure ⟨rfl, rfl, ?_⟩
  simp only [Bool.and_eq_true, decide_eq_true_eq]
  have ha' : a = true ↔ acc = true ∧ ∀ i, i < j → frB f i ≤ fr f i ∧ fr f i ≤ 500 := ha
  rw [ha']
  constructor
  ·rintro ⟨⟨h1, h2⟩, h3⟩
   refine ⟨h1, fun i hij => ?_⟩
   by_cases e : i = j
   ·subst e; exact h3
   ·exact h2 i (by omega)
  ·rintro ⟨h1, h2⟩
   exact ⟨⟨h1, fun i hij => h2 i (by omega)⟩, h2 j (by omega)⟩
 ·rintro ⟨a, d, i⟩ ⟨hi, hd, ha⟩
  obtain rfl : i = (nF f : Int) := hi
  simp only [zbe, zri, cond_false]
  exact Ok.pure ha
theorem zsu {k : Nat} {f : zb} (hs : zjc f) (hk : Fuel k f) (v : Bool × Int × Int) (acc : Bool) : Ok (iter (fun s => zae k f v s.1 s.2) k (acc, 0)) (fun r => r.1 = true ↔ acc = true ∧ ∀ i (h : i < f.Pick.1.length), z5c 0 300 f.Pick.1[i]) := by
 refine Ok.everyI f.Pick.1 (fun _ s => z5c 0 300 s) (fun a j hj => ?_) (fun a => by simp [zae]) hk.pick
 simp only [zae, zEg, zce hj, cond_true, znd hj, znq, Option.bind_some, zPd]
 refine Ok.pure ⟨_, by rw [zod hj hs.pick], ?_⟩
 simp only [Bool.and_eq_true, decide_eq_true_eq, z5c]
theorem zwp {l : List zl} : ∀ {j}, j ≤ l.length → (∀ i (h : i < l.length), i < j → shB l i + 1 ≤ l[i].Shelf) → -1 ≤ shB l j
 | 0, _, _ => by simp [shB]
 | j + 1, hj, h => by
  have ih := zwp (j := j) (by omega) fun i hi hij => h i hi (by omega)
  have := h j (by omega) (by omega)
  rw [zRk (by omega)] at this
  simp only [shB]
  omega
theorem zXn {n : Nat} {l : List zl} (h : zOf n l) : ∀ i, i < l.length → (i : Int) ≤ sh l i
 | 0, hi => by
  have := (h 0 hi).1.1
  rw [zRk hi] at this
  simpa [shB] using this
 | i + 1, hi => by
  have ih := zXn h i (by omega)
  have := (h (i + 1) hi).1.1
  rw [zRk hi] at this
  simp only [shB] at this
  push_cast
  omega
theorem zRm {n : Nat} {l : List zl} (h : zOf n l) : l.length ≤ n := by
 cases hl : l.length with
 | zero => omega
 | succ m =>
  have h1 := zXn h m (by omega)
  have h2 := (h m (by omega)).1.2
  rw [zRk (by omega)] at h2
  omega
theorem zzt {k : Nat} {f : zb} (hs : zjc f) (v3 : Bool × Int × Int) (v5 : Bool × Int) (i0 : Int) (s : zk) (hl : s.Lines.1.length < 9223372036854775808) (hlk : s.Lines.1.length < k) (acc : Bool) (hn : acc = true → nF f ≤ 12) :
  Ok (iter (fun t => zJd k f v3 v5 i0 s t.1 t.2.1 t.2.2) k (acc, (-1), 0)) (fun r => r.1 = true ↔ acc = true ∧ zOf (nF f) s.Lines.1) := by
 let P := fun i (h : i < s.Lines.1.length) => (shB s.Lines.1 i + 1 ≤ s.Lines.1[i].Shelf ∧ s.Lines.1[i].Shelf ≤ (nF f : Int) - 1) ∧ (1 ≤ s.Lines.1[i].Many ∧ s.Lines.1[i].Many ≤ 20)
 refine Ok.count s.Lines.1.length (fun j t => t.2.2 = (j : Int) ∧ t.2.1 = shB s.Lines.1 j ∧ (t.1 = true ↔ acc = true ∧ ∀ i (h : i < s.Lines.1.length), i < j → P i h)) ?_ ?_ ⟨rfl, rfl, by simp⟩ hlk
 ·rintro j ⟨a, d, i⟩ hj ⟨hi, hd, ha⟩
  obtain rfl : i = (j : Int) := hi
  obtain rfl : d = shB s.Lines.1 j := hd
  simp only [zJd, z9f, zce hj, cond_true, znd hj, zpi, Option.bind_some, zPd, zod hj hl, z4m hs.far]
  refine Ok.pure ⟨rfl, by rw [zRk hj]; rfl, ?_⟩
  simp only [Bool.and_eq_true, decide_eq_true_eq]
  cases a with
  | false =>
   constructor
   ·rintro ⟨h, _⟩; cases h
   ·rintro ⟨h1, h2⟩
    exact absurd (ha.2 ⟨h1, fun i h hij => h2 i h (by omega)⟩) (by simp)
  | true =>
   obtain ⟨h1, h2⟩ := ha.1 rfl
   have hw : w64 (shB s.Lines.1 j + 1) = shB s.Lines.1 j + 1 := by
    have hlow := zwp (l := s.Lines.1) (j := j) (by omega) fun i hi hij => (h2 i hi hij).1.1
    have hn := hn h1
    have hup : shB s.Lines.1 j ≤ 12 := by
     cases j with
     | zero => simp [shB]
     | succ j =>
      have := (h2 j (by omega) (by omega)).1.2
      rw [zRk (by omega)] at this
      simp only [shB]
      have : ((nF f : Nat) : Int) ≤ 12 := by exact_mod_cast hn
      omega
    exact zjb (by omega) (by omega)
   rw [hw]
   constructor
   ·rintro ⟨_, h3⟩
    refine ⟨h1, fun i h hij => ?_⟩
    by_cases e : i = j
    ·subst e; exact h3
    ·exact h2 i h (by omega)
   ·rintro ⟨_, h3⟩
    exact ⟨rfl, h3 j hj (by omega)⟩
 ·rintro ⟨a, d, i⟩ ⟨hi, hd, ha⟩
  obtain rfl : i = (s.Lines.1.length : Int) := hi
  simp only [zJd, zri, cond_false]
  refine Ok.pure ?_
  show a = true ↔ _
  have ha' : a = true ↔ acc = true ∧ ∀ i (h : i < s.Lines.1.length), i < s.Lines.1.length → P i h := ha
  rw [ha']
  exact ⟨fun h => ⟨h.1, fun i hi => h.2 i hi hi⟩, fun h => ⟨h.1, fun i hi _ => h.2 i hi⟩⟩
theorem zmv {k : Nat} {f : zb} (hs : zjc f) (hk : Fuel k f) (v3 : Bool × Int × Int) (v5 : Bool × Int) (acc : Bool) (hn : acc = true → nF f ≤ 12) : Ok (iter (fun s => zfe k f v3 v5 s.1 s.2) k (acc, 0)) (fun r => r.1 = true ↔ acc = true ∧ ∀ i (h : i < nS f), z2g (nF f) f.Slips.1[i]) := by
 refine Ok.count (nS f) (fun j s => s.2 = (j : Int) ∧ (s.1 = true ↔ acc = true ∧ ∀ i (h : i < nS f), i < j → z2g (nF f) f.Slips.1[i])) ?_ ?_ ⟨rfl, by simp⟩ hk.slips
 ·rintro j ⟨a, i⟩ hj ⟨hi, ha⟩
  obtain rfl : i = (j : Int) := hi
  have hm := List.getElem_mem hj
  simp only [zfe, z8f, zce hj, cond_true, znd hj, zpi, Option.bind_some, zPd]
  refine Ok.bind (zzt hs v3 v5 _ _ (hs.lines _ hm) (hk.lines _ hm) _ fun h => ?_) fun r hr => ?_
  ·simp only [Bool.and_eq_true] at h
   exact hn (ha.1 h.1).1
  ·refine Ok.pure ⟨by rw [zod hj hs.slips], ?_⟩
   show r.1 = true ↔ _
   rw [hr]
   simp only [Bool.and_eq_true, decide_eq_true_eq]
   have ha' : a = true ↔ acc = true ∧ ∀ i (h : i < nS f), i < j → z2g (nF f) f.Slips.1[i] := ha
   rw [ha']
   constructor
   ·rintro ⟨⟨⟨h1, h5⟩, h2, h3⟩, h4⟩
    refine ⟨h1, fun i h hij => ?_⟩
    by_cases e : i = j
    ·subst e; exact ⟨⟨h2, by omega⟩, h4⟩
    ·exact h5 i h (by omega)
   ·rintro ⟨h1, h2⟩
    obtain ⟨⟨h3, h4⟩, h5⟩ := h2 j hj (by omega)
    exact ⟨⟨⟨h1, fun i h hij => h2 i h (by omega)⟩, h3, by omega⟩, h5⟩
 ·rintro ⟨a, i⟩ ⟨hi, ha⟩
  obtain rfl : i = (nS f : Int) := hi
  simp only [zfe, zri, cond_false]
  refine Ok.pure ?_
  show a = true ↔ _
  have ha' : a = true ↔ acc = true ∧ ∀ i (h : i < nS f), i < nS f → z2g (nF f) f.Slips.1[i] := ha
  rw [ha']
  exact ⟨fun h => ⟨h.1, fun i hi => h.2 i hi hi⟩, fun h => ⟨h.1, fun i hi _ => h.2 i hi⟩⟩
open Classical in
theorem zDn {k : Nat} {f : zb} (hs : zjc f) (hk : Fuel k f) : Ok (z4b k f) (fun r => r = if Fine f then 0 else 30) := by
 unfold z4b
 refine Ok.bind (zkv k f) fun v1 h1 => ?_
 refine Ok.bind (zfv hs hk v1) fun v3 h3 => ?_
 refine Ok.bind (zsu hs hk v3 v3.1) fun v5 h5 => ?_
 refine Ok.bind (zmv hs hk v3 v5 v5.1 fun h => ?_) fun v7 h7 => ?_
 ·exact (h1.1 (h3.1 (h5.1 h).1).1).1.2
 have fin : v7.1 = true ↔ Fine f := by
  rw [h7, h5, h3, h1]
  exact ⟨fun h => ⟨h.1.1.1.1, h.1.1.1.2.1, h.1.1.1.2.2.1, h.1.1.1.2.2.2.1, h.1.1.1.2.2.2.2, h.1.1.2, h.1.2, h.2⟩, fun h => ⟨⟨⟨⟨h.nfar, h.npick, h.step, h.carry, h.nslips⟩, h.far⟩, h.pick⟩, h.slips⟩⟩
 refine Ok.cond (fun hb => Ok.pure ?_) (fun hb => Ok.pure ?_)
 ·rw [if_neg]
  intro hF
  rw [fin.2 hF] at hb
  cases hb
 ·rw [if_pos (fin.1 (by simpa using hb))]
theorem zzr {f : zb} (h : Fine f) : ∀ i, i < nF f → 0 ≤ fr f i
 | 0, hi => by have := (h.far 0 hi).1; simpa [frB] using this
 | i + 1, hi => by
  have := (h.far (i + 1) hi).1
  have ih := zzr h i (by omega)
  simp only [frB] at this
  omega
theorem z5u {k : Nat} {f : zb} (hs : zjc f) (hk : Fuel k f) : Ok (z3c k f) (fun r => r = true ↔ Fine f) := by
 obtain ⟨c, hc, hc'⟩ := zDn hs hk
 unfold z3c z6c
 rw [hc]
 simp only [Option.bind_some]
 by_cases hF : Fine f
 ·rw [if_pos hF] at hc'
  subst hc'
  have t : (((0 : Int) == 0) && ((decide ((1 : Int) ≤ (f.Far.1.length : Int)) && decide ((f.Far.1.length : Int) ≤ 12)) && (((f.Pick.1.length : Int) == (f.Far.1.length : Int)) && ((decide (1 ≤ f.Step.Low) && (decide (f.Step.Low ≤ f.Step.High) && decide (f.Step.High ≤ 10))) && ((decide (1 ≤ f.Carry) && decide (f.Carry ≤ 20)) && decide ((f.Slips.1.length : Int) ≤ 9)))))) = true := by
   have h1 := hF.nfar
   have h2 := hF.npick
   have h3 := hF.step
   have h4 := hF.carry
   have h5 := hF.nslips
   simp only [z5c, nF, nS] at h1 h2 h3 h4 h5
   simp only [Bool.and_eq_true, decide_eq_true_eq, beq_iff_eq]
   exact ⟨trivial, ⟨by omega, by omega⟩, by omega, h3, h4, by omega⟩
  simp only [zAj, z5p, Option.bind_some, zPd, t]
  refine Ok.bind (P := fun r : Bool × Int => r.1 = true) ?_ fun v3 h3 => ?_
  ·refine (Ok.everyWI f.Far.1 (fun i _ => i < nF f) (fun j hj hp => ?_) (fun i => by simp [zsb, zDb]) (by simp [zsb, zDb]) hk.far).mono fun r hr => hr.2 ⟨rfl, fun j hj => hj⟩
   have hpj : j < f.Pick.1.length := by have := hF.npick; simp only [nF] at this; omega
   have hp := hF.pick j hpj
   have hf := hF.far j hj
   have h0 := zzr hF j hj
   simp only [zsb, zDb, z7c, cond_true, zce hj, Option.bind_some, zYm hj, zAj, z5p, znd hpj, zod hj hs.far]
   have e1 : (decide (0 ≤ fr f j) && decide (fr f j ≤ 500)) = true := by simp; omega
   have e2 : (decide (0 ≤ f.Pick.1[j].Low) && (decide (f.Pick.1[j].Low ≤ f.Pick.1[j].High) && decide (f.Pick.1[j].High ≤ 300))) = true := by
    simp only [Bool.and_eq_true, decide_eq_true_eq]; exact hp
   simp only [e1, e2, cond_true]
   cases j with
   | zero => exact Ok.pure ⟨true, rfl, by simp; exact hj⟩
   | succ j =>
    have e3 : (((j + 1 : Nat) : Int) == 0) = false := by simp; omega
    have e4 : w64 (((j + 1 : Nat) : Int) - 1) = (j : Int) := by
     have := hF.nfar.2
     have hj' : j + 1 < nF f := hj
     rw [zjb (by omega) (by omega)]; omega
    have e5 : decide (fr f j ≤ fr f (j + 1)) = true := by simpa [frB] using hf.1
    simp only [e3, e4, cond_false, zYm (show j < nF f by have hj' : j + 1 < nF f := hj; omega), Option.bind_some, e5, cond_true]
    exact Ok.pure ⟨true, rfl, by simp; exact hj⟩
  ·refine Ok.bind (P := fun r : Bool × Int => r.1 = true) ?_ fun v5 h5 => Ok.pure ⟨fun _ => hF, fun _ => h5⟩
   rw [h3]
   refine (Ok.everyWI f.Slips.1 (fun i _ => i < nS f) (fun j hj hp => ?_) (fun i => by simp [zqb, zAb]) (by simp [zqb, zAb]) hk.slips).mono fun r hr => hr.2 ⟨rfl, fun j hj => hj⟩
   obtain ⟨⟨hu, hl⟩, hlines⟩ := hF.slips j hj
   have hm := List.getElem_mem hj
   simp only [zqb, zAb, z1c, cond_true, zce hj, Option.bind_some, znd hj, zAj, zPd, zod hj hs.slips]
   have e1 : ((decide (0 ≤ f.Slips.1[j].Until) && decide (f.Slips.1[j].Until ≤ 100000)) && (decide ((1 : Int) ≤ (f.Slips.1[j].Lines.1.length : Int)) && decide ((f.Slips.1[j].Lines.1.length : Int) ≤ (f.Far.1.length : Int)))) = true := by
    have := zRm hlines
    simp only [Bool.and_eq_true, decide_eq_true_eq]
    simp only [nF] at this
    omega
   rw [e1]
   refine Ok.bind (P := fun r : Bool × Int => r.1 = true) ?_ fun r hr => Ok.pure ⟨true, by rw [hr], by simp; exact hj⟩
   refine (Ok.everyWI f.Slips.1[j].Lines.1 (fun i _ => i < f.Slips.1[j].Lines.1.length) (fun i hi hp => ?_) (fun i => by simp [zLb, zMb]) (by simp [zLb, zMb]) (hk.lines _ hm)).mono fun r hr => hr.2 ⟨rfl, fun j hj => hj⟩
   have hli := hlines i hi
   have h0 := zwp (l := f.Slips.1[j].Lines.1) (j := i) (by omega) fun i hi _ => (hlines i hi).1.1
   simp only [zLb, zMb, zXc, cond_true, zce hi, Option.bind_some, znd hi, zAj, z4m hs.far, zod hi (hs.lines _ hm)]
   have e2 : (decide (0 ≤ f.Slips.1[j].Lines.1[i].Shelf) && decide (f.Slips.1[j].Lines.1[i].Shelf ≤ (f.Far.1.length : Int) - 1)) = true := by
    have := hli.1
    simp only [Bool.and_eq_true, decide_eq_true_eq]
    simp only [nF] at this
    omega
   have e3 : (decide (1 ≤ f.Slips.1[j].Lines.1[i].Many) && decide (f.Slips.1[j].Lines.1[i].Many ≤ 20)) = true := by
    simp only [Bool.and_eq_true, decide_eq_true_eq]; exact hli.2
   simp only [e2, e3, cond_true]
   cases i with
   | zero => exact Ok.pure ⟨true, rfl, by simp; exact hi⟩
   | succ i =>
    have e4 : (((i + 1 : Nat) : Int) == 0) = false := by simp; omega
    have e5 : w64 (((i + 1 : Nat) : Int) - 1) = (i : Int) := by
     have := hs.lines _ hm
     rw [zjb (by omega) (by omega)]; omega
    have e6 : decide (f.Slips.1[j].Lines.1[i].Shelf < f.Slips.1[j].Lines.1[i + 1].Shelf) = true := by
     have := hli.1.1
     simp only [shB] at this
     rw [← zRk (by omega)] at this
     simp; omega
    simp only [e4, e5, cond_false, znd (show i < f.Slips.1[j].Lines.1.length by omega), Option.bind_some, e6]
    exact Ok.pure ⟨true, rfl, by simp; exact hi⟩
 ·rw [if_neg hF] at hc'
  subst hc'
  have t : ((30 : Int) == 0) = false := by decide
  simp only [t, cond_false, Option.bind_some]
  obtain ⟨k, rfl⟩ : ∃ k', k = k' + 1 := ⟨k - 1, by have := hk.k0; omega⟩
  have o1 : iter (fun s => zsb (k + 1) f s.1 s.2) (k + 1) (false, 0) = some (false, 0) := by simp [iter, zsb, zDb]
  rw [o1]
  simp only [Option.bind_some]
  have o2 : iter (fun s => zqb (k + 1) f (false, 0) s.1 s.2) (k + 1) (false, 0) = some (false, 0) := by simp [iter, zqb, zAb]
  rw [o2]
  exact Ok.pure ⟨fun h => (by cases h), fun h => absurd h hF⟩
end Go.AM
set_option linter.unusedVariables false
namespace Go.AM
open Go
theorem zOp (f g : Nat → Int) : ∀ n i, eqI f g i n = true ↔ ∀ j, i ≤ j → j < i + n → f j = g j
 | 0, i => by simp [eqI]; omega
 | n + 1, i => by
  simp only [eqI, Bool.and_eq_true, zOp f g n (i + 1), beq_iff_eq]
  constructor
  ·rintro ⟨h0, h⟩ j h1 h2
   by_cases hj : j = i
   ·rw [hj]; exact h0
   ·exact h j (by omega) (by omega)
  ·intro h
   exact ⟨h i (by omega) (by omega), fun j h1 h2 => h j (by omega) (by omega)⟩
def put1 (g : Nat → Nat) (x : zl) : Nat → Nat := fun j => if j = x.Shelf.toNat then x.Many.toNat else g j
def pc (l : List zl) : Nat → Nat := l.foldl put1 fun _ => 0
theorem zks (l : List zl) (x : zl) : pc (l ++ [x]) = put1 (pc l) x := by simp [pc]
def slp (f : zb) (i : Nat) : zk := (f.Slips.1[i]?).getD ⟨([], .nil), 0⟩
theorem zkk {f : zb} {i : Nat} (h : i < nS f) : f.Slips.1[i] = slp f i := by
 unfold slp
 rw [List.getElem?_eq_getElem h]; rfl
theorem zcg {f : zb} {i : Nat} (h : i < nS f) : idx f.Slips.1 (i : Int) = some (slp f i) := by rw [znd h, zkk h]
theorem zaf {f : zb} (hF : Fine f) {i : Nat} (h : i < nS f) : z2g (nF f) (slp f i) := by
 have := hF.slips i h
 rwa [zkk h] at this
abbrev lns (f : zb) (i : Nat) : List zl := (slp f i).Lines.1
theorem z3m {n : Nat} {l : List zl} (h : zOf n l) {i : Nat} (hi : i < l.length) : 0 ≤ l[i].Shelf ∧ l[i].Shelf < n := by
 have h1 := zXn h i hi
 rw [← zRk hi] at h1
 have := (h i hi).1.2
 omega
theorem zTt {n : Nat} {l : List zl} (h : zOf n l) : (∀ j, pc l j ≤ 20) ∧ ∀ j, n ≤ j → pc l j = 0 := by
 have key : ∀ m, m ≤ l.length → (∀ j, pc (l.take m) j ≤ 20) ∧ ∀ j, n ≤ j → pc (l.take m) j = 0 := by
  intro m
  induction m with
  | zero => intro _; simp [pc]
  | succ m ih =>
   intro hm
   obtain ⟨h1, h2⟩ := ih (by omega)
   rw [List.take_succ_eq_append_getElem (by omega), zks]
   have hl := h m (by omega)
   have hs := z3m h (i := m) (by omega)
   refine ⟨fun j => ?_, fun j hj => ?_⟩
   ·unfold put1
    split
    ·omega
    ·exact h1 j
   ·unfold put1
    rw [if_neg (by omega)]
    exact h2 j hj
 have := key l.length (Nat.le_refl _)
 rwa [List.take_length] at this
theorem z6t {k : Nat} {f : zb} (hs : zjc f) (hk : Fuel k f) (hF : Fine f) {i : Nat} (hi : i < nS f) : Ok (zfc k ⟨f⟩ (i : Int)) (fun g => ∀ j, g j = ((pc (lns f i) j : Nat) : Int)) := by
 unfold zfc
 have hm := List.getElem_mem hi
 rw [zkk hi] at hm
 have hfine := zaf hF hi
 simp only [zcg hi, Option.bind_some]
 refine Ok.bind (P := fun v : Int × (Nat → Int) => ∀ j, v.2 j = ((pc (lns f i) j : Nat) : Int)) ?_ fun v hv => Ok.pure hv
 refine Ok.count (lns f i).length (fun j s => s.1 = (j : Int) ∧ ∀ t, s.2 t = ((pc ((lns f i).take j) t : Nat) : Int)) ?_ ?_ ⟨rfl, by simp [pc]⟩ (hk.lines _ hm)
 ·rintro j ⟨a, g⟩ hj ⟨ha, hg⟩
  obtain rfl : a = (j : Int) := ha
  have hl : (shB (lns f i) j + 1 ≤ (lns f i)[j].Shelf ∧ _) ∧ (1 ≤ (lns f i)[j].Many ∧ (lns f i)[j].Many ≤ 20) := hfine.2 j hj
  have hsh : 0 ≤ (lns f i)[j].Shelf ∧ (lns f i)[j].Shelf < nF f := z3m hfine.2 hj
  have hn := hF.nfar.2
  simp only [zJc, zce hj, cond_true, znd hj, Option.bind_some]
  have e : (decide (0 ≤ (lns f i)[j].Shelf) && decide ((lns f i)[j].Shelf < 12)) = true := by
   simp only [Bool.and_eq_true, decide_eq_true_eq]; omega
  rw [e, cond_true]
  refine Ok.pure ⟨zod hj (hs.lines _ hm), fun t => ?_⟩
  rw [List.take_succ_eq_append_getElem hj, zks]
  simp only [upd, put1]
  have hg' := hg t
  simp only at hg'
  split
  ·omega
  ·exact hg'
 ·rintro ⟨a, g⟩ ⟨ha, hg⟩
  obtain rfl : a = ((lns f i).length : Int) := ha
  simp only [zJc, zri, cond_false]
  refine Ok.pure fun t => ?_
  have := hg t
  rwa [List.take_length] at this
def zUc (f : zb) (i : Nat) : Int := wk f.Carry.toNat (fr f) 0 (ex (pc (lns f i)) (nF f))
theorem zFw {f : zb} (hF : Fine f) {i : Nat} (h : i < nF f) : 0 ≤ fr f i ∧ fr f i ≤ 500 := ⟨zzr hF i h, (hF.far i h).2⟩
theorem zSq {f : zb} (hF : Fine f) {g : Nat → Nat} : ∀ x ∈ ex g (nF f), 0 ≤ fr f x ∧ fr f x ≤ 500 := fun x hx => zFw hF (zUt hx).1
theorem zJo {f : zb} (hF : Fine f) {i : Nat} (hi : i < nS f) : 0 ≤ zUc f i ∧ zUc f i ≤ 240000 := by
 have h1 := zTt (zaf hF hi).2
 have h2 := zTm (f := pc (lns f i)) (b := 20) (n := nF f) fun j _ => h1.1 j
 have h3 := zRl (C := f.Carry.toNat) (b := 500) (by omega) (ex (pc (lns f i)) (nF f)) 0 (zSq hF)
 have h4 := hF.nfar.2
 unfold zUc
 have : ((ex (pc (lns f i)) (nF f)).length : Int) ≤ 240 := by
  have : 20 * nF f ≤ 240 := by omega
  omega
 omega
theorem zit (k : Nat) : zXe k = some fun _ => 0 := rfl
theorem z9u {k : Nat} {f : zb} (hk : Fuel k f) (hF : Fine f) (i : Int) (v1 : (SL Int) × Int × Int × (SL zq) × Int × (SL zk) × Int) (n : Int) {g : Nat → Int} {lf : Nat → Nat} (hg : ∀ t, t < 12 → g t = ((lf t : Nat) : Int)) (h20 : ∀ t, lf t ≤ 20) :
  Ok (iter (fun s => znc k ⟨f⟩ i v1 n s.1 s.2.1 s.2.2.1 s.2.2.2) k (f.Carry, (nF f : Int) - 1, g, fun _ => 0)) (fun r => ∃ a b : Nat → Nat, (∀ t, t < 12 → r.2.2.1 t = ((a t : Nat) : Int)) ∧ (∀ t, t < 12 → r.2.2.2 t = ((b t : Nat) : Int)) ∧
   ex a (nF f) = (ex lf (nF f)).drop f.Carry.toNat ∧ ex b (nF f) = (ex lf (nF f)).take f.Carry.toNat ∧ (∀ t, nF f ≤ t → a t = lf t) ∧ (∀ t, a t ≤ lf t) ∧ ∀ t, nF f ≤ t → b t = 0) := by
 have hC := hF.carry
 refine Ok.count (nF f) (fun j s => ∃ m r : Nat, m + j = nF f ∧ s.2.1 = (m : Int) - 1 ∧ s.1 = (r : Int) ∧ r ≤ 20 ∧ ∃ a b : Nat → Nat, (∀ t, t < 12 → s.2.2.1 t = ((a t : Nat) : Int)) ∧ (∀ t, t < 12 → s.2.2.2 t = ((b t : Nat) : Int)) ∧
   (∀ t, t < m → a t = lf t ∧ b t = 0) ∧ (ex lf (nF f)).drop f.Carry.toNat = hi a m j ++ (ex lf m).drop r ∧ (ex lf (nF f)).take f.Carry.toNat = hi b m j ++ (ex lf m).take r ∧ (∀ t, nF f ≤ t → a t = lf t) ∧ (∀ t, a t ≤ lf t) ∧ ∀ t, nF f ≤ t → b t = 0) ?_ ?_ ?_ hk.far
 ·rintro j ⟨s1, s2, s3, s4⟩ hj ⟨m, r, hm, h2, h1, hr, a, b, ha, hb, hlow, hd, ht, hx, hle, hy⟩
  obtain ⟨m, rfl⟩ : ∃ m', m = m' + 1 := ⟨m - 1, by omega⟩
  have hn := hF.nfar.2
  obtain rfl : s2 = (m : Int) := by simp only at h2; omega
  obtain rfl : s1 = (r : Int) := h1
  simp only [znc]
  have e1 : decide ((m : Int) ≥ 0) = true := by simp
  have e2 : decide ((m : Int) < 12) = true := by simp; omega
  have e3 : s3 m = ((lf m : Nat) : Int) := by
   have := ha m (by omega)
   simp only at this
   rw [this, (hlow m (by omega)).1]
  have e4 : (if s3 m < (r : Int) then s3 m else (r : Int)) = ((min r (lf m) : Nat) : Int) := by
   rw [e3]
   split <;> omega
  have hb20 := h20 m
  simp only [e1, e2, Bool.and_self, cond_true, Int.toNat_natCast, e4]
  rw [e3, zjb (by omega) (by omega), zjb (by omega) (by omega), zjb (by omega) (by omega)]
  refine Ok.pure ⟨m, r - min r (lf m), by omega, rfl, by show _ = _; omega, by omega, fun t => if t = m then lf m - r else a t, fun t => if t = m then min r (lf m) else b t, fun t ht => ?_, fun t ht => ?_, fun t ht => ?_, ?_, ?_, fun t ht => ?_, fun t => ?_, fun t ht => ?_⟩
  ·simp only [upd]
   split
   ·omega
   ·exact ha t ht
  ·simp only [upd]
   split
   ·rfl
   ·exact hb t ht
  ·dsimp only
   rw [if_neg (by omega), if_neg (by omega)]
   exact hlow t (by omega)
  ·rw [hd, zQq, ex, zPu, ← List.append_assoc]
   rw [if_pos rfl]
   have : r - min r (lf m) = r - lf m := by omega
   rw [this, zIn (g := a) (m := m + 1) (fun t h1 h2 => if_neg (by omega))]
  ·rw [ht, zQq, ex, zru, ← List.append_assoc]
   rw [if_pos rfl]
   have : r - min r (lf m) = r - lf m := by omega
   rw [this, zIn (g := b) (m := m + 1) (fun t h1 h2 => if_neg (by omega))]
  ·dsimp only; rw [if_neg (by omega)]; exact hx t ht
  ·dsimp only
   split
   ·rename_i e; subst e; omega
   ·exact hle t
  ·dsimp only; rw [if_neg (by omega)]; exact hy t ht
 ·rintro ⟨s1, s2, s3, s4⟩ ⟨m, r, hm, h2, h1, hr, a, b, ha, hb, hlow, hd, ht, hx, hle, hy⟩
  obtain rfl : m = 0 := by omega
  obtain rfl : s2 = -1 := by simp only at h2; omega
  simp only [znc]
  have e1 : decide ((-1 : Int) ≥ 0) = false := by decide
  rw [e1, cond_false]
  rw [zis] at hd ht
  simp only [ex, List.drop_nil, List.take_nil, List.append_nil] at hd ht
  exact Ok.pure ⟨a, b, ha, hb, hd.symm, ht.symm, hx, hle, hy⟩
 ·refine ⟨nF f, f.Carry.toNat, by omega, rfl, by show f.Carry = _; omega, by omega, lf, fun _ => 0, hg, fun _ _ => rfl, fun t _ => ⟨rfl, rfl⟩, by simp [hi], by simp [hi], fun _ _ => rfl, fun _ => Nat.le_refl _, fun _ _ => rfl⟩
theorem z3u {k : Nat} {f : zb} (hs : zjc f) (hk : Fuel k f) (hF : Fine f) (i : Int) (v1 : (SL Int) × Int × Int × (SL zq) × Int × (SL zk) × Int) (n : Int) (v : Int × Int × (Nat → Int) × (Nat → Int)) {b : Nat → Nat} (hb : ∀ t, t < 12 → v.2.2.2 t = ((b t : Nat) : Int)) :
  Ok (iter (fun s => zmc k ⟨f⟩ i v1 n v s.1 s.2) k (0, 0)) (fun r => r.1 = topF b (fr f) (nF f)) := by
 have hn := hF.nfar.2
 refine Ok.count (nF f) (fun j s => s.2 = (j : Int) ∧ s.1 = topF b (fr f) j) ?_ ?_ ⟨rfl, rfl⟩ hk.far
 ·rintro j ⟨s1, s2⟩ hj ⟨h2, h1⟩
  obtain rfl : s2 = (j : Int) := h2
  obtain rfl : s1 = _ := h1
  simp only [zmc, zXd, zce hj, cond_true, Int.toNat_natCast]
  have e2 : (decide (0 ≤ (j : Int)) && decide ((j : Int) < 12)) = true := by simp; omega
  have e3 : decide (v.2.2.2 j > 0) = decide (0 < b j) := by
   rw [hb j (by omega)]
   simp
  rw [e2, cond_true, e3, zYm hj]
  simp only [Option.bind_some]
  cases hbj : decide (0 < b j) with
  | true =>
   simp only [cond_true, Option.bind_some]
   refine Ok.pure ⟨zod hj hs.far, ?_⟩
   show fr f j = _
   rw [topF, if_pos (by simpa using hbj)]
  | false =>
   simp only [cond_false, Option.bind_some]
   refine Ok.pure ⟨zod hj hs.far, ?_⟩
   show topF b (fr f) j = _
   rw [topF, if_neg (by simpa using hbj)]
 ·rintro ⟨s1, s2⟩ ⟨h2, h1⟩
  obtain rfl : s2 = (nF f : Int) := h2
  simp only [zmc, zri, cond_false]
  exact Ok.pure h1
theorem zTu {k : Nat} {f : zb} (hs : zjc f) (hk : Fuel k f) (hF : Fine f) {i : Nat} (hi : i < nS f) : Ok (zCc k ⟨f⟩ (i : Int)) (fun r => r = zUc f i) := by
 unfold zCc zNd
 simp only [Option.bind_some]
 refine Ok.bind (z6t hs hk hF hi) fun g hg => ?_
 have hpc := zTt (zaf hF hi).2
 have hW := zJo hF hi
 have hlen : (ex (pc (lns f i)) (nF f)).length ≤ 240 := by
  have := zTm (f := pc (lns f i)) (b := 20) (n := nF f) fun j _ => hpc.1 j
  have := hF.nfar.2
  omega
 have hC := hF.carry
 refine Ok.bind (P := fun v : (Nat → Int) × Int => v.2 = zUc f i) ?_ fun v hv => Ok.pure hv
 refine Ok.iter (fun j s => ∃ lf : Nat → Nat, (∀ t, t < 12 → s.1 t = ((lf t : Nat) : Int)) ∧ (∀ t, lf t ≤ 20) ∧ (∀ t, nF f ≤ t → lf t = 0) ∧ 0 ≤ s.2 ∧ s.2 + wk f.Carry.toNat (fr f) 0 (ex lf (nF f)) = zUc f i ∧ (ex lf (nF f)).length + j ≤ 240) 240 ?_ ⟨pc (lns f i), fun t _ => hg t, hpc.1, hpc.2, Int.le_refl _, by simp [zUc], by omega⟩ (by have := hk.k0; omega)
 rintro j ⟨s1, s2⟩ hj ⟨lf, h1, h20, hz, h0, hw, hl⟩
 simp only [zZd, zit, Option.bind_some]
 refine Ok.cond (fun hb => ?_) (fun hb => ?_)
 ·have hne : ex lf (nF f) ≠ [] := by
   intro he
   have hall := zno.1 he
   have : eqI s1 (fun _ => 0) 0 12 = true := (zOp _ _ 12 0).2 fun t _ ht => by
    have := h1 t (by omega)
    simp only at this
    rw [this]
    by_cases e : t < nF f
    ·rw [hall t e]; rfl
    ·rw [hz t (by omega)]; rfl
   rw [this] at hb
   cases hb
  rw [z4m hs.far]
  refine Ok.bind (z9u hk hF _ _ _ h1 h20) fun v ⟨a, b, ha, hb', hd, ht, hx, hle, hy⟩ => ?_
  refine Ok.bind (z3u hs hk hF _ _ _ _ hb') fun w hw' => ?_
  rw [hw']
  obtain ⟨x, t, hxt⟩ : ∃ x t, ex lf (nF f) = x :: t := by
   cases h : ex lf (nF f) with
   | nil => exact absurd h hne
   | cons x t => exact ⟨x, t, rfl⟩
  have htop : topF b (fr f) (nF f) = fr f x := by
   obtain ⟨c, hc⟩ : ∃ c, f.Carry.toNat = c + 1 := ⟨f.Carry.toNat - 1, by omega⟩
   refine zos (t := t.take c) ?_
   rw [ht, hxt, hc, List.take_succ_cons]
  have hfx : 0 ≤ fr f x ∧ fr f x ≤ 500 := zSq hF x (by rw [hxt]; simp)
  rw [htop]
  have hcons := zOv (C := f.Carry.toNat) (by omega) (fr f) x t
  rw [← hxt, ← hd] at hcons
  have hwa := zRl (C := f.Carry.toNat) (b := 500) (by omega) (ex a (nF f)) 0 (zSq hF)
  have hw : s2 + wk f.Carry.toNat (fr f) 0 (ex lf (nF f)) = zUc f i := hw
  have h0 : 0 ≤ s2 := h0
  rw [zjb (n := 2 * fr f x) (by omega) (by omega), zjb (by omega) (by omega)]
  refine Ok.pure ⟨?_, a, ha, fun t => by have := hle t; have := h20 t; omega, fun t ht => by rw [hx t ht]; exact hz t ht, by show 0 ≤ s2 + _; omega, by show s2 + 2 * fr f x + _ = _; omega, ?_⟩
  ·rw [hxt] at hl; simp at hl; omega
  ·rw [hd, List.length_drop]
   rw [hxt] at hl ⊢
   simp only [List.length_cons] at hl ⊢
   omega
 ·refine Ok.pure ?_
  have hall : eqI s1 (fun _ => 0) 0 12 = true := by simpa using hb
  have hall := (zOp _ _ 12 0).1 hall
  have he : ex lf (nF f) = [] := zno.2 fun t ht => by
   have hn := hF.nfar.2
   have e1 := h1 t (by omega)
   have e2 := hall t (by omega) (by omega)
   simp only at e1 e2
   rw [e1] at e2
   omega
  have hw : s2 + wk f.Carry.toNat (fr f) 0 (ex lf (nF f)) = zUc f i := hw
  rw [he] at hw
  simp only [wk] at hw
  show s2 = _
  omega
end Go.AM
set_option linter.unusedVariables false
namespace Go.AM
open Go
def pk (f : zb) (i : Nat) : zq := (f.Pick.1[i]?).getD ⟨0, 0⟩
theorem zFv {f : zb} {i : Nat} (h : i < f.Pick.1.length) : f.Pick.1[i] = pk f i := by
 unfold pk
 rw [List.getElem?_eq_getElem h]; rfl
theorem z7r {f : zb} (hF : Fine f) {i : Nat} (h : i < nF f) : z5c 0 300 (pk f i) := by
 have hp : i < f.Pick.1.length := by rw [hF.npick]; exact h
 have := hF.pick i hp
 rwa [zFv hp] at this
theorem zkw {f : zb} (hF : Fine f) {n : Int} (h : 0 ≤ n ∧ n < nF f) : idx f.Pick.1 n = some (pk f n.toNat) := by
 have hp : n.toNat < f.Pick.1.length := by rw [hF.npick]; omega
 rw [zrw h.1 hp, zFv hp]
def pks (f : zb) (v : zq → Int) (l : List zl) : Int := (l.map fun x => x.Many * v (pk f x.Shelf.toNat)).sum
theorem zQr (f : zb) (v : zq → Int) (l : List zl) (x : zl) : pks f v (l ++ [x]) = pks f v l + x.Many * v (pk f x.Shelf.toNat) := by simp [pks, List.sum_append]
def zee (f : zb) (i : Nat) (v : zq → Int) : Int := zUc f i * v f.Step + pks f v (lns f i)
theorem zPq {a b x y : Int} (ha : 0 ≤ a) (hax : a ≤ x) (hb : 0 ≤ b) (hby : b ≤ y) : 0 ≤ a * b ∧ a * b ≤ x * y :=
 ⟨Int.mul_nonneg ha hb, Int.mul_le_mul hax hby hb (by omega)⟩
theorem zrr {f : zb} (hF : Fine f) {v : zq → Int} (hv : ∀ s, z5c 0 300 s → 0 ≤ v s ∧ v s ≤ 300) {l : List zl} (hl : zOf (nF f) l) : ∀ j, j ≤ l.length → 0 ≤ pks f v (l.take j) ∧ pks f v (l.take j) ≤ 6000 * j
 | 0, _ => by simp [pks]
 | j + 1, hj => by
  have ih := zrr hF hv hl j (by omega)
  have h1 := z3m hl (i := j) (by omega)
  have h2 := (hl j (by omega)).2
  have h3 := hv _ (z7r hF (i := l[j].Shelf.toNat) (by omega))
  have h4 := zPq (a := l[j].Many) (b := v (pk f l[j].Shelf.toNat)) (x := 20) (y := 300) (by omega) h2.2 h3.1 h3.2
  rw [List.take_succ_eq_append_getElem (by omega), zQr]
  push_cast
  omega
theorem zso {f : zb} (hF : Fine f) {v : zq → Int} (hv : ∀ s, z5c 0 300 s → 0 ≤ v s ∧ v s ≤ 300) (hv' : 0 ≤ v f.Step ∧ v f.Step ≤ 10) {i : Nat} (hi : i < nS f) : (0 ≤ zUc f i * v f.Step ∧ zUc f i * v f.Step ≤ 2400000) ∧ 0 ≤ zee f i v ∧ zee f i v ≤ 2472000 := by
 have h1 := zJo hF hi
 have h2 := zPq h1.1 h1.2 hv'.1 hv'.2
 have h3 := zrr hF hv (zaf hF hi).2 (lns f i).length (Nat.le_refl _)
 have h4 := zRm (zaf hF hi).2
 have h5 := hF.nfar.2
 rw [List.take_length] at h3
 have h6 : ((lns f i).length : Int) ≤ 12 := by
  have : (lns f i).length ≤ nF f := h4
  omega
 unfold zee
 omega
theorem zro : ∀ s, z5c 0 300 s → 0 ≤ s.High ∧ s.High ≤ 300 := fun s h => ⟨by have := h.1; have := h.2.1; omega, h.2.2⟩
theorem zrq {f : zb} (hF : Fine f) : 0 ≤ f.Step.High ∧ f.Step.High ≤ 10 := by have := hF.step; unfold z5c at this; omega
theorem zxs {k : Nat} {f : zb} (hs : zjc f) (hk : Fuel k f) (hF : Fine f) {i : Nat} (hi : i < nS f) : Ok (zhc k ⟨f⟩ (i : Int)) (fun r => r = zee f i (·.High)) := by
 unfold zhc zYd
 have hm := List.getElem_mem hi
 rw [zkk hi] at hm
 have hfine := zaf hF hi
 have hin := zso hF zro (zrq hF) hi
 refine Ok.bind (P := fun r => r = zee f i (·.High)) (Ok.bind (zTu hs hk hF hi) fun st hst => ?_) fun r hr => Ok.pure hr
 subst hst
 simp only [zWc, Option.bind_some, zcg hi]
 rw [zjb (by omega) (by omega)]
 refine Ok.bind (P := fun v : Int × Int => v.1 = zee f i (·.High)) ?_ fun v hv => Ok.pure hv
 refine Ok.count (lns f i).length (fun j s => s.2 = (j : Int) ∧ s.1 = zUc f i * f.Step.High + pks f (·.High) ((lns f i).take j)) ?_ ?_ ⟨rfl, by simp [pks]⟩ (hk.lines _ hm)
 ·rintro j ⟨a, b⟩ hj ⟨hb, ha⟩
  obtain rfl : b = (j : Int) := hb
  obtain rfl : a = _ := ha
  have h1 := z3m hfine.2 hj
  have h2 := (hfine.2 j hj).2
  have h3 := zro _ (z7r hF (i := (lns f i)[j].Shelf.toNat) (by show (slp f i).Lines.1[j].Shelf.toNat < _; omega))
  have h4 := zPq (a := (lns f i)[j].Many) (b := (pk f (lns f i)[j].Shelf.toNat).High) (x := 20) (y := 300) (by show 0 ≤ (slp f i).Lines.1[j].Many; omega) h2.2 h3.1 h3.2
  have h5 := zrr hF zro hfine.2 j (Nat.le_of_lt hj)
  have h6 := zRm hfine.2
  have h7 := hF.nfar.2
  have h8 : (j : Int) ≤ 12 := by
   have : j < (slp f i).Lines.1.length := hj
   omega
  simp only [zsc, zce hj, cond_true, znd hj, Option.bind_some, zWc]
  rw [zkw hF h1]
  simp only [Option.bind_some]
  have h5' : 0 ≤ pks f (fun x => x.High) (List.take j (lns f i)) ∧ pks f (fun x => x.High) (List.take j (lns f i)) ≤ 6000 * j := h5
  rw [zjb (n := (lns f i)[j].Many * (pk f (lns f i)[j].Shelf.toNat).High) (by omega) (by omega), zjb (by omega) (by omega)]
  refine Ok.pure ⟨zod hj (hs.lines _ hm), ?_⟩
  rw [List.take_succ_eq_append_getElem hj, zQr]
  show _ + _ = _
  omega
 ·rintro ⟨a, b⟩ ⟨hb, ha⟩
  obtain rfl : b = ((lns f i).length : Int) := hb
  simp only [zsc, zri, cond_false]
  rw [List.take_length] at ha
  exact Ok.pure ha
theorem zcu {f : zb} (hs : zjc f) (k : Nat) (n : Int) : zwb k ⟨f⟩ n = some (decide (0 ≤ n) && decide (n ≤ (nS f : Int) - 1)) := by
 simp only [zwb, zpi, z4m hs.slips, Option.bind_some]
theorem zKv (k : Nat) {n : Int} {m : Nat} (hm : 0 < m) (hb : m < 1000) : ∃ i, i < m ∧ zBb k n (m : Int) = some (i : Int) := by
 have h1 : decide ((m : Int) < 1) = false := by simp; omega
 have h2 : ((m : Int) == 0) = false := by simp; omega
 have hneg := Int.tmod_lt_of_pos n (show (0 : Int) < (m : Int) by omega)
 have hlow : -(m : Int) < n.tmod (m : Int) := by
  have := Int.lt_tmod_of_pos n (show (0 : Int) < (m : Int) by omega)
  omega
 simp only [zBb, h1, h2, cond_false, zDc]
 by_cases h : n.tmod (m : Int) < 0
 ·refine ⟨(n.tmod (m : Int) + m).toNat, by omega, ?_⟩
  rw [show decide (n.tmod (m : Int) < 0) = true by simpa using h]
  simp only [cond_true, Option.bind_some]
  rw [zjb (by omega) (by omega), Int.toNat_of_nonneg (by omega)]
 ·refine ⟨(n.tmod (m : Int)).toNat, by omega, ?_⟩
  rw [show decide (n.tmod (m : Int) < 0) = false by simpa using h]
  simp only [cond_false, Option.bind_some]
  rw [Int.toNat_of_nonneg (by omega)]
end Go.AM
set_option linter.unusedVariables false
namespace Go.AM
open Go
theorem zUw (k : Nat) (a b : Int) : zhb k a b = some ⟨a, b⟩ := rfl
end Go.AM
set_option linter.unusedVariables false
namespace Go.AM
open Go
section
variable (T U : Nat → Int)
def InT : Int → List Nat → Prop
 | _, [] => True
 | now, x :: t => now + T x ≤ U x ∧ InT (now + T x) t
def lsum (u : Int) : List Nat → Int
 | [] => 0
 | x :: t => (if U x ≤ u then T x else 0) + lsum u t
def zSc (l : List Nat) : Prop := ∀ x ∈ l, lsum T U (U x) l ≤ U x
def CanL (p : Nat) (l : List Nat) : Prop := ∃ g : Nat → Nat, (∀ i ∈ l, g i < p) ∧ ∀ q, zSc T U (l.filter fun i => g i == q)
variable {T U} {u : Int}
theorem z5t {l l' : List Nat} (h : l.Perm l') : lsum T U u l = lsum T U u l' := by
 induction h with
 | nil => rfl
 | cons x _ ih => simp only [lsum, ih]
 | swap x y l => simp only [lsum]; omega
 | trans _ _ h1 h2 => rw [h1, h2]
theorem zun (hT : ∀ i, 0 ≤ T i) : ∀ l, 0 ≤ lsum T U u l
 | [] => by simp [lsum]
 | x :: t => by
  have := zun hT t
  have := hT x
  simp only [lsum]
  split <;> omega
theorem z9q (hT : ∀ i, 0 ≤ T i) {l l' : List Nat} (h : l.Sublist l') : lsum T U u l ≤ lsum T U u l' := by
 induction h with
 | slnil => exact Int.le_refl _
 | cons x _ ih =>
  have := hT x
  simp only [lsum]
  split <;> omega
 | cons_cons x _ ih => simp only [lsum]; omega
theorem zSc.perm {l l' : List Nat} (h : l.Perm l') (hf : zSc T U l) : zSc T U l' := fun x hx => by
 rw [← z5t h]
 exact hf x (h.mem_iff.2 hx)
theorem zSc.sub (hT : ∀ i, 0 ≤ T i) {l l' : List Nat} (h : l.Sublist l') (hf : zSc T U l') : zSc T U l := fun x hx => by
 have := hf x (h.subset hx)
 have := z9q (U := U) (u := U x) hT h
 omega
theorem zSc.nil : zSc T U [] := fun x hx => by cases hx
theorem InT.low (hT : ∀ i, 0 ≤ T i) : ∀ {l : List Nat} {now : Int}, InT T U now l → ∀ u, (∃ x ∈ l, U x ≤ u) → now + lsum T U u l ≤ u
 | [], _, _, u, ⟨x, hx, _⟩ => by cases hx
 | x :: t, now, h, u, hex => by
  obtain ⟨h1, h2⟩ := h
  have hTx := hT x
  simp only [lsum]
  by_cases ht : ∃ y ∈ t, U y ≤ u
  ·have := InT.low hT h2 u ht
   split <;> omega
  ·have hx : U x ≤ u := by
    obtain ⟨y, hy, hyu⟩ := hex
    rcases List.mem_cons.1 hy with rfl | hy
    ·exact hyu
    ·exact absurd ⟨y, hy, hyu⟩ ht
   have h0 : lsum T U u t = 0 := by
    have : ∀ l : List Nat, (¬ ∃ y ∈ l, U y ≤ u) → lsum T U u l = 0 := by
     intro l
     induction l with
     | nil => intro _; rfl
     | cons a l ih =>
      intro h
      simp only [lsum]
      rw [if_neg (fun e => h ⟨a, by simp, e⟩), ih fun ⟨y, hy, e⟩ => h ⟨y, by simp [hy], e⟩]
      omega
    exact this t ht
   rw [if_pos hx, h0]
   omega
theorem InT.fits (hT : ∀ i, 0 ≤ T i) {l : List Nat} (h : InT T U 0 l) : zSc T U l := fun x hx => by
 have := InT.low hT h (U x) ⟨x, hx, Int.le_refl _⟩
 omega
theorem InT.of_sorted (hT : ∀ i, 0 ≤ T i) : ∀ {l : List Nat} {now : Int}, l.Pairwise (fun a b => U a ≤ U b) → (∀ x ∈ l, now + lsum T U (U x) l ≤ U x) → InT T U now l
 | [], _, _, _ => trivial
 | x :: t, now, hs, h => by
  rw [List.pairwise_cons] at hs
  have hx := h x (by simp)
  have h0 := zun (U := U) (u := U x) hT t
  simp only [lsum, Int.le_refl, if_true] at hx
  refine ⟨by omega, InT.of_sorted hT hs.2 fun y hy => ?_⟩
  have := h y (by simp [hy])
  simp only [lsum] at this
  rw [if_pos (hs.1 y hy)] at this
  omega
theorem zSc.inT (hT : ∀ i, 0 ≤ T i) {l : List Nat} (hs : l.Pairwise fun a b => U a ≤ U b) (h : zSc T U l) : InT T U 0 l :=
 InT.of_sorted hT hs fun x hx => by have := h x hx; omega
theorem CanL.perm {p : Nat} {l l' : List Nat} (h : l.Perm l') : CanL T U p l → CanL T U p l' := fun ⟨g, h1, h2⟩ =>
 ⟨g, fun i hi => h1 i (h.mem_iff.2 hi), fun q => (h2 q).perm (h.filter _)⟩
theorem CanL.sub (hT : ∀ i, 0 ≤ T i) {p : Nat} {l l' : List Nat} (h : l.Sublist l') : CanL T U p l' → CanL T U p l := fun ⟨g, h1, h2⟩ =>
 ⟨g, fun i hi => h1 i (h.subset hi), fun q => (h2 q).sub hT (h.filter _)⟩
theorem CanL.more {p q : Nat} (hpq : p ≤ q) {l : List Nat} : CanL T U p l → CanL T U q l := fun ⟨g, h1, h2⟩ =>
 ⟨g, fun i hi => by have := h1 i hi; omega, h2⟩
theorem CanL.nil (p : Nat) : CanL T U p [] := ⟨fun _ => 0, fun i hi => (by cases hi), fun q => zSc.nil⟩
theorem CanL.zero {l : List Nat} : CanL T U 0 l ↔ l = [] := by
 constructor
 ·rintro ⟨g, h1, _⟩
  cases l with
  | nil => rfl
  | cons x t => exact absurd (h1 x (by simp)) (by omega)
 ·rintro rfl; exact .nil 0
theorem CanL.step {p : Nat} {l : List Nat} {a : Nat} (ha : a ∈ l) : CanL T U (p + 1) l ↔ ∃ sub : Nat → Bool, sub a = true ∧ zSc T U (l.filter sub) ∧ CanL T U p (l.filter fun i => !sub i) := by
 constructor
 ·rintro ⟨g, h1, h2⟩
  refine ⟨fun i => g i == g a, by simp, h2 _, fun i => if g i = p then g a else g i, fun i hi => ?_, fun q => ?_⟩
  ·have hi' := List.mem_filter.1 hi
   have hlt := h1 i hi'.1
   have hne : g i ≠ g a := by simpa using hi'.2
   dsimp only
   split
   ·have := h1 a ha; omega
   ·omega
  ·by_cases hq : q = g a
   ·subst hq
    have e : ((l.filter fun i => !(g i == g a)).filter fun i => (if g i = p then g a else g i) == g a) = (l.filter fun i => g i == p).filter fun i => !(g i == g a) := by
     rw [List.filter_filter, List.filter_filter]
     refine List.filter_congr fun i _ => ?_
     by_cases h : g i = g a
     ·simp [h]
     ·by_cases h' : g i = p <;> simp [h, h']
    rw [e]
    by_cases hp : g a = p
    ·have : (l.filter fun i => g i == p).filter (fun i => !(g i == g a)) = [] := by
      rw [List.filter_filter]
      refine List.filter_eq_nil_iff.2 fun i _ => ?_
      rw [hp]; simp
     rw [this]
     exact .nil
    ·have : (l.filter fun i => g i == p).filter (fun i => !(g i == g a)) = l.filter fun i => g i == p := by
      rw [List.filter_filter]
      refine List.filter_congr fun i _ => ?_
      by_cases h : g i = p
      ·have : ¬ p = g a := fun e => hp e.symm
       simp [h, this]
      ·simp [h]
     rw [this]
     exact h2 p
   ·by_cases hqp : q = p
    ·have : ((l.filter fun i => !(g i == g a)).filter fun i => (if g i = p then g a else g i) == q) = [] := by
      rw [List.filter_filter]
      refine List.filter_eq_nil_iff.2 fun i _ => ?_
      subst hqp
      by_cases h : g i = q
      ·have : ¬ g a = q := fun e => hq e.symm
       simp [h, this]
      ·simp [h]
     rw [this]
     exact .nil
    ·have : ((l.filter fun i => !(g i == g a)).filter fun i => (if g i = p then g a else g i) == q) = l.filter fun i => g i == q := by
      rw [List.filter_filter]
      refine List.filter_congr fun i _ => ?_
      by_cases h : g i = p
      ·have e1 : (g a == q) = false := by simp; omega
       have e2 : (p == q) = false := by simp; omega
       simp [h, e1, e2]
      ·by_cases h' : g i = q
       ·simp [h', hqp, hq]
       ·simp [h, h']
     rw [this]
     exact h2 q
 ·rintro ⟨sub, hsa, hf, g, h1, h2⟩
  refine ⟨fun i => if sub i then p else g i, fun i hi => ?_, fun q => ?_⟩
  ·dsimp only
   cases hs : sub i with
   | true => simp
   | false =>
    have := h1 i (List.mem_filter.2 ⟨hi, by simp [hs]⟩)
    simp; omega
  ·by_cases hq : q = p
   ·have : (l.filter fun i => (if sub i = true then p else g i) == q) = l.filter sub := by
     refine List.filter_congr fun i hi => ?_
     cases hs : sub i with
     | true => simp [hq]
     | false =>
      have := h1 i (List.mem_filter.2 ⟨hi, by simp [hs]⟩)
      simp; omega
    rw [this]
    exact hf
   ·have : (l.filter fun i => (if sub i = true then p else g i) == q) = (l.filter fun i => !sub i).filter fun i => g i == q := by
     rw [List.filter_filter]
     refine List.filter_congr fun i hi => ?_
     cases hs : sub i with
     | true => simp; omega
     | false => simp
    rw [this]
    exact h2 q
end
end Go.AM
set_option linter.unusedVariables false
namespace Go.AM
open Go
abbrev TT (f : zb) (i : Nat) : Int := zee f i (·.High)
abbrev UU (f : zb) (i : Nat) : Int := (slp f i).Until
def mem (n S : Nat) : List Nat := (List.range n).filter fun i => S.testBit i
def cst (q : List Nat) : List Int := q.map fun i : Nat => (i : Int)
theorem zag (q : List Nat) : (cst q).length = q.length := by simp [cst]
theorem zrj {n S i : Nat} : i ∈ mem n S ↔ i < n ∧ S.testBit i = true := by simp [mem]
theorem zBr (n S : Nat) : mem (n + 1) S = mem n S ++ (if S.testBit n then [n] else []) := by
 simp only [mem, List.range_succ, List.filter_append]
 cases h : S.testBit n <;> simp [h]
theorem z6r (n S : Nat) : (mem n S).length ≤ n := by
 have := List.length_filter_le (fun i => S.testBit i) (List.range n)
 simpa [mem] using this
theorem zFp {q : List Nat} {i : Nat} (h : i < q.length) : idx (cst q) (i : Int) = some ((q[i] : Nat) : Int) := by
 rw [znd (by rw [zag]; exact h)]
 simp [cst]
theorem zfp {f : zb} (hF : Fine f) {i : Nat} (h : i < nS f) : 0 ≤ UU f i ∧ UU f i ≤ 100000 := (zaf hF h).1.1
theorem zJs {f : zb} (hF : Fine f) {i : Nat} (h : i < nS f) : 0 ≤ TT f i ∧ TT f i ≤ 2472000 := (zso hF zro (zrq hF) h).2
theorem z9s {k : Nat} {f : zb} (hs : zjc f) (hk : Fuel k f) (hF : Fine f) : Ok (zdd k ⟨f⟩) (fun r => r.1 = (List.range (nS f)).map (TT f)) := by
 unfold zdd
 refine Ok.bind (P := fun v : Int × List Int => v.2 = (List.range (nS f)).map (TT f)) ?_ fun v hv => Ok.pure hv
 have h9 := hF.nslips
 refine Ok.count (nS f) (fun j s => s.1 = (j : Int) ∧ s.2 = (List.range j).map (TT f)) ?_ ?_ ⟨rfl, rfl⟩ hk.slips
 ·rintro j ⟨a, l⟩ hj ⟨ha, hl⟩
  obtain rfl : a = (j : Int) := ha
  obtain rfl : l = _ := hl
  obtain ⟨t, ht, rfl⟩ := zxs hs hk hF hj
  have e : decide (((List.range j).map (TT f)).length + 1 ≤ LIM) = true := by simp [LIM]; omega
  simp only [zGc, zce hj, cond_true, ht, Option.bind_some, e]
  refine Ok.pure ⟨zod hj hs.slips, ?_⟩
  rw [List.range_succ, List.map_append]
  rfl
 ·rintro ⟨a, l⟩ ⟨ha, hl⟩
  obtain rfl : a = (nS f : Int) := ha
  simp only [zGc, zri, cond_false]
  exact Ok.pure hl
theorem zVu {k : Nat} {f : zb} (hs : zjc f) (hk : Fuel k f) (hF : Fine f) {S : Nat} (hS : S < 2 ^ nS f) (p2 : SL Int) : Ok (iter (fun s => zpc k ⟨f⟩ (S : Int) p2 s.1 s.2) k (0, ([] : List Int))) (fun r => r.2 = cst (mem (nS f) S)) := by
 have h9 := hF.nslips
 have h2 : S < 2 ^ 63 := by
  have : 2 ^ nS f ≤ 2 ^ 9 := Nat.pow_le_pow_right (by omega) h9
  omega
 refine Ok.count (nS f) (fun j s => s.1 = (j : Int) ∧ s.2 = cst (mem j S)) ?_ ?_ ⟨rfl, rfl⟩ hk.slips
 ·rintro j ⟨a, l⟩ hj ⟨ha, hl⟩
  obtain rfl : a = (j : Int) := ha
  obtain rfl : l = _ := hl
  have e1 : decide ((j : Int) < 0) = false := by simp
  have hml := z6r j S
  have e2 : decide ((cst (mem j S)).length + 1 ≤ LIM) = true := by rw [zag]; simp [LIM]; omega
  simp only [zpc, zce hj, cond_true, e1, cond_false, zBw (show j < 64 by omega) h2, e2]
  cases hb : S.testBit j with
  | true =>
   simp only [cond_true]
   refine Ok.pure ⟨zod hj hs.slips, ?_⟩
   rw [zBr, hb]
   simp [cst]
  | false =>
   simp only [cond_false]
   refine Ok.pure ⟨zod hj hs.slips, ?_⟩
   rw [zBr, hb]
   simp
 ·rintro ⟨a, l⟩ ⟨ha, hl⟩
  obtain rfl : a = (nS f : Int) := ha
  simp only [zpc, zri, cond_false]
  exact Ok.pure hl
abbrev Srt (f : zb) (q : List Nat) : Prop := q.Pairwise fun a b => UU f a ≤ UU f b
theorem zKt {k : Nat} {f : zb} (hk : Fuel k f) (hF : Fine f) (v1 : Int × List Int) (v3 : Int × Int × List Int) (h3 : v3.1 = 0) (i : Int) {P0 R : List Nat} {x : Nat} (hP : Srt f P0) (hin : ∀ y ∈ P0 ++ x :: R, y < nS f) (hlen : P0.length < 100) :
  Ok (iter (fun s => zKc k ⟨f⟩ v1 v3 i s.1 s.2) k ((P0.length : Int), cst (P0 ++ x :: R))) (fun r => ∃ P', r.2 = cst (P' ++ R) ∧ Srt f P' ∧ P'.Perm (x :: P0)) := by
 refine Ok.iter (fun j s => ∃ m, m + j = P0.length ∧ s.1 = (m : Int) ∧ s.2 = cst (P0.take m ++ x :: (P0.drop m ++ R)) ∧ ∀ q ∈ P0.drop m, UU f x < UU f q) P0.length ?_ ⟨P0.length, by omega, rfl, by simp, by simp⟩ (by have := hk.k0; omega)
 rintro j ⟨a, l⟩ hj ⟨m, hm, ha, hl, hq⟩
 obtain rfl : a = (m : Int) := ha
 obtain rfl : l = _ := hl
 have hx : x < nS f := hin x (by simp)
 have ends : (∀ m', m = m' + 1 → ∀ h : m' < P0.length, ¬ UU f x < UU f P0[m']) → ∃ P', cst (P0.take m ++ x :: (P0.drop m ++ R)) = cst (P' ++ R) ∧ Srt f P' ∧ P'.Perm (x :: P0) := by
  intro hend
  refine ⟨P0.take m ++ x :: P0.drop m, by simp, ?_, ?_⟩
  ·have hP' : Srt f (P0.take m ++ P0.drop m) := by rw [List.take_append_drop]; exact hP
   rw [Srt, List.pairwise_append] at hP' ⊢
   obtain ⟨a1, a2, a3⟩ := hP'
   refine ⟨a1, List.pairwise_cons.2 ⟨fun q hq' => Int.le_of_lt (hq q hq'), a2⟩, fun y hy z hz => ?_⟩
   rcases List.mem_cons.1 hz with rfl | hz
   ·cases m with
    | zero => simp at hy
    | succ m =>
     have hml : m < P0.length := by omega
     have h1 := hend m rfl hml
     have hyp : UU f y ≤ UU f P0[m] := by
      rw [List.take_succ_eq_append_getElem hml] at hy a1
      rcases List.mem_append.1 hy with hy | hy
      ·exact (List.pairwise_append.1 a1).2.2 y hy _ (by simp)
      ·simp at hy; rw [hy]; exact Int.le_refl _
     omega
   ·exact a3 y hy z hz
  ·have : (P0.take m ++ x :: P0.drop m).Perm (x :: (P0.take m ++ P0.drop m)) := List.perm_middle
   rwa [List.take_append_drop] at this
 simp only [zKc, zDd, h3]
 cases m with
 | zero =>
  have e : decide (((0 : Nat) : Int) > 0) = false := by decide
  simp only [e, cond_false, Option.bind_some]
  exact Ok.pure (ends fun m' hm' => by omega)
 | succ m =>
  have hml : m < P0.length := by omega
  have e : decide (((m + 1 : Nat) : Int) > 0) = true := by simp
  have e1 : w64 (((m + 1 : Nat) : Int) - 1) = (m : Int) := by rw [zjb (by omega) (by omega)]; omega
  have hp : P0[m] < nS f := hin _ (by simp)
  have hsplit : P0.take (m + 1) ++ x :: (P0.drop (m + 1) ++ R) = P0.take m ++ P0[m] :: x :: (P0.drop (m + 1) ++ R) := by
   rw [List.take_succ_eq_append_getElem hml, List.append_assoc]; rfl
  have hlt : (P0.take m).length = m := by rw [List.length_take]; omega
  have at0 : ∀ (c : Nat) (W : List Nat), idx (cst (P0.take m ++ c :: W)) (m : Int) = some (c : Int) := fun c W => by
   rw [zFp (by rw [List.length_append, List.length_cons, hlt]; omega), List.getElem_append_right (by omega)]
   simp [hlt]
  have at1 : ∀ (c d : Nat) (W : List Nat), idx (cst (P0.take m ++ c :: d :: W)) ((m + 1 : Nat) : Int) = some (d : Int) := fun c d W => by
   rw [zFp (by rw [List.length_append, List.length_cons, List.length_cons, hlt]; omega), List.getElem_append_right (by omega)]
   simp [hlt]
  have set0 : ∀ (c d : Nat) (W : List Nat), (cst (P0.take m ++ c :: W)).set m (d : Int) = cst (P0.take m ++ d :: W) := fun c d W => by
   unfold cst
   rw [List.map_append, List.map_append, List.set_append_right _ _ (by rw [List.length_map, hlt]; omega), List.length_map, hlt, Nat.sub_self]
   rfl
  have set1 : ∀ (c d e : Nat) (W : List Nat), (cst (P0.take m ++ c :: d :: W)).set (m + 1) (e : Int) = cst (P0.take m ++ c :: e :: W) := fun c d e W => by
   unfold cst
   rw [List.map_append, List.map_append, List.set_append_right _ _ (by rw [List.length_map, hlt]; omega), List.length_map, hlt, Nat.add_sub_cancel_left]
   rfl
  have i1 : idx (cst (P0.take (m + 1) ++ x :: (P0.drop (m + 1) ++ R))) ((m + 1 : Nat) : Int) = some (x : Int) := by
   rw [hsplit]; exact at1 _ _ _
  have i2 : idx (cst (P0.take (m + 1) ++ x :: (P0.drop (m + 1) ++ R))) (m : Int) = some ((P0[m] : Nat) : Int) := by
   rw [hsplit]; exact at0 _ _
  have u1 := zfp hF hx
  have u2 := zfp hF hp
  have s1 : (cst (P0.take (m + 1) ++ x :: (P0.drop (m + 1) ++ R))).set ((m + 1 : Nat) : Int).toNat ((P0[m] : Nat) : Int) = cst (P0.take m ++ P0[m] :: P0[m] :: (P0.drop (m + 1) ++ R)) := by
   rw [hsplit, Int.toNat_natCast]; exact set1 _ _ _ _
  have i3 : idx ((cst (P0.take (m + 1) ++ x :: (P0.drop (m + 1) ++ R))).set ((m + 1 : Nat) : Int).toNat ((P0[m] : Nat) : Int)) (m : Int) = some ((P0[m] : Nat) : Int) := by
   rw [s1]; exact at0 _ _
  have hset : ((cst (P0.take (m + 1) ++ x :: (P0.drop (m + 1) ++ R))).set ((m + 1 : Nat) : Int).toNat ((P0[m] : Nat) : Int)).set (m : Int).toNat (x : Int) = cst (P0.take m ++ x :: (P0.drop m ++ R)) := by
   rw [s1, Int.toNat_natCast, set0, List.drop_eq_getElem_cons hml]; rfl
  have hus : (slp f x).Until = UU f x := rfl
  have hup : (slp f P0[m]).Until = UU f P0[m] := rfl
  simp only [e, cond_true, e1, i1, i2, Option.bind_some, zcg hx, zcg hp, hus, hup]
  rw [zjb (by omega) (by omega)]
  cases hb : decide (UU f x - UU f P0[m] < 0) with
  | true =>
   simp only [cond_true, i3, Option.bind_some, hset]
   refine Ok.pure ⟨by omega, m, by omega, rfl, rfl, fun q hq' => ?_⟩
   rw [List.drop_eq_getElem_cons hml] at hq'
   rcases List.mem_cons.1 hq' with rfl | hq'
   ·have : UU f x - UU f P0[m] < 0 := by simpa using hb
    omega
   ·exact hq q hq'
  | false =>
   simp only [cond_false]
   refine Ok.pure (ends fun m' hm' h => ?_)
   obtain rfl : m = m' := by omega
   have : ¬ UU f x - UU f P0[m] < 0 := by simpa using hb
   omega
theorem ziu {k : Nat} {f : zb} (hk : Fuel k f) (hF : Fine f) {q0 : List Nat} (v1 : Int × List Int) (h1 : v1.2 = cst q0) (v3 : Int × Int × List Int) (h3 : v3.1 = 0) (hin : ∀ y ∈ q0, y < nS f) (hlen : q0.length ≤ 9) :
  Ok (iter (fun s => z2b k ⟨f⟩ v1 v3 s.1 s.2) k (1, cst q0)) (fun r => ∃ q, r.2 = cst q ∧ Srt f q ∧ q.Perm q0) := by
 refine Ok.count (q0.length - 1) (fun j s => s.1 = ((j + 1 : Nat) : Int) ∧ ∃ q, s.2 = cst q ∧ Srt f (q.take (j + 1)) ∧ q.Perm q0) ?_ ?_ ⟨rfl, q0, rfl, by cases q0 <;> simp [Srt], .refl _⟩ (by have := hk.k0; omega)
 ·rintro j ⟨a, l⟩ hj ⟨ha, q, hl, hsq, hp⟩
  obtain rfl : a = ((j + 1 : Nat) : Int) := ha
  obtain rfl : l = cst q := hl
  have hq := hp.length_eq
  have hjq : j + 1 < q.length := by omega
  have e : decide (((j + 1 : Nat) : Int) < (v1.2.length : Int)) = true := by rw [h1, zag]; simp; omega
  simp only [z2b, e, cond_true]
  have hsp : q = q.take (j + 1) ++ q[j + 1] :: q.drop (j + 2) := by
   rw [← List.drop_eq_getElem_cons hjq, List.take_append_drop]
  have hl : (q.take (j + 1)).length = j + 1 := by simp; omega
  have st : (((j + 1 : Nat) : Int), cst q) = (((q.take (j + 1)).length : Int), cst (q.take (j + 1) ++ q[j + 1] :: q.drop (j + 2))) := by rw [← hsp, hl]
  rw [st]
  refine Ok.bind (zKt hk hF v1 v3 h3 _ hsq (fun y hy => hin y (hp.mem_iff.1 (by rw [hsp]; exact hy))) (by omega)) fun v ⟨P', e1, e2, e3⟩ => ?_
  have hPl : P'.length = j + 2 := by have := e3.length_eq; simp only [List.length_cons, hl] at this; omega
  refine Ok.pure ⟨by rw [zjb (by omega) (by omega)]; push_cast; omega, P' ++ q.drop (j + 2), e1, ?_, ?_⟩
  ·show Srt f ((P' ++ q.drop (j + 2)).take (j + 1 + 1))
   rw [List.take_append_of_le_length (by omega), List.take_of_length_le (by omega)]
   exact e2
  ·refine List.Perm.trans ?_ hp
   have : (q[j + 1] :: q.take (j + 1) ++ q.drop (j + 2)).Perm q := by
    conv => rhs; rw [hsp]
    exact List.perm_middle.symm
   exact (e3.append_right _).trans this
 ·rintro ⟨a, l⟩ ⟨ha, q, hl, hsq, hp⟩
  obtain rfl : a = ((q0.length - 1 + 1 : Nat) : Int) := ha
  obtain rfl : l = cst q := hl
  have hq := hp.length_eq
  have e : decide (((q0.length - 1 + 1 : Nat) : Int) < (v1.2.length : Int)) = false := by rw [h1, zag]; simp; omega
  simp only [z2b, e, cond_false]
  refine Ok.pure ⟨q, rfl, ?_, hp⟩
  rwa [List.take_of_length_le (by omega)] at hsq
theorem zZt {k : Nat} {f : zb} (hk : Fuel k f) (hF : Fine f) {q : List Nat} (p1 : Int) {p2 : SL Int} (h2 : p2.1 = (List.range (nS f)).map (TT f)) (v1 v5 : Int × List Int) (h5 : v5.2 = cst q) (hin : ∀ y ∈ q, y < nS f) (hlen : q.length ≤ 9) :
  Ok (iter (fun s => z3b k ⟨f⟩ p1 p2 v1 v5 s.1 s.2) k (0, 0)) (fun r => match r with
   | .inl _ => ¬ InT (TT f) (UU f) 0 q
   | .inr _ => InT (TT f) (UU f) 0 q) := by
 refine Ok.count q.length (fun j s => s.2 = (j : Int) ∧ (0 ≤ s.1 ∧ s.1 ≤ 3000000 * (j : Int)) ∧ (InT (TT f) (UU f) 0 q ↔ InT (TT f) (UU f) s.1 (q.drop j))) ?_ ?_ ⟨rfl, by simp, by simp⟩ (by have := hk.k0; omega)
 ·rintro j ⟨now, a⟩ hj ⟨ha, hb, hi⟩
  obtain rfl : a = (j : Int) := ha
  have hx : q[j] < nS f := hin _ (by simp)
  have ht := zJs hF hx
  have hu := zfp hF hx
  have hb : 0 ≤ now ∧ now ≤ 3000000 * j := hb
  have e1 : decide ((j : Int) < (v5.2.length : Int)) = true := by rw [h5, zag]; simp; omega
  have e2 : idx p2.1 ((q[j] : Nat) : Int) = some (TT f q[j]) := by
   rw [h2, znd (by simpa using hx)]; simp
  have e3 : idx v5.2 (j : Int) = some ((q[j] : Nat) : Int) := by rw [h5]; exact zFp hj
  simp only [z3b, e1, cond_true, e3, e2, Option.bind_some, zcg hx]
  rw [zjb (n := now + TT f q[j]) (by omega) (by omega)]
  rw [List.drop_eq_getElem_cons hj] at hi
  refine Ok.cond (fun hc => Ok.pure ?_) (fun hc => Ok.pure ?_)
  ·show ¬ InT (TT f) (UU f) 0 q
   rw [hi]
   rintro ⟨h, _⟩
   have : now + TT f q[j] > UU f q[j] := by simpa using hc
   have h : now + TT f q[j] ≤ UU f q[j] := h
   omega
  ·have : ¬ now + TT f q[j] > UU f q[j] := by simpa using hc
   refine ⟨by rw [zjb (by omega) (by omega)]; push_cast; rfl, by show 0 ≤ now + _ ∧ now + _ ≤ _; push_cast; omega, ?_⟩
   rw [hi]
   exact ⟨fun h => h.2, fun h => ⟨by show now + TT f q[j] ≤ UU f q[j]; omega, h⟩⟩
 ·rintro ⟨now, a⟩ ⟨ha, hb, hi⟩
  obtain rfl : a = (q.length : Int) := ha
  have e1 : decide ((q.length : Int) < (v5.2.length : Int)) = false := by rw [h5, zag]; simp
  simp only [z3b, e1, cond_false]
  refine Ok.pure ?_
  show InT (TT f) (UU f) 0 q
  rw [hi]
  simp [InT]
theorem zNo {f : zb} (hF : Fine f) (i : Nat) : 0 ≤ TT f i := by
 by_cases h : i < nS f
 ·exact (zJs hF h).1
 ·have hl : lns f i = [] := by
   show (slp f i).Lines.1 = []
   unfold slp
   rw [List.getElem?_eq_none (by have e : f.Slips.1.length = nS f := rfl; omega)]; rfl
  have h0 : zUc f i = 0 := by
   unfold zUc
   rw [hl]
   have : ex (pc []) (nF f) = [] := zno.2 fun j _ => rfl
   rw [this]; rfl
  show 0 ≤ zee f i _
  unfold zee
  rw [hl, h0]
  simp [pks]
theorem zyu {k : Nat} {f : zb} (hs : zjc f) (hk : Fuel k f) (hF : Fine f) {S : Nat} (hS : S < 2 ^ nS f) {p2 : SL Int} (h2 : p2.1 = (List.range (nS f)).map (TT f)) :
  Ok (zMd k ⟨f⟩ (S : Int) p2) (fun r => (r.2 = true ∧ zSc (TT f) (UU f) (mem (nS f) S) ∧ ∃ q, r.1.1 = cst q ∧ q.Perm (mem (nS f) S) ∧ InT (TT f) (UU f) 0 q) ∨ (r.2 = false ∧ ¬ zSc (TT f) (UU f) (mem (nS f) S))) := by
 unfold zMd
 have h9 := hF.nslips
 have hml := z6r (nS f) S
 obtain ⟨k', rfl⟩ : ∃ k', k = k' + 1 := ⟨k - 1, by have := hk.k0; omega⟩
 refine Ok.bind (zVu hs hk hF hS p2) fun v1 h1 => ?_
 have hlen : v1.2.length ≤ 9 := by rw [h1, zag]; omega
 have o3 : iter (fun s => z2c (k' + 1) ⟨f⟩ v1 s.1 s.2.1 s.2.2) (k' + 1) (0, 20, v1.2) = some (0, 20, v1.2) := by
  have e : decide ((20 : Int) ≤ (v1.2.length : Int)) = false := by simp; omega
  simp [iter, z2c, e]
 rw [o3]
 simp only [Option.bind_some]
 rw [show w64 (0 + 1) = 1 by rfl, h1]
 refine Ok.bind (ziu hk hF v1 h1 _ rfl (fun y hy => (zrj.1 hy).1) (by omega)) fun v5 ⟨q, h5, hsq, hp⟩ => ?_
 have hq := hp.length_eq
 have e1 : decide ((cst (mem (nS f) S)).length = v5.2.length) = true := by rw [h5, zag, zag]; simp; omega
 have e2 : decide (v1.2.length = v5.2.length) = true := by rw [h1]; exact e1
 have e3 : iter (fun _ : Unit => zOb (k' + 1) ⟨f⟩ v1 (0, 20, v1.2) v5) (k' + 1) () = some () := by
  have e : decide ((20 : Int) < (v1.2.length : Int)) = false := by simp; omega
  simp [iter, zOb, e]
 rw [h1] at e3
 rw [e1]
 simp only [cond_true]
 have e3' : iter (fun _ : Unit => zOb (k' + 1) ⟨f⟩ v1 (0, 20, cst (mem (nS f) S)) v5) (k' + 1) () = some () := e3
 rw [e3']
 simp only [Option.bind_some]
 have hin : ∀ y ∈ q, y < nS f := fun y hy => (zrj.1 (hp.mem_iff.1 hy)).1
 refine Ok.bind (zZt hk hF _ h2 v1 v5 h5 hin (by omega)) fun v h => ?_
 cases v with
 | inl v =>
  refine Ok.pure (.inr ⟨rfl, fun hf => h ?_⟩)
  exact (hf.perm hp.symm).inT (zNo hF) hsq
 | inr v =>
  refine Ok.pure (.inl ⟨rfl, (InT.fits (zNo hF) h).perm hp, q, h5, hp, h⟩)
end Go.AM
set_option linter.unusedVariables false
namespace Go.AM
open Go
theorem zZv {x y : Nat} (hx : x < 2 ^ 63) (hy : y < 2 ^ 63) : z9c (x : Int) (y : Int) = ((x &&& y : Nat) : Int) := by
 unfold z9c
 rw [BitVec.toNat_and, BitVec.ofInt_natCast, BitVec.ofInt_natCast, BitVec.toNat_ofNat, BitVec.toNat_ofNat, Nat.mod_eq_of_lt (by omega), Nat.mod_eq_of_lt (by omega), zjb]
 ·omega
 ·have : x &&& y ≤ x := Nat.and_le_left
  omega
def low (S : Nat) : Nat := ((List.range 9).find? fun i => S.testBit i).getD 0
theorem zew : ((List.range 512).all fun S => S == 0 || (z9c (S : Int) (w64 (0 - (S : Int))) == ((2 ^ low S : Nat) : Int) && S.testBit (low S))) = true := by kernel_rfl
theorem zSv : ((List.range 512).all fun p => (List.range 9).all fun a => (z9c (p : Int) ((2 ^ a : Nat) : Int) == 0) == !p.testBit a) = true := by kernel_rfl
theorem zbp {S n i : Nat} (h : S < 2 ^ n) (hb : S.testBit i = true) : i < n := by
 apply Classical.byContradiction
 intro hn
 rw [Nat.testBit_lt_two_pow (Nat.lt_of_lt_of_le h (Nat.pow_le_pow_right (by omega) (by omega)))] at hb
 cases hb
theorem zIw {S : Nat} (h0 : S ≠ 0) (h : S < 512) : S.testBit (low S) = true ∧ ∀ p : Nat, p < 512 → (z9c (p : Int) (z9c (S : Int) (w64 (0 - (S : Int)))) == 0) = !p.testBit (low S) := by
 have h1 := List.all_eq_true.1 zew S (List.mem_range.2 h)
 simp only [Bool.or_eq_true, beq_iff_eq, Bool.and_eq_true] at h1
 rcases h1 with h1 | ⟨h1, h2⟩
 ·exact absurd h1 h0
 ·refine ⟨h2, fun p hp => ?_⟩
  have h3 := List.all_eq_true.1 zSv p (List.mem_range.2 hp)
  have h4 := List.all_eq_true.1 h3 (low S) (List.mem_range.2 (zbp (n := 9) h h2))
  rw [h1]
  exact beq_iff_eq.1 h4
theorem zQw {n S : Nat} (h : S < 2 ^ n) (h0 : S ≠ 0) : mem n S ≠ [] := by
 intro he
 apply h0
 apply Nat.eq_of_testBit_eq
 intro i
 rw [Nat.zero_testBit]
 cases hb : S.testBit i with
 | false => rfl
 | true =>
  have : i ∈ mem n S := zrj.2 ⟨zbp h hb, hb⟩
  rw [he] at this
  cases this
def msk (p : Nat → Bool) : Nat → Nat
 | 0 => 0
 | m + 1 => msk p m ||| (if p m then 2 ^ m else 0)
theorem zvs (p : Nat → Bool) (i : Nat) : ∀ n, (msk p n).testBit i = (decide (i < n) && p i)
 | 0 => by simp [msk]
 | n + 1 => by
  rw [msk, Nat.testBit_or, zvs p i n]
  by_cases hi : i = n
  ·subst hi
   cases h : p i <;> simp
  ·have e : (if p n then 2 ^ n else 0 : Nat).testBit i = false := by
    split
    ·rw [Nat.testBit_two_pow]; simp; omega
    ·simp
   rw [e]
   by_cases h : i < n
   ·simp [h]; omega
   ·have : ¬ i < n + 1 := by omega
    simp [h, this]
theorem zxq {S n : Nat} (h : ∀ i, S.testBit i = true → i < n) : S < 2 ^ n := by
 apply Nat.lt_pow_two_of_testBit
 intro i hi
 cases hb : S.testBit i with
 | false => rfl
 | true => have := h i hb; omega
theorem zws {x S : Nat} : x &&& S = x ↔ ∀ i, x.testBit i = true → S.testBit i = true := by
 constructor
 ·intro h i hi
  rw [← h, Nat.testBit_and] at hi
  exact (Bool.and_eq_true_iff.1 hi).2
 ·intro h
  apply Nat.eq_of_testBit_eq
  intro i
  rw [Nat.testBit_and]
  cases hb : x.testBit i with
  | false => rfl
  | true => rw [h i hb]; rfl
theorem z1u : ∀ (p x S : Nat), p &&& S = p → x &&& S = x → x < p → x ≤ (p - 1) &&& S := by
 intro p
 induction p using Nat.strongRecOn with
 | _ p ih =>
  intro x S hp hx hlt
  have hp2 : p / 2 &&& S / 2 = p / 2 := by rw [← Nat.and_div_two, hp]
  have hx2 : x / 2 &&& S / 2 = x / 2 := by rw [← Nat.and_div_two, hx]
  have hd : ((p - 1) &&& S) / 2 = (p - 1) / 2 &&& S / 2 := Nat.and_div_two
  have hmx : x % 2 = 1 → S % 2 = 1 := fun h => by
   rw [← hx] at h
   exact (Nat.and_mod_two_eq_one.1 h).2
  by_cases hb : p % 2 = 1
  ·have e : (p - 1) / 2 = p / 2 := by omega
   rw [e, hp2] at hd
   omega
  ·have e : (p - 1) / 2 = p / 2 - 1 := by omega
   have hlt2 : x / 2 < p / 2 := by omega
   have h1 := ih (p / 2) (by omega) (x / 2) (S / 2) hp2 hx2 hlt2
   rw [e] at hd
   rw [← hd] at h1
   by_cases hxo : x % 2 = 1
   ·have : ((p - 1) &&& S) % 2 = 1 := Nat.and_mod_two_eq_one.2 ⟨by omega, hmx hxo⟩
    omega
   ·omega
section
variable {T U : Nat → Int}
theorem znp {n S x : Nat} (hS : S < 2 ^ 63) (hx : x < 2 ^ 63) : mem n (dif S x) = (mem n S).filter fun i => !x.testBit i := by
 unfold mem
 rw [List.filter_filter]
 refine List.filter_congr fun i _ => ?_
 rw [(zqq hS hx).2.2.2 i, Bool.and_comm]
theorem zNn {n S x : Nat} (h : x &&& S = x) : mem n x = (mem n S).filter fun i => x.testBit i := by
 unfold mem
 rw [List.filter_filter]
 refine List.filter_congr fun i _ => ?_
 cases hb : x.testBit i with
 | false => rfl
 | true => rw [zws.1 h i hb]; rfl
theorem z2u {n S a p : Nat} (hn : n ≤ 9) (hS : S < 2 ^ n) (ha : S.testBit a = true) : CanL T U (p + 1) (mem n S) ↔ ∃ x, x &&& S = x ∧ x.testBit a = true ∧ zSc T U (mem n x) ∧ CanL T U p (mem n (dif S x)) := by
 have hb : 2 ^ n ≤ 2 ^ 9 := Nat.pow_le_pow_right (by omega) hn
 rw [CanL.step (zrj.2 ⟨zbp hS ha, ha⟩)]
 constructor
 ·rintro ⟨sub, h1, h2, h3⟩
  have hm : ∀ i, (msk (fun i => S.testBit i && sub i) n).testBit i = (decide (i < n) && (S.testBit i && sub i)) := fun i => zvs _ i n
  have hs : msk (fun i => S.testBit i && sub i) n &&& S = msk (fun i => S.testBit i && sub i) n := zws.2 fun i hi => by
   rw [hm] at hi
   simp only [Bool.and_eq_true] at hi
   exact hi.2.1
  have hlt : msk (fun i => S.testBit i && sub i) n < 2 ^ n := zxq fun i hi => by
   rw [hm] at hi
   simp only [Bool.and_eq_true, decide_eq_true_eq] at hi
   exact hi.1
  refine ⟨_, hs, ?_, ?_, ?_⟩
  ·rw [hm, ha, h1]; simp [zbp hS ha]
  ·rw [zNn hs]
   have : (mem n S).filter (fun i => (msk (fun i => S.testBit i && sub i) n).testBit i) = (mem n S).filter sub := List.filter_congr fun i hi => by
    obtain ⟨h, h'⟩ := zrj.1 hi
    rw [hm, h']; simp [h]
   rw [this]; exact h2
  ·rw [znp (by omega) (by omega)]
   have : (mem n S).filter (fun i => !(msk (fun i => S.testBit i && sub i) n).testBit i) = (mem n S).filter fun i => !sub i := List.filter_congr fun i hi => by
    obtain ⟨h, h'⟩ := zrj.1 hi
    rw [hm, h']; simp [h]
   rw [this]; exact h3
 ·rintro ⟨x, h1, h2, h3, h4⟩
  have hlt : x ≤ S := by rw [← h1]; exact Nat.and_le_right
  refine ⟨fun i => x.testBit i, h2, ?_, ?_⟩
  ·rw [← zNn h1]; exact h3
  ·rw [← znp (by omega) (by omega)]; exact h4
end
def Ros (f : zb) (p S : Nat) (rows : List (SL Int)) : Prop := rows.length = p ∧ ∃ qs : List (List Nat), rows.map (·.1) = qs.map cst ∧ qs.flatten.Perm (mem (nS f) S) ∧ ∀ q ∈ qs, InT (TT f) (UU f) 0 q
abbrev Can (f : zb) (p S : Nat) : Prop := CanL (TT f) (UU f) p (mem (nS f) S)
def z0m (f : zb) (p S : Nat) (l : SL (SL Int)) : Prop := (l.2 = .nil → ¬ Can f p S) ∧ (l.2 ≠ .nil → Can f p S ∧ Ros f p S l.1)
abbrev Memo := List (zt × SL (SL Int))
def zUe (f : zb) (u : Memo) : Prop := ∀ p S : Nat, S < 2 ^ nS f → ∀ l, zZ zw ⟨(S : Int), (p : Int)⟩ u = some l → z0m f p S l
theorem zXr (a b : zt) : zw a b = true ↔ a = b := by
 cases a; cases b
 simp [zw]
theorem zUe.set {f : zb} {u : Memo} (h : zUe f u) {p S : Nat} {l : SL (SL Int)} (hl : z0m f p S l) : zUe f (mset zw ⟨(S : Int), (p : Int)⟩ l u) := by
 intro p' S' hS' l' h'
 rw [zGr zXr] at h'
 split at h'
 ·rename_i e
  simp only [zt.mk.injEq] at e
  obtain ⟨e1, e2⟩ := e
  obtain rfl : S' = S := by omega
  obtain rfl : p' = p := by omega
  simp only [Option.some.injEq] at h'
  subst h'
  exact hl
 ·exact h p' S' hS' l' h'
abbrev RcT := Memo → zt → Option (SL (SL Int) × Memo)
def RcOK (f : zb) (p : Nat) (rc : RcT) : Prop := ∀ (u : Memo) (S : Nat), zUe f u → S < 2 ^ nS f → Ok (rc u ⟨(S : Int), (p : Int)⟩) (fun r => zUe f r.2 ∧ z0m f p S r.1)
theorem z4t {k : Nat} {f : zb} (hs : zjc f) (hk : Fuel k f) (hF : Fine f) (p1 : zt) {v1 : SL Int} (h1 : v1.1 = (List.range (nS f)).map (TT f)) (u0 : Memo) {S p : Nat} (hS : S < 2 ^ nS f) (h0 : S ≠ 0) (hp : p < 8) {rc : RcT} (hrc : RcOK f p rc) {u : Memo} (hu : zUe f u) :
  Ok (iter (fun s => zOc k ⟨f⟩ p1 v1 u0 ⟨(S : Int), ((p + 1 : Nat) : Int)⟩ rc s.1 s.2) k ((S : Int), u)) (fun r => match r with
   | .inl v => zUe f v.2 ∧ ¬ Can f (p + 1) S
   | .inr v => zUe f v.2.2.2.2.2 ∧ v.1.2 ≠ .nil ∧ Can f (p + 1) S ∧ Ros f (p + 1) S v.1.1) := by
 have h9 := hF.nslips
 have hb : 2 ^ nS f ≤ 2 ^ 9 := Nat.pow_le_pow_right (by omega) h9
 obtain ⟨hla, hlow⟩ := zIw h0 (show S < 512 by omega)
 have hstep := z2u (T := TT f) (U := UU f) (p := p) h9 hS hla
 refine Ok.iter (fun j s => ∃ x : Nat, s.1 = (x : Int) ∧ x &&& S = x ∧ x + j ≤ 511 ∧ zUe f s.2 ∧ ∀ y, y &&& S = y → x < y → y.testBit (low S) = true → ¬ (zSc (TT f) (UU f) (mem (nS f) y) ∧ Can f p (dif S y))) 511 ?_ ⟨S, rfl, Nat.and_self S, by omega, hu, fun y hy hlt => absurd (show y ≤ S by rw [← hy]; exact Nat.and_le_right) (by omega)⟩ (by have := hk.k0; omega)
 rintro j ⟨a, u⟩ hj ⟨x, ha, hx, hxj, hm, hall⟩
 obtain rfl : a = (x : Int) := ha
 have hm : zUe f u := hm
 have hxS : x ≤ S := by rw [← hx]; exact Nat.and_le_right
 have next : ∀ (u' : Memo), zUe f u' → x ≠ 0 → (x.testBit (low S) = true → ¬ (zSc (TT f) (UU f) (mem (nS f) x) ∧ Can f p (dif S x))) →
   ∃ y : Nat, z9c (w64 ((x : Int) - 1)) (S : Int) = (y : Int) ∧ y &&& S = y ∧ y + (j + 1) ≤ 511 ∧ zUe f u' ∧ ∀ z, z &&& S = z → y < z → z.testBit (low S) = true → ¬ (zSc (TT f) (UU f) (mem (nS f) z) ∧ Can f p (dif S z)) := by
  intro u' hu' hx0 hno
  have e : w64 ((x : Int) - 1) = ((x - 1 : Nat) : Int) := by rw [zjb (by omega) (by omega)]; omega
  refine ⟨(x - 1) &&& S, by rw [e, zZv (by omega) (by omega)], ?_, ?_, hu', fun z hz hlt hzb => ?_⟩
  ·rw [Nat.and_assoc, Nat.and_self]
  ·have : (x - 1) &&& S ≤ x - 1 := Nat.and_le_left
   omega
  ·by_cases hzx : x < z
   ·exact hall z hz hzx hzb
   ·by_cases e : z = x
    ·subst e; exact hno hzb
    ·have := z1u x z S hx hz (by omega)
     omega
 simp only [zOc, hlow x (by omega)]
 cases hbx : x.testBit (low S) with
 | false =>
  simp only [Bool.not_false, cond_true]
  refine Ok.cond (fun hz => Ok.pure ?_) (fun hz => Ok.pure ?_)
  ·have hx0 : x = 0 := by have := beq_iff_eq.1 hz; omega
   refine ⟨hm, fun hc => ?_⟩
   obtain ⟨y, y1, y2, y3, y4⟩ := hstep.1 hc
   refine hall y y1 ?_ y2 ⟨y3, y4⟩
   rw [hx0]
   apply Nat.pos_of_ne_zero
   rintro rfl
   simp at y2
  ·have hx0 : x ≠ 0 := fun e => by subst e; simp at hz
   obtain ⟨y, e, r⟩ := next u hm hx0 (fun h => by rw [hbx] at h; cases h)
   exact ⟨by omega, y, e, r⟩
 | true =>
  have hx0 : x ≠ 0 := by rintro rfl; simp at hbx
  simp only [Bool.not_true, cond_false]
  refine Ok.bind (zyu hs hk hF (S := x) (by omega) h1) fun v hv => ?_
  rcases hv with ⟨h2, hfit, q, hq, hqp, hqi⟩ | ⟨h2, hno⟩
  ·rw [h2]
   simp only [Bool.not_true, cond_false]
   have hd := zqq (x := S) (y := x) (by omega) (by omega)
   have e1 : w64 (((p + 1 : Nat) : Int) - 1) = (p : Int) := by rw [zjb (by omega) (by omega)]; omega
   rw [hd.1, e1]
   refine Ok.bind (hrc u (dif S x) hm (by have := hd.2.2.1; omega)) fun w ⟨w1, w2⟩ => ?_
   refine Ok.cond (fun hn => ?_) (fun hn => ?_)
   ·have hne : w.1.2 ≠ .nil := by simpa using hn
    obtain ⟨hc, hr1, qs, hr2, hr3, hr4⟩ := w2.2 hne
    have e2 : decide (([v.1] : List (SL Int)).length + w.1.1.length ≤ LIM) = true := by rw [hr1]; simp [LIM]; omega
    rw [e2]
    refine Ok.pure ⟨w1, ?_, hstep.2 ⟨x, hx, hbx, hfit, hc⟩, ?_, q :: qs, ?_, ?_, fun y hy => ?_⟩
    ·show cond w.1.1.isEmpty Cap.ex Cap.ro ≠ .nil
     cases w.1.1.isEmpty <;> simp
    ·show ([v.1] ++ w.1.1).length = _
     simp [hr1]
    ·show ([v.1] ++ w.1.1).map _ = _
     simp [hr2, hq]
    ·rw [List.flatten_cons]
     have hpp : (q ++ qs.flatten).Perm (mem (nS f) x ++ mem (nS f) (dif S x)) := hqp.append hr3
     refine hpp.trans ?_
     rw [znp (by omega) (by omega), zNn hx]
     exact List.filter_append_perm _ _
    ·rcases List.mem_cons.1 hy with rfl | hy
     ·exact hqi
     ·exact hr4 y hy
   ·have hne : w.1.2 = .nil := by simpa using hn
    obtain ⟨y, e, r⟩ := next w.2 w1 hx0 (fun _ h => w2.1 hne h.2)
    exact Ok.pure ⟨by omega, y, e, r⟩
  ·rw [h2]
   simp only [Bool.not_false, cond_true]
   obtain ⟨y, e, r⟩ := next u hm hx0 (fun _ h => hno h.1)
   exact Ok.pure ⟨by omega, y, e, r⟩
theorem z6s {k : Nat} {f : zb} (hs : zjc f) (hk : Fuel k f) (hF : Fine f) (p1 : zt) {v1 : SL Int} (h1 : v1.1 = (List.range (nS f)).map (TT f)) {p : Nat} (hp : p ≤ 8) {rc : RcT} (hrc : ∀ p', p = p' + 1 → RcOK f p' rc) : RcOK f p (zCb k ⟨f⟩ p1 v1 rc) := by
 intro u S hu hS
 unfold zCb
 refine Ok.cond (fun hf => ?_) (fun hf => ?_)
 ·obtain ⟨l, hl⟩ := Option.isSome_iff_exists.1 hf
  rw [hl]
  exact Ok.pure ⟨hu, hu p S hS l hl⟩
 ·refine Ok.cond (fun h0 => ?_) (fun h0 => ?_)
  ·have hS0 : S = 0 := by
    simp only [Bool.and_eq_true, beq_iff_eq] at h0
    have := h0.1
    omega
   subst hS0
   obtain ⟨mp, hmp⟩ : ∃ mp, mp = max 1 p := ⟨_, rfl⟩
   have e0 : (if (p : Int) > 1 then (p : Int) else 1) = (mp : Int) := by split <;> omega
   simp only [e0]
   have e1 : (decide (0 ≤ (mp : Int)) && decide ((mp : Int) ≤ (LIM : Int))) = true := by
    have : mp ≤ 8 := by omega
    have h8 : LIM = 1073741824 := rfl
    simp only [Bool.and_eq_true, decide_eq_true_eq]
    omega
   have e2 : (decide (0 ≤ (p : Int)) && decide ((p : Int) ≤ ((List.replicate (mp : Int).toNat (([], Cap.nil) : SL Int) : List (SL Int)).length : Int))) = true := by
    rw [List.length_replicate, Int.toNat_natCast]
    simp only [Bool.and_eq_true, decide_eq_true_eq]
    omega
   rw [e1, e2]
   simp only [cond_true, Int.toNat_natCast]
   have hem : mem (nS f) 0 = [] := by simp [mem]
   have hnil : (List.replicate p ([] : List Nat)).flatten = [] := by simp
   refine Ok.pure ⟨hu, fun h => (by cases h), fun _ => ⟨by show CanL _ _ _ _; rw [hem]; exact CanL.nil p, ?_, List.replicate p [], ?_, by rw [hem, hnil], fun q hq => by rw [List.eq_of_mem_replicate hq]; trivial⟩⟩
   ·show ((List.replicate mp (([], Cap.nil) : SL Int)).take p).length = p
    rw [List.length_take, List.length_replicate]; omega
   ·show ((List.replicate mp (([], Cap.nil) : SL Int)).take p).map _ = _
    rw [List.take_replicate, Nat.min_eq_left (by omega)]
    simp [cst]
  ·have hS0 : S ≠ 0 := by
    rintro rfl
    simp at h0
   cases p with
   | zero =>
    have e : decide (((0 : Nat) : Int) > 0) = false := by decide
    rw [e]
    have hg : z0m f 0 S ([], .nil) := ⟨fun _ hc => zQw hS hS0 (CanL.zero.1 hc), fun h => absurd rfl h⟩
    exact Ok.pure ⟨hu.set hg, hg⟩
   | succ p =>
    have e : decide (((p + 1 : Nat) : Int) > 0) = true := by simp
    rw [e]
    simp only [cond_true]
    refine Ok.bind (z4t hs hk hF p1 h1 u hS hS0 (by omega) (hrc p rfl) hu) fun v hv => ?_
    cases v with
    | inl v =>
     have hg : z0m f (p + 1) S ([], .nil) := ⟨fun _ => hv.2, fun h => absurd rfl h⟩
     exact Ok.pure ⟨zUe.set hv.1 hg, hg⟩
    | inr v =>
     obtain ⟨v1, v2, v3, v4⟩ := hv
     have hg : z0m f (p + 1) S v.1 := ⟨fun h => absurd h v2, fun _ => ⟨v3, v4⟩⟩
     exact Ok.pure ⟨v1.set hg, hg⟩
theorem zfq {k : Nat} {f : zb} (hs : zjc f) (hk : Fuel k f) (hF : Fine f) (p1 : zt) {v1 : SL Int} (h1 : v1.1 = (List.range (nS f)).map (TT f)) : ∀ (m p : Nat), p < m → p ≤ 8 → RcOK f p (z8b k ⟨f⟩ p1 v1 m)
 | 0, p, h, _ => by omega
 | m + 1, p, h, h8 => z6s hs hk hF p1 h1 h8 fun p' hp' => zfq hs hk hF p1 h1 m p' (by omega) (by omega)
theorem z2p {k : Nat} {f : zb} (hs : zjc f) (hk : Fuel k f) (hF : Fine f) {p S : Nat} (hp : p ≤ 8) (hS : S < 2 ^ nS f) : Ok (zU k ⟨f⟩ ⟨(S : Int), (p : Int)⟩) (fun r => (r.2 = true ↔ Can f p S) ∧ (r.2 = true → r.1.2 ≠ .nil ∧ Ros f p S r.1.1)) := by
 unfold zU
 refine Ok.bind (z9s hs hk hF) fun v1 h1 => ?_
 refine Ok.bind (zfq hs hk hF _ h1 9 p (by omega) hp [] S (fun p S _ l hl => by simp [zZ] at hl) hS) fun v ⟨h2, h3⟩ => Ok.pure ?_
 by_cases hn : v.1.2 = .nil
 ·have e : (!decide (v.1.2 = .nil)) = false := by simp [hn]
  exact ⟨⟨fun h => (by rw [e] at h; cases h), fun h => absurd h (h3.1 hn)⟩, fun h => (by rw [e] at h; cases h)⟩
 ·have e : (!decide (v.1.2 = .nil)) = true := by simp [hn]
  exact ⟨⟨fun _ => (h3.2 hn).1, fun _ => e⟩, fun _ => ⟨hn, (h3.2 hn).2⟩⟩
end Go.AM
namespace Go.AM
open Go
section
variable {α β : Type}
theorem zgu {n : Nat} (h : n ≤ 1000000) : decide (n ≤ LIM) = true := decide_eq_true (by show _ ≤ 1073741824; omega)
end
end Go.AM
namespace Go.AM
open Go
section
variable {α β : Type}
theorem zPr : ∀ {l l' : List Int}, l.Pairwise (· < ·) → l'.Pairwise (· < ·) → (∀ x, x ∈ l ↔ x ∈ l') → l = l'
 | [], [], _, _, _ => rfl
 | [], b :: t, _, _, h => by have := (h b).2 (.head _); cases this
 | a :: t, [], _, _, h => by have := (h a).1 (.head _); cases this
 | a :: t, b :: t', h1, h2, h => by
  obtain ⟨h3, h4⟩ := List.pairwise_cons.1 h1
  obtain ⟨h5, h6⟩ := List.pairwise_cons.1 h2
  have hab : a = b := by
   have ha := (h a).1 (.head _)
   have hb := (h b).2 (.head _)
   cases ha with
   | head => rfl
   | tail _ ha =>
    cases hb with
    | head => rfl
    | tail _ hb =>
     have := h5 a ha
     have := h3 b hb
     omega
  subst hab
  rw [zPr h4 h6 fun x => ?_]
  have hx := h x
  constructor
  ·intro hm
   have := h3 x hm
   cases hx.1 (.tail _ hm) with
   | head => omega
   | tail _ h => exact h
  ·intro hm
   have := h5 x hm
   cases hx.2 (.tail _ hm) with
   | head => omega
   | tail _ h => exact h
end
end Go.AM
set_option linter.unusedVariables false
namespace Go.AM
open Go
structure zft (S n : Nat) (l : List Int) : Prop where
 climbs : l.Pairwise (· < ·)
 mem : ∀ x, x ∈ l ↔ ∃ i : Nat, x = (i : Int) ∧ i < n ∧ S.testBit i = true
 len : l.length ≤ n
theorem zft.eq {S n : Nat} {l l' : List Int} (h : zft S n l) (h' : zft S n l') : l = l' := zPr h.climbs h'.climbs fun x => (h.mem x).trans (h'.mem x).symm
abbrev zpv (l : List Nat) : Prop := l.Pairwise (· < ·)
def ltL (a c : List Nat) : Prop := ∃ x, x ∈ a ∧ x ∉ c ∧ ∀ y, y < x → (y ∈ a ↔ y ∈ c)
theorem ziw {a c : List Nat} (h : ltL a c) (g : ltL c a) : False := by
 obtain ⟨x, h1, h2, h3⟩ := h
 obtain ⟨y, g1, g2, g3⟩ := g
 rcases Nat.lt_trichotomy x y with h4 | h4 | h4
 ·exact h2 ((g3 x h4).2 h1)
 ·subst h4; exact h2 g1
 ·exact g2 ((h3 y h4).2 g1)
def leS (a c : List Nat) : Prop := a.length < c.length ∨ (a.length = c.length ∧ (a = c ∨ ltL a c))
theorem zzu {a c : List Nat} (h : leS a c) (g : leS c a) : a = c := by
 rcases h with h | ⟨h, h'⟩ <;> rcases g with g | ⟨g, g'⟩
 ·omega
 ·omega
 ·omega
 ·rcases h' with rfl | h'
  ·rfl
  ·rcases g' with rfl | g'
   ·rfl
   ·exact (ziw h' g').elim
structure Best (n : Nat) (P : List Nat → Prop) (l : List Nat) : Prop where
 climb : zpv l
 lt : ∀ i ∈ l, i < n
 ok : P l
 least : ∀ l', zpv l' → (∀ i ∈ l', i < n) → P l' → leS l l'
theorem Best.eq {n : Nat} {P : List Nat → Prop} {l l' : List Nat} (h : Best n P l) (g : Best n P l') : l = l' := zzu (h.least l' g.climb g.lt g.ok) (g.least l h.climb h.lt h.ok)
end Go.AM
set_option linter.unusedVariables false
namespace Go.AM
open Go
def allS (n : Nat) : Nat := 2 ^ n - 1
theorem zdv (n i : Nat) : (allS n).testBit i = decide (i < n) := by unfold allS; rw [Nat.testBit_two_pow_sub_one]
theorem zms (n : Nat) : allS n < 2 ^ n := by
 have := Nat.two_pow_pos n
 unfold allS; omega
theorem zDs {n : Nat} (hn : n ≤ 9) : w64 (zo 1 (n : Int) - 1) = ((allS n : Nat) : Int) := by
 have h1 : 2 ^ n ≤ 2 ^ 9 := Nat.pow_le_pow_right (by omega) hn
 have h2 := Nat.two_pow_pos n
 have h3 : ((2 ^ n : Nat) : Int) = (2 : Int) ^ n := by push_cast; rfl
 rw [z1t (by omega), ← h3, zjb (by omega) (by omega)]
 unfold allS
 omega
theorem z7v (n : Nat) : mem n (allS n) = List.range n := by
 unfold mem
 refine List.filter_eq_self.2 fun i hi => ?_
 rw [zdv]; simpa using hi
abbrev zTe (f : zb) (p : Nat) : Prop := CanL (TT f) (UU f) p (List.range (nS f))
theorem zfs (f : zb) (p : Nat) : Can f p (allS (nS f)) ↔ zTe f p := by show CanL _ _ _ (mem _ _) ↔ _; rw [z7v]
def zCi (f : zb) (p : Nat) : Prop := 1 ≤ p ∧ zTe f p ∧ ∀ q, 1 ≤ q → q < p → ¬ zTe f q
theorem z3p {k : Nat} {f : zb} (hs : zjc f) (hk : Fuel k f) (hF : Fine f) : Ok (zTc k ⟨f⟩) (fun r => (r.2.2 = true ∧ ∃ p : Nat, p ≤ 5 ∧ r.2.1 = (p : Int) ∧ zCi f p ∧ Ros f p (allS (nS f)) r.1.1 ∧ r.1.2 ≠ .nil) ∨ (r.2.2 = false ∧ ∀ q, 1 ≤ q → q ≤ 5 → ¬ zTe f q)) := by
 have h9 := hF.nslips
 unfold zTc
 refine Ok.bind (Ok.count 5 (fun j z => z = ((j + 1 : Nat) : Int) ∧ ∀ q, 1 ≤ q → q ≤ j → ¬ zTe f q) (Q := fun r : (SL (SL Int) × Int × Bool) ⊕ Int => match r with
  | .inl z => ∃ p : Nat, p ≤ 5 ∧ z.2.1 = (p : Int) ∧ zCi f p ∧ Ros f p (allS (nS f)) z.1.1 ∧ z.1.2 ≠ .nil
  | .inr _ => ∀ q, 1 ≤ q → q ≤ 5 → ¬ zTe f q) ?_ ?_ ⟨rfl, fun q h1 h2 => absurd h1 (by omega)⟩ (by have := hk.k0; omega)) fun r hr => ?_
 ·rintro j z hj ⟨rfl, hg⟩
  have c1 : decide (((j + 1 : Nat) : Int) ≤ 5) = true := by simp; omega
  have c2 : decide ((nS f : Int) < 0) = false := by simp
  have e := zDs h9
  simp only [zMc, c1, cond_true]
  show Ok (cond (decide ((nS f : Int) < 0)) none _) _
  rw [c2, cond_false]
  show Ok (Option.bind (zU k ⟨f⟩ ⟨w64 (zo 1 (nS f : Int) - 1), _⟩) _) _
  rw [e]
  refine Ok.bind (z2p hs hk hF (p := j + 1) (by omega) (zms _)) fun v ⟨h1, h2⟩ => ?_
  rw [zfs] at h1
  cases hb : v.2 with
  | true =>
   obtain ⟨h3, h4⟩ := h2 hb
   rw [hb] at h1
   exact Ok.pure ⟨j + 1, by omega, rfl, ⟨by omega, h1.1 rfl, fun q hq1 hq2 => hg q hq1 (by omega)⟩, h4, h3⟩
  | false =>
   rw [hb] at h1
   refine Ok.pure ⟨by rw [zjb (by omega) (by omega)]; push_cast; rfl, fun q hq1 hq2 hc => ?_⟩
   by_cases e : q = j + 1
   ·subst e; have := h1.2 hc; cases this
   ·exact hg q hq1 (by omega) hc
 ·rintro z ⟨rfl, hg⟩
  have c1 : decide (((5 + 1 : Nat) : Int) ≤ 5) = false := by decide
  simp only [zMc, c1, cond_false]
  exact Ok.pure hg
 ·cases r with
  | inl z => exact Ok.pure (.inl ⟨rfl, hr⟩)
  | inr z => exact Ok.pure (.inr ⟨rfl, hr⟩)
def zSt (f : zb) (r : SL (SL Int) × Int) : Prop :=
 (¬ Fine f ∧ r.1.1 = [] ∧ r.2 = 30) ∨ (Fine f ∧ r.2 = 0 ∧ ∃ p : Nat, p ≤ 5 ∧ zCi f p ∧ Ros f p (allS (nS f)) r.1.1) ∨ (Fine f ∧ r.2 = 4 ∧ r.1.1 = [] ∧ ∀ q, 1 ≤ q → q ≤ 5 → ¬ zTe f q)
theorem zGm {k : Nat} {f : zb} (hs : zjc f) (hk : Fuel k f) : Ok (zGd k f) (zSt f) := by
 unfold zGd zkj
 obtain ⟨c, hc, hc'⟩ := zDn hs hk
 rw [hc]
 by_cases hF : Fine f
 ·rw [if_pos hF] at hc'
  subst hc'
  have t : ((0 : Int) != 0) = false := by decide
  simp only [Option.bind_some, t, cond_false, zBg, Bool.not_true]
  refine Ok.bind (z3p hs hk hF) fun v hv => ?_
  rcases hv with ⟨h1, p, h2, h3, h4, h5, h6⟩ | ⟨h1, h2⟩
  ·rw [h1]
   exact Ok.pure (.inr (.inl ⟨hF, rfl, p, h2, h4, h5⟩))
  ·rw [h1]
   exact Ok.pure (.inr (.inr ⟨hF, rfl, rfl, h2⟩))
 ·rw [if_neg hF] at hc'
  subst hc'
  have t : ((30 : Int) != 0) = true := by decide
  simp only [Option.bind_some, t, cond_true]
  exact Ok.pure (.inl ⟨hF, rfl, rfl⟩)
end Go.AM
set_option linter.unusedVariables false
namespace Go.AM
open Go
section
variable {T U : Nat → Int}
theorem z9p {T' U' : Nat → Int} {p : Nat} {l : List Nat} (h : ∀ i ∈ l, T i = T' i ∧ U i = U' i) : CanL T U p l → CanL T' U' p l := by
 have hs : ∀ (u : Int) (m : List Nat), (∀ i ∈ m, T i = T' i ∧ U i = U' i) → lsum T U u m = lsum T' U' u m := by
  intro u m
  induction m with
  | nil => intro _; rfl
  | cons x t ih =>
   intro hm
   obtain ⟨h1, h2⟩ := hm x (by simp)
   simp only [lsum, h1, h2, ih fun i hi => hm i (by simp [hi])]
 rintro ⟨c, h1, h2⟩
 refine ⟨c, h1, fun q x hx => ?_⟩
 have hx' := (List.mem_filter.1 hx).1
 rw [← (h x hx').2, ← hs _ _ fun i hi => h i (List.mem_filter.1 hi).1]
 exact h2 q x hx
end
theorem zQv {f : zb} {i : Nat} (h : i < nS f) : slp f i ∈ f.Slips.1 := by rw [← zkk h]; exact List.getElem_mem h
theorem zFt {f g : zb} {i j : Nat} (v : zq → Int) (h1 : f.Far = g.Far) (h2 : f.Step = g.Step) (h3 : f.Pick = g.Pick) (h4 : f.Carry = g.Carry) (h5 : lns f i = lns g j) : zee f i v = zee g j v := by
 unfold zee zUc pks pk nF
 rw [h5, h2, h3, h4]
 have : fr f = fr g := by funext t; unfold fr; rw [h1]
 rw [this, h1]
theorem zOm {f : zb} {q p : Nat} (h : zCi f q) (hp : 1 ≤ p) : zTe f p ↔ q ≤ p := by
 constructor
 ·intro hc
  apply Classical.byContradiction
  intro hn
  exact h.2.2 p hp (by omega) hc
 ·intro hle
  exact h.2.1.more hle
end Go.AM
set_option linter.unusedVariables false
namespace Go.AM
open Go
section
variable {T U T' U' : Nat → Int}
theorem zmp (U : Nat → Int) (x : Nat) : ∀ t : List Nat, t.Pairwise (fun a b => U a ≤ U b) → ∃ l' : List Nat, l'.Perm (x :: t) ∧ l'.Pairwise fun a b => U a ≤ U b
 | [], _ => ⟨[x], .refl _, List.pairwise_singleton _ _⟩
 | y :: t, h => by
  have hc := List.pairwise_cons.1 h
  by_cases hxy : U x ≤ U y
  ·refine ⟨x :: y :: t, .refl _, List.pairwise_cons.2 ⟨fun z hz => ?_, h⟩⟩
   rcases List.mem_cons.1 hz with rfl | hz
   ·exact hxy
   ·have := hc.1 z hz; omega
  ·obtain ⟨l', h1, h2⟩ := zmp U x t hc.2
   refine ⟨y :: l', ?_, List.pairwise_cons.2 ⟨fun z hz => ?_, h2⟩⟩
   ·exact (h1.cons y).trans (.swap x y t)
   ·rcases List.mem_cons.1 (h1.mem_iff.1 hz) with rfl | hz
    ·omega
    ·exact hc.1 z hz
theorem z4p (U : Nat → Int) : ∀ l : List Nat, ∃ l' : List Nat, l'.Perm l ∧ l'.Pairwise fun a b => U a ≤ U b
 | [] => ⟨[], .refl _, .nil⟩
 | x :: t => by
  obtain ⟨t', h1, h2⟩ := z4p U t
  obtain ⟨l', h3, h4⟩ := zmp U x t' h2
  exact ⟨l', h3.trans (h1.cons x), h4⟩
theorem InT.mono : ∀ {l : List Nat} {now now' : Int}, (∀ i ∈ l, T' i ≤ T i ∧ U i ≤ U' i) → now' ≤ now → InT T U now l → InT T' U' now' l
 | [], _, _, _, _, _ => trivial
 | x :: t, now, now', h, hn, hi => by
  obtain ⟨h1, h2⟩ := h x (by simp)
  obtain ⟨h3, h4⟩ := hi
  exact ⟨by omega, InT.mono (fun i hi => h i (by simp [hi])) (by omega) h4⟩
theorem zSc.mono (hT : ∀ i, 0 ≤ T i) (hT' : ∀ i, 0 ≤ T' i) {l : List Nat} (h : ∀ i ∈ l, T' i ≤ T i ∧ U i ≤ U' i) (hf : zSc T U l) : zSc T' U' l := by
 obtain ⟨l', h1, h2⟩ := z4p U l
 have hi := (hf.perm h1.symm).inT hT h2
 exact (InT.fits hT' (InT.mono (fun i hi => h i (h1.mem_iff.1 hi)) (Int.le_refl _) hi)).perm h1
theorem CanL.mono (hT : ∀ i, 0 ≤ T i) (hT' : ∀ i, 0 ≤ T' i) {p : Nat} {l : List Nat} (h : ∀ i ∈ l, T' i ≤ T i ∧ U i ≤ U' i) : CanL T U p l → CanL T' U' p l := fun ⟨g, h1, h2⟩ =>
 ⟨g, h1, fun q => (h2 q).mono hT hT' fun i hi => h i (List.mem_filter.1 hi).1⟩
theorem CanL.own (hT : ∀ i, 0 ≤ T i) {p : Nat} {l : List Nat} {i : Nat} (hi : i ∈ l) : CanL T U p l → T i ≤ U i := fun ⟨g, h1, h2⟩ => by
 have hm : i ∈ l.filter fun j => g j == g i := List.mem_filter.2 ⟨hi, by simp⟩
 have := h2 (g i) i hm
 have h3 : T i ≤ lsum T U (U i) (l.filter fun j => g j == g i) := by
  have : ([i] : List Nat).Sublist (l.filter fun j => g j == g i) := List.singleton_sublist.2 hm
  have h4 := z9q (U := U) (u := U i) hT this
  simp only [lsum, Int.le_refl, if_true] at h4
  omega
 omega
end
def setU (f : zb) (i : Nat) (u : Int) (c : Cap) : zb := ⟨f.Far, f.Step, f.Pick, f.Carry, (f.Slips.1.set i ⟨(slp f i).Lines, u⟩, c)⟩
theorem zIj (f : zb) (i : Nat) (u : Int) (c : Cap) : nS (setU f i u c) = nS f := by show (f.Slips.1.set i _).length = _; rw [List.length_set]
theorem z4n {f : zb} {i : Nat} (hi : i < nS f) (u : Int) (c : Cap) (j : Nat) : slp (setU f i u c) j = if j = i then ⟨(slp f i).Lines, u⟩ else slp f j := by
 have : slp (setU f i u c) j = ((f.Slips.1.set i ⟨(slp f i).Lines, u⟩)[j]?).getD ⟨([], .nil), 0⟩ := rfl
 rw [this, List.getElem?_set]
 by_cases h : i = j
 ·subst h
  have hi' : i < f.Slips.1.length := hi
  simp [hi']
 ·have : ¬ j = i := fun e => h e.symm
  simp [h, this, slp]
theorem zJr {f : zb} {i : Nat} (hi : i < nS f) {u : Int} {s : zk} (hs : s ∈ f.Slips.1.set i ⟨(slp f i).Lines, u⟩) : ∃ t ∈ f.Slips.1, s.Lines = t.Lines := by
 rcases List.mem_or_eq_of_mem_set hs with h | rfl
 ·exact ⟨s, h, rfl⟩
 ·exact ⟨slp f i, zQv hi, rfl⟩
theorem zVl {f : zb} (h : zjc f) {i : Nat} (hi : i < nS f) (u : Int) (c : Cap) : zjc (setU f i u c) := by
 refine ⟨h.far, h.pick, by rw [zIj]; exact h.slips, fun s hs => ?_⟩
 obtain ⟨t, ht, e⟩ := zJr hi hs
 rw [e]; exact h.lines t ht
theorem zHm {k : Nat} {f : zb} (h : Fuel k f) {i : Nat} (hi : i < nS f) (u : Int) (c : Cap) : Fuel k (setU f i u c) := by
 refine ⟨h.k0, h.far, h.pick, by rw [zIj]; exact h.slips, fun s hs => ?_⟩
 obtain ⟨t, ht, e⟩ := zJr hi hs
 rw [e]; exact h.lines t ht
theorem zMm {f : zb} (h : Fine f) {i : Nat} (hi : i < nS f) {u : Int} (hu : 0 ≤ u ∧ u ≤ 100000) (c : Cap) : Fine (setU f i u c) where
 nfar := h.nfar
 npick := h.npick
 step := h.step
 carry := h.carry
 nslips := by rw [zIj]; exact h.nslips
 far := h.far
 pick := h.pick
 slips := fun j hj => by
  rw [zkk hj, z4n hi]
  have hj' : j < nS f := by rw [← zIj f i u c]; exact hj
  show z2g (nF f) _
  split
  ·have := zaf h hi
   exact ⟨⟨hu, this.1.2⟩, this.2⟩
  ·exact zaf h hj'
theorem zEu {f : zb} {i : Nat} (hi : i < nS f) (u : Int) (c : Cap) (j : Nat) : lns (setU f i u c) j = lns f j := by
 show (slp _ _).Lines.1 = (slp _ _).Lines.1
 rw [z4n hi]
 split
 ·rename_i e; rw [e]
 ·rfl
theorem zds {f : zb} {i : Nat} (hi : i < nS f) (u : Int) (c : Cap) (j : Nat) : TT (setU f i u c) j = TT f j := zFt _ rfl rfl rfl rfl (zEu hi u c j)
theorem zns {f : zb} {i : Nat} (hi : i < nS f) (u : Int) (c : Cap) (j : Nat) : UU (setU f i u c) j = if j = i then u else UU f j := by
 show (slp _ _).Until = _
 rw [z4n hi]
 split <;> rfl
def CanU (f : zb) (i : Nat) (u : Int) (p : Nat) : Prop := CanL (TT f) (fun j => if j = i then u else UU f j) p (List.range (nS f))
theorem z2l {f : zb} {i : Nat} (hi : i < nS f) (u : Int) (c : Cap) (p : Nat) : zTe (setU f i u c) p ↔ CanU f i u p := by
 show CanL _ _ p (List.range (nS (setU f i u c))) ↔ _
 rw [zIj]
 exact ⟨z9p fun j _ => ⟨zds hi u c j, zns hi u c j⟩, z9p fun j _ => ⟨(zds hi u c j).symm, (zns hi u c j).symm⟩⟩
theorem CanU.own {f : zb} (hF : Fine f) {i : Nat} (hi : i < nS f) {u : Int} {p : Nat} (h : CanU f i u p) : TT f i ≤ u := by
 have := CanL.own (zNo hF) (List.mem_range.2 hi) h
 simpa using this
theorem CanU.later {f : zb} (hF : Fine f) {i : Nat} {u u' : Int} (hu : u ≤ u') {p : Nat} (h : CanU f i u p) : CanU f i u' p :=
 CanL.mono (zNo hF) (zNo hF) (fun j _ => ⟨Int.le_refl _, by split <;> omega⟩) h
theorem CanU.same {f : zb} {i : Nat} {p : Nat} : CanU f i (UU f i) p ↔ zTe f p := by
 have e : (fun j => if j = i then UU f i else UU f j) = UU f := by
  funext j
  split
  ·rename_i h; rw [h]
  ·rfl
 unfold CanU
 rw [e]
def zKu (f : zb) (i : Nat) (r : Int × Int) : Prop :=
 (r = (0, 4) ∧ ∀ q, 1 ≤ q → q ≤ 5 → ¬ zTe f q) ∨ (r.2 = 0 ∧ ∃ p : Nat, p ≤ 5 ∧ zCi f p ∧ 0 ≤ r.1 ∧ r.1 ≤ UU f i ∧ CanU f i r.1 p ∧ ∀ u, u < r.1 → ¬ CanU f i u p)
theorem z1r (k : Nat) (hk : 5 < k) (n : Int) (hn : 0 ≤ n) : zVc k n ([0], .ex) = some n := by
 obtain ⟨k, rfl⟩ : ∃ k', k = k' + 2 := ⟨k - 2, by omega⟩
 have e : (if (0 : Int) > n then (0 : Int) else n) = n := by split <;> omega
 have e1 : idx ([0] : List Int) 0 = some 0 := rfl
 have e2 : w64 (0 + 1) = 1 := rfl
 have d1 : decide ((0 : Int) < ((([0] : List Int), Cap.ex) : SL Int).1.length) = true := rfl
 have d2 : decide ((1 : Int) < ((([0] : List Int), Cap.ex) : SL Int).1.length) = false := rfl
 have r1 : zNb (k + 2) ([0], .ex) n 0 = some (.inl (n, 1)) := by
  unfold zNb
  rw [d1, cond_true, e1, Option.bind_some, e, e2]
 have r2 : zNb (k + 2) ([0], .ex) n 1 = some (.inr (n, 1)) := by
  unfold zNb
  rw [d2, cond_false]
 unfold zVc
 simp only [iter, r1, r2, Option.bind_some]
theorem zqu {k : Nat} {f : zb} (hs : zjc f) (hk : Fuel k f) (hF : Fine f) {i : Nat} (hi : i < nS f) {p : Nat} (hp : p ≤ 5) (v7 : SL (SL Int) × Int × Bool) (h7 : v7.2.1 = (p : Int)) (hf : zTe f p) :
  Ok (iter (fun s => zif k f (i : Int) v7 s.1 s.2.1 s.2.2) k (TT f i, UU f i, f.Slips.1)) (fun r => 0 ≤ r.1 ∧ r.1 ≤ UU f i ∧ CanU f i r.1 p ∧ ∀ u, u < r.1 → ¬ CanU f i u p) := by
 have hu := zfp hF hi
 have ht := zJs hF hi
 have h9 := hF.nslips
 have hc0 : CanU f i (UU f i) p := CanU.same.2 hf
 refine Ok.iter (fun j s => 0 ≤ s.1 ∧ s.1 ≤ s.2.1 ∧ s.2.1 ≤ UU f i ∧ (s.2.1 - s.1) * 2 ^ j ≤ 100000 ∧ CanU f i s.2.1 p ∧ (∀ u, u < s.1 → ¬ CanU f i u p) ∧ ∃ u, s.2.2 = f.Slips.1.set i ⟨(slp f i).Lines, u⟩) 20 ?_ ⟨ht.1, hc0.own hF hi, Int.le_refl _, by simp; omega, hc0, fun u hu hc => by have := hc.own hF hi; omega, (slp f i).Until, ?_⟩ (by have := hk.k0; omega)
 ·rintro j ⟨low, high, l⟩ hj ⟨h1, h2, h3, h4, h5, h6, u, hl⟩
  obtain rfl : l = _ := hl
  have h1 : 0 ≤ low := h1
  have h2 : low ≤ high := h2
  have h3 : high ≤ UU f i := h3
  have h4 : (high - low) * 2 ^ j ≤ 100000 := h4
  have h5 : CanU f i high p := h5
  have h6 : ∀ u, u < low → ¬ CanU f i u p := h6
  simp only [zif]
  refine Ok.cond (fun hc => ?_) fun hc => ?_
  ·have hlt : low < high := by simpa using hc
   have e1 : idx (f.Slips.1.set i ⟨(slp f i).Lines, u⟩) (i : Int) = some ⟨(slp f i).Lines, u⟩ := by
    rw [znd (by rw [List.length_set]; exact hi)]
    simp
   rw [e1]
   simp only [Option.bind_some]
   have em : w64 ((w64 (low + high)).tdiv 2) = (low + high) / 2 := by
    rw [zjb (n := low + high) (by omega) (by omega), Int.tdiv_eq_ediv_of_nonneg (by omega), zjb (by omega) (by omega)]
   rw [em, Int.toNat_natCast, List.set_set, h7]
   obtain ⟨m, hm⟩ : ∃ m, m = (low + high) / 2 := ⟨_, rfl⟩
   rw [← hm]
   have hm1 : low ≤ m ∧ m < high := by omega
   have hA : w64 (zo 1 (f.Slips.1.length : Int) - 1) = ((allS (nS f) : Nat) : Int) := zDs h9
   rw [hA]
   have hr := z2p (zVl hs hi m (rcap false (f.Slips.1.set i ⟨(slp f i).Lines, m⟩))) (zHm hk hi m _) (zMm hF hi (by omega) _) (p := p) (S := allS (nS f)) (by omega) (by rw [zIj]; exact zms _)
   refine Ok.bind hr fun v404 ⟨h7, _⟩ => ?_
   have hca : v404.2 = true ↔ CanU f i m p := by
    rw [h7, ← z2l hi m (rcap false (f.Slips.1.set i ⟨(slp f i).Lines, m⟩)) p, ← zfs, zIj]
   have hj20 : j < 20 := by
    apply Classical.byContradiction
    intro hn
    have : j = 20 := by omega
    subst this
    have : (1 : Int) ≤ high - low := by omega
    have h10 : (2 : Int) ^ 20 = 1048576 := by decide
    rw [h10] at h4
    omega
   have hpow : (0 : Int) < 2 ^ j := Int.pow_pos (by omega)
   have half : ∀ d : Int, 2 * d ≤ high - low → d * 2 ^ (j + 1) ≤ 100000 := by
    intro d hd
    have e : d * 2 ^ (j + 1) = (2 * d) * 2 ^ j := by rw [Int.pow_succ]; rw [Int.mul_comm (2 ^ j) 2, ← Int.mul_assoc, Int.mul_comm d 2]
    rw [e]
    have := Int.mul_le_mul_of_nonneg_right hd (Int.le_of_lt hpow)
    omega
   cases hb : v404.2 with
   | true =>
    have hcm := hca.1 hb
    simp only [zjf, cond_true, em, Option.bind_some]
    rw [← hm]
    exact Ok.pure ⟨hj20, h1, hm1.1, by show m ≤ _; omega, half (m - low) (by omega), hcm, h6, m, rfl⟩
   | false =>
    have hcm : ¬ CanU f i m p := fun h => by have := hca.2 h; rw [hb] at this; cases this
    simp only [zjf, cond_false, em, Option.bind_some]
    rw [← hm, zjb (n := m + 1) (by omega) (by omega)]
    exact Ok.pure ⟨hj20, by show 0 ≤ m + 1; omega, by show m + 1 ≤ high; omega, h3, half (high - (m + 1)) (by omega), h5, fun u' hu' hc => hcm (hc.later hF (by have : u' < m + 1 := hu'; omega)), m, rfl⟩
  ·have hge : ¬ low < high := by simpa using hc
   have : low = high := by omega
   subst this
   exact Ok.pure ⟨h1, h3, h5, h6⟩
 ·show f.Slips.1 = _
  have : (⟨(slp f i).Lines, (slp f i).Until⟩ : zk) = f.Slips.1[i] := (zkk hi).symm
  rw [this, List.set_getElem_self]
theorem znu {k : Nat} {f : zb} (hs : zjc f) (hk : Fuel k f) (hF : Fine f) (hcap : f.Slips.2 ≠ .nil) {i : Nat} (hi : i < nS f) : Ok (z6f k f (i : Int)) (zKu f i) := by
 unfold z6f
 obtain ⟨c, hc, hc'⟩ := zDn hs hk
 rw [if_pos hF] at hc'
 subst hc'
 obtain ⟨t0, ht0, rfl⟩ := zxs hs hk hF hi
 rw [hc]
 have t : ((0 : Int) != 0) = false := by decide
 have t2 : (!(decide (0 ≤ (i : Int)) && decide ((i : Int) ≤ (nS f : Int) - 1))) = false := by simp; omega
 simp only [Option.bind_some, t, cond_false, zcu hs, t2]
 refine Ok.bind (z3p hs hk hF) fun v7 h7 => ?_
 rcases h7 with ⟨h1, p, h2, h3, h4, h5, h6⟩ | ⟨h1, h2⟩
 ·have c1 : decide ((f.Slips.1.length : Int) < 0) = false := by simp
  have c2 : decide (f.Slips.2 = .nil) = false := by simpa using hcap
  have c3 : decide (f.Slips.1.length ≤ LIM) = true := zgu (by have h9 : f.Slips.1.length ≤ 9 := hF.nslips; omega)
  simp only [h1, Bool.not_true, cond_false, c1, ht0, Option.bind_some, zcg hi, c2, c3, cond_true]
  refine Ok.bind (zqu hs hk hF hi h2 v7 h3 h4.2.1) fun v17 ⟨a1, a2, a3, a4⟩ => ?_
  rw [z1r k (by have := hk.k0; omega) _ a1]
  exact Ok.pure (.inr ⟨rfl, p, h2, h4, a1, a2, a3, a4⟩)
 ·rw [h1]
  exact Ok.pure (.inl ⟨rfl, h2⟩)
end Go.AM
set_option linter.unusedVariables false
namespace Go.AM
open Go
theorem zgv (k : Nat) {n : Int} {m : Nat} (hm : 0 < m) (hb : m < 1000000) : ∃ i, i < m ∧ zBb k n (m : Int) = some (i : Int) := by
 have h1 : decide ((m : Int) < 1) = false := by simp; omega
 have h2 : ((m : Int) == 0) = false := by simp; omega
 have hneg := Int.tmod_lt_of_pos n (show (0 : Int) < (m : Int) by omega)
 have hlow : -(m : Int) < n.tmod (m : Int) := by
  have := Int.lt_tmod_of_pos n (show (0 : Int) < (m : Int) by omega)
  omega
 simp only [zBb, h1, h2, cond_false, zDc]
 by_cases h : n.tmod (m : Int) < 0
 ·refine ⟨(n.tmod (m : Int) + m).toNat, by omega, ?_⟩
  rw [show decide (n.tmod (m : Int) < 0) = true by simpa using h]
  simp only [cond_true, Option.bind_some]
  rw [zjb (by omega) (by omega), Int.toNat_of_nonneg (by omega)]
 ·refine ⟨(n.tmod (m : Int)).toNat, by omega, ?_⟩
  rw [show decide (n.tmod (m : Int) < 0) = false by simpa using h]
  simp only [cond_false, Option.bind_some]
  rw [Int.toNat_of_nonneg (by omega)]
theorem zlw (k : Nat) {lo hi : Int} (h : 0 ≤ lo ∧ lo ≤ hi ∧ hi ≤ 100000) (x : Int) : ∃ r, zdc k ⟨lo, hi⟩ x = some r ∧ lo ≤ r ∧ r ≤ hi := by
 by_cases e : hi ≤ lo
 ·have c : decide (hi ≤ lo) = true := by simpa using e
  refine ⟨lo, ?_, Int.le_refl _, h.2.1⟩
  simp only [zdc, c, cond_true]
 ·have c : decide (hi ≤ lo) = false := by simpa using e
  have e1 : w64 (w64 (hi - lo) + 1) = ((hi - lo + 1).toNat : Int) := by
   rw [zjb (n := hi - lo) (by omega) (by omega), zjb (by omega) (by omega)]; omega
  have c2 : decide (((hi - lo + 1).toNat : Int) < 1) = false := by simp; omega
  obtain ⟨i, hi', hsp⟩ := zgv k (n := x) (m := (hi - lo + 1).toNat) (by omega) (by omega)
  refine ⟨lo + i, ?_, by omega, by omega⟩
  simp only [zdc, c, cond_false, e1, c2, hsp, Option.bind_some]
  rw [zjb (by omega) (by omega)]
theorem zFq {k : Nat} {f : zb} (hF : Fine f) {i : Nat} (hi : i < nS f) (u : Int) : ∃ c, zoc k f (i : Int) u = some (setU f i u c) := by
 have c3 : decide (f.Slips.1.length ≤ LIM) = true := zgu (by have h9 : f.Slips.1.length ≤ 9 := hF.nslips; omega)
 refine ⟨rcap false (f.Slips.1.set i ⟨(slp f i).Lines, u⟩), ?_⟩
 simp only [zoc, c3, cond_true, zcg hi, Option.bind_some, Int.toNat_natCast]
 rfl
theorem zEo {f : zb} {p q : Nat} (hp : zCi f p) (hq : zCi f q) : p = q := by
 have h1 := (zOm hp hq.1).1 hq.2.1
 have h2 := (zOm hq hp.1).1 hp.2.1
 omega
theorem zwq {k : Nat} {f : zb} (hs : zjc f) (hk : Fuel k f) (hcap : f.Slips.1 ≠ [] → f.Slips.2 ≠ .nil) (hw : zvb k = some true) (n second : Int) : zIb k f n second = some true := by
 refine Ok.eq ?_
 unfold zIb zlc
 obtain ⟨so, hso, hso'⟩ := z5u hs hk
 rw [hso]
 simp only [Option.bind_some]
 by_cases hc : (!so || ((nS f : Int) == 0)) = true
 ·have e : cond (!so) (some true) (some ((f.Slips.1.length : Int) == 0)) = some true := by
   cases so with
   | false => rfl
   | true => simpa using hc
  rw [e]
  simp only [Option.bind_some, cond_true, hw]
  exact Ok.pure rfl
 have hso2 : so = true := by cases so with
  | false => simp at hc
  | true => rfl
 subst hso2
 have hF := hso'.1 rfl
 have h0 : ((nS f : Int) == 0) = false := by simpa using hc
 have h0' : 0 < nS f := by
  simp only [beq_eq_false_iff_ne, ne_eq] at h0
  omega
 have h9 := hF.nslips
 have e : cond (!true) (some true) (some ((f.Slips.1.length : Int) == 0)) = some false := by
  show some ((nS f : Int) == 0) = _
  rw [h0]
 rw [e]
 obtain ⟨i, hi, hsp⟩ := zKv k (n := n) h0' (by omega)
 have hsp' : zBb k n (f.Slips.1.length : Int) = some (i : Int) := hsp
 have hcap' : f.Slips.2 ≠ .nil := hcap (fun e => absurd (show nS f = 0 by show f.Slips.1.length = 0; rw [e]; rfl) (by omega))
 simp only [Option.bind_some, cond_false, hsp']
 refine Ok.bind (znu hs hk hF hcap' hi) fun v6 h6 => ?_
 refine Ok.bind (zGm hs hk) fun v8 h8 => ?_
 rcases h6 with ⟨rfl, hno⟩ | ⟨h6e, p, hp5, hp, hl0, hl1, hl2, hl3⟩
 ·have e4 : v8.2 = 4 := by
   rcases h8 with ⟨h, _⟩ | ⟨_, _, q, hq5, hq, _⟩ | ⟨_, h, _⟩
   ·exact absurd hF h
   ·exact absurd hq.2.1 (hno q hq.1 hq5)
   ·exact h
  rw [e4, hw]
  exact Ok.pure rfl
 ·obtain ⟨least, e6⟩ := v6
  obtain rfl : e6 = 0 := h6e
  have hl0 : 0 ≤ least := hl0
  have hl1 : least ≤ UU f i := hl1
  have hu := zfp hF hi
  obtain ⟨e8, hr8⟩ : v8.2 = 0 ∧ v8.1.1.length = p := by
   rcases h8 with ⟨h, _⟩ | ⟨_, h, q, hq5, hq, hr⟩ | ⟨_, _, _, h⟩
   ·exact absurd hF h
   ·exact ⟨h, by rw [hr.1]; exact zEo hq hp⟩
   ·exact absurd hp.2.1 (h p hp.1 hp5)
  have t : ((0 : Int) != 0) = false := by decide
  have J2 : zJb k f n second (i : Int) (least, 0) v8 = some false := by
   have e1 : (decide (0 ≤ least) && decide (least ≤ (slp f i).Until)) = true := by
    have : least ≤ (slp f i).Until := hl1
    simp [hl0, this]
   simp only [zJb, e8, t, cond_false, zcg hi, Option.bind_some, zAj, e1, Bool.not_true]
  simp only [t, cond_false, J2, Option.bind_some, zcg hi, zUw]
  obtain ⟨u, hu1, hu2, hu3⟩ := zlw k (lo := least) (hi := UU f i) (by omega) second
  have hu1' : zdc k ⟨least, (slp f i).Until⟩ second = some u := hu1
  obtain ⟨c, hun⟩ := zFq (k := k) hF hi u
  simp only [hu1', hun, Option.bind_some]
  have fin := zMm hF hi (u := u) (by omega) c
  have fewU : zCi (setU f i u c) p := ⟨hp.1, (z2l hi u c p).2 (CanU.later hF hu2 hl2), fun q hq1 hq2 hcq => hp.2.2 q hq1 hq2 (CanU.same.1 (CanU.later hF hu3 ((z2l hi u c q).1 hcq)))⟩
  refine Ok.bind (zGm (zVl hs hi u c) (zHm hk hi u c)) fun v22 h22 => ?_
  obtain ⟨e22, hr22⟩ : v22.2 = 0 ∧ v22.1.1.length = p := by
   rcases h22 with ⟨h, _⟩ | ⟨_, h, q, hq5, hq, hr⟩ | ⟨_, _, _, h⟩
   ·exact absurd fin h
   ·exact ⟨h, by rw [hr.1]; exact zEo hq fewU⟩
   ·exact absurd fewU.2.1 (h p hp.1 hp5)
  have J3 : zKb k f n second (i : Int) (least, 0) v8 v22 = some false := by
   simp only [zKb, e22, t, cond_false, hr22, hr8]
   simp
  simp only [J3, Option.bind_some, cond_false]
  refine Ok.cond (fun _ => by rw [hw]; exact Ok.pure rfl) fun hz => ?_
  have hz : least ≠ 0 := by simpa using hz
  have ew : w64 (least - 1) = least - 1 := zjb (by omega) (by omega)
  rw [ew]
  obtain ⟨c2, hun2⟩ := zFq (k := k) hF hi (least - 1)
  rw [hun2]
  simp only [Option.bind_some]
  have fin2 := zMm hF hi (u := least - 1) (by omega) c2
  refine Ok.bind (zGm (zVl hs hi (least - 1) c2) (zHm hk hi (least - 1) c2)) fun v30 h30 => ?_
  have hno : ¬ zTe (setU f i (least - 1) c2) p := fun h => hl3 (least - 1) (by show least - 1 < least; omega) ((z2l hi (least - 1) c2 p).1 h)
  rcases h30 with ⟨h, _⟩ | ⟨_, h, q, hq5, hq, hr⟩ | ⟨_, h, _⟩
  ·exact absurd fin2 h
  ·rw [h, hr.1, hr8]
   have : p < q := by
    apply Classical.byContradiction
    intro hn
    exact hno ((zOm hq hp.1).2 (by omega))
   have c3 : decide ((q : Int) > (p : Int)) = true := by simp; omega
   have t4 : ((0 : Int) == 4) = false := by decide
   rw [t4, c3, hw]
   exact Ok.pure rfl
  ·rw [h, hw]
   exact Ok.pure rfl
end Go.AM
set_option linter.unusedVariables false
namespace Go.AM
open Go
def zkd (x : zq) : Prop := (-9223372036854775808 ≤ x.Low ∧ x.Low ≤ 9223372036854775807) ∧ (-9223372036854775808 ≤ x.High ∧ x.High ≤ 9223372036854775807) ∧ True
def z9e (x : zl) : Prop := (-9223372036854775808 ≤ x.Shelf ∧ x.Shelf ≤ 9223372036854775807) ∧ (-9223372036854775808 ≤ x.Many ∧ x.Many ≤ 9223372036854775807) ∧ True
def z2e (x : zk) : Prop := zdg (fun (a : zl) => z9e a) x.Lines ∧ (-9223372036854775808 ≤ x.Until ∧ x.Until ≤ 9223372036854775807) ∧ True
def zec (x : zb) : Prop := zdg (fun (a : Int) => (-9223372036854775808 ≤ a ∧ a ≤ 9223372036854775807)) x.Far ∧ zkd x.Step ∧ zdg (fun (a : zq) => zkd a) x.Pick ∧ (-9223372036854775808 ≤ x.Carry ∧ x.Carry ≤ 9223372036854775807) ∧ zdg (fun (a : zk) => z2e a) x.Slips ∧ True
end Go.AM
set_option maxRecDepth 1000000
namespace Go.AM
open Go
theorem zmu (k : Nat) : zvb (k + 300) = some true := by kernel_rfl
end Go.AM
set_option linter.unusedVariables false
namespace Go.AM
open Go
theorem zMs {f : zb} (h : zec f) : zjc f := by
 obtain ⟨h1, h2, h3, h4, h5, _⟩ := h
 have e : maxLen = 9223372036854775807 := by decide
 have l1 := h1.2.2
 have l3 := h3.2.2
 have l5 := h5.2.2
 rw [e] at l1 l3 l5
 refine ⟨show f.Far.1.length < _ by omega, by omega, show f.Slips.1.length < _ by omega, fun s hs => ?_⟩
 have := (h5.1 s hs).1.2.2
 rw [e] at this
 omega
def zHt (f : zb) : Nat := 500000 + f.Far.1.length + f.Pick.1.length + f.Slips.1.length + (f.Slips.1.map fun s => s.Lines.1.length).sum
theorem zsw {l : List Nat} {n : Nat} : n ∈ l → n ≤ l.sum := by
 induction l with
 | nil => intro h; simp at h
 | cons x t ih =>
  intro h
  rw [List.sum_cons]
  rcases List.mem_cons.1 h with rfl | h
  ·omega
  ·have := ih h
   omega
theorem zLv (f : zb) (m : Nat) : Fuel (zHt f + m + 300) f := by
 unfold zHt
 refine ⟨by omega, show f.Far.1.length < _ by omega, by omega, show f.Slips.1.length < _ by omega, fun s hs => ?_⟩
 have := zsw (List.mem_map.2 ⟨s, hs, rfl⟩ : s.Lines.1.length ∈ f.Slips.1.map fun s => s.Lines.1.length)
 omega
end Go.AM
set_option linter.unusedVariables false
namespace Go.AM
open Go
theorem zCu {f : zb} (hf : zec f) (h : f.Slips.1 ≠ []) : f.Slips.2 ≠ .nil := by
 obtain ⟨_, _, _, _, h5, _⟩ := hf
 rcases h5.2.1 with ⟨_, h6⟩ | h6
 ·exact absurd h6 h
 ·rw [h6]; simp
theorem z8v (f : zb) (n m : Int) (hf : zec f) (hn : -9223372036854775808 ≤ n ∧ n ≤ 9223372036854775807) (hm : -9223372036854775808 ≤ m ∧ m ≤ 9223372036854775807) : ∃ k, zIb k f n m = some true :=
 ⟨_, zwq (zMs hf) (zLv f 0) (zCu hf) (zmu _) n m⟩
end Go.AM
