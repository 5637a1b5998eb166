/- The statement SlipTours holds for every input that its row lets in. Conditions: none. -/
import Derived.KernelRfl
import Derived.Test.YtobbgcagbnhecaaDoorD
set_option linter.all false
set_option linter.unusedVariables false
set_option maxRecDepth 100000
namespace Go.AM
open Go Go.Proofs
theorem zqp (k : Nat) (p0 : zd) (p1 : Int) (rc : zt0) (f1 f2 f3 f4 : Fr) (hrc : ∀ (f : Fr) (r0 : (SL Int)) (r1 : Int) (r2 : Int) (r : ((SL Int) × Bool)), rc r0 r1 r2 = some r → zK TE (ev TE) 77 [(.d (dl eI r0.1 r0.2)), (xi r1), (xi r2), (.ptr 0 6 0), (.ptr 0 8 0), (.ptr 0 3 0), (.ptr 0 9 0)] ⟨f, [[(2, (.cells ((za p0).map .d))), (3, (.cells [(xi p1)])), (6, (.cells ((za p0).map .d))), (8, (.cells [(xi (w64 ((zo 1 (p0.Slips.1.length : Int)) - 1)))])), (9, (.cells [(.fn 77 [] [(.ptr 0 6 0), (.ptr 0 8 0), (.ptr 0 3 0), (.ptr 0 9 0)])]))], f1, f2, f3, f4]⟩ [] = some (zt r, ⟨f, [[(2, (.cells ((za p0).map .d))), (3, (.cells [(xi p1)])), (6, (.cells ((za p0).map .d))), (8, (.cells [(xi (w64 ((zo 1 (p0.Slips.1.length : Int)) - 1)))])), (9, (.cells [(.fn 77 [] [(.ptr 0 6 0), (.ptr 0 8 0), (.ptr 0 3 0), (.ptr 0 9 0)])]))], f1, f2, f3, f4]⟩, [])) (r0 : (SL Int)) (r1 r2 : Int) (r : zt13) (h : zwi k p0 p1 rc r0 r1 r2 = some r) : zK TE (ev TE) 77 [(.d (dl eI r0.1 r0.2)), (xi r1), (xi r2), (.ptr 0 6 0), (.ptr 0 8 0), (.ptr 0 3 0), (.ptr 0 9 0)] ⟨f4, [[(zc 2 (za p0)), (3, (.cells [(xi p1)])), (zc 6 (za p0)), (8, (.cells [(xi (w64 ((zo 1 (p0.Slips.1.length : Int)) - 1)))])), (9, (.cells [(.fn 77 [] [(.ptr 0 6 0), (.ptr 0 8 0), (.ptr 0 3 0), (.ptr 0 9 0)])]))], f1, f2, f3]⟩ [] = some (zt r, ⟨f4, [[(zc 2 (za p0)), (3, (.cells [(xi p1)])), (zc 6 (za p0)), (8, (.cells [(xi (w64 ((zo 1 (p0.Slips.1.length : Int)) - 1)))])), (9, (.cells [(.fn 77 [] [(.ptr 0 6 0), (.ptr 0 8 0), (.ptr 0 3 0), (.ptr 0 9 0)])]))], f1, f2, f3]⟩, []) := by
 unfold zwi at h
 refine zn h (fun h1101 g1 => ?_) (fun h1101 g1 => ?_)
 ·refine zk g1 (fun v1102 h1103 g2 => ?_)
  exact zQ (g := (fun r => (zt r, ⟨f4, [[(2, (.cells ((za p0).map .d))), (3, (.cells [(xi p1)])), (6, (.cells ((za p0).map .d))), (8, (.cells [(xi (w64 ((zo 1 (p0.Slips.1.length : Int)) - 1)))])), (9, (.cells [(.fn 77 [] [(.ptr 0 6 0), (.ptr 0 8 0), (.ptr 0 3 0), (.ptr 0 9 0)])]))], f1, f2, f3]⟩, []))) g2 (zH (n := 80) (V := [(77, 1, 1, .q (xi (r0.1.length : Int))), (77, 1, 3, .q (xb true)), (77, 2, 6, .c (.tup [(dl (eL eI) v1102.1.1 v1102.1.2), (db v1102.2)]))]) (C := []) (ob (zr eI r0.1) (ob (o_b h1101) (ob (zT k (⟨p0⟩ : zj) (⟨(zqb (w64 ((zo 1 (p0.Slips.1.length : Int)) - 1)) r1), p1⟩ : zq) _ h1103) ob0))) (by kernel_rfl))
 ·refine zk g1 (fun v1102 h1103 g2 => ?_)
  refine zk g2 (fun v1104 h1105 g3 => ?_)
  refine zXb g3 (fun v1107 hh g4_0 => ?_) (fun v1107 hh g4_0 => ?_)
  ·subst hh
   exact zQ (g := (fun r => (zt r, ⟨f4, [[(2, (.cells ((za p0).map .d))), (3, (.cells [(xi p1)])), (6, (.cells ((za p0).map .d))), (8, (.cells [(xi (w64 ((zo 1 (p0.Slips.1.length : Int)) - 1)))])), (9, (.cells [(.fn 77 [] [(.ptr 0 6 0), (.ptr 0 8 0), (.ptr 0 3 0), (.ptr 0 9 0)])]))], f1, f2, f3]⟩, []))) g4_0 (zH (n := 80) (V := [(77, 1, 1, .q (xi (r0.1.length : Int))), (77, 1, 3, .q (xb false)), (77, 5, 1, .q (xi (r0.1.length : Int)))]) (C := [(77, 2000036, (.nor, zFe p0 p1 r0 r1 r2 (decide ((r0.1.length : Int) > 0)) rc f1 f2 f3 f4 v1102)), (77, 0, (.ret, zxh p0 p1 r0 r1 r2 v1102 rc f1 f2 f3 f4 v1107))]) (ob (zr eI r0.1) (ob (o_b h1101) (ob (zr eI r0.1) (ob (zjl k p0 p1 r0 r1 r2 (decide ((r0.1.length : Int) > 0)) rc f1 f2 f3 f4 hrc _ h1103) (ob (zx (id := 0) (r' := (.ret, zxh p0 p1 r0 r1 r2 v1102 rc f1 f2 f3 f4 v1107)) (zkd (zGk k p0 p1 r0 r1 r2 v1102 rc f1 f2 f3 f4 hrc) k _ _ h1105) rfl) ob0))))) (by kernel_rfl))
  ·subst hh
   exact zQ (g := (fun r => (zt r, ⟨f4, [[(2, (.cells ((za p0).map .d))), (3, (.cells [(xi p1)])), (6, (.cells ((za p0).map .d))), (8, (.cells [(xi (w64 ((zo 1 (p0.Slips.1.length : Int)) - 1)))])), (9, (.cells [(.fn 77 [] [(.ptr 0 6 0), (.ptr 0 8 0), (.ptr 0 3 0), (.ptr 0 9 0)])]))], f1, f2, f3]⟩, []))) g4_0 (zH (n := 80) (V := [(77, 1, 1, .q (xi (r0.1.length : Int))), (77, 1, 3, .q (xb false)), (77, 5, 1, .q (xi (r0.1.length : Int)))]) (C := [(77, 2000036, (.nor, zFe p0 p1 r0 r1 r2 (decide ((r0.1.length : Int) > 0)) rc f1 f2 f3 f4 v1102)), (77, 0, (.nor, zGh p0 p1 r0 r1 r2 v1102 rc f1 f2 f3 f4 v1107))]) (ob (zr eI r0.1) (ob (o_b h1101) (ob (zr eI r0.1) (ob (zjl k p0 p1 r0 r1 r2 (decide ((r0.1.length : Int) > 0)) rc f1 f2 f3 f4 hrc _ h1103) (ob (zx (id := 0) (r' := (.nor, zGh p0 p1 r0 r1 r2 v1102 rc f1 f2 f3 f4 v1107)) (zkd (zGk k p0 p1 r0 r1 r2 v1102 rc f1 f2 f3 f4 hrc) k _ _ h1105) rfl) ob0))))) (by kernel_rfl))
noncomputable def zte (p0 : zd) (p1 : Int) (r0 : (SL Int)) (r1 r2 : Int) (cb : Bool) (rc : zt0) (f1 f2 f3 f4 f5 : Fr) (r : zt1) : St := ⟨(z1i r0 r1 r2 r), ⟨[], [[(zc 2 (za p0)), (3, (.cells [(xi p1)])), (zc 6 (za p0)), (8, (.cells [(xi (w64 ((zo 1 (p0.Slips.1.length : Int)) - 1)))])), (9, (.cells [(.fn 77 [] [(.ptr 0 6 0), (.ptr 0 8 0), (.ptr 0 3 0), (.ptr 0 9 0)])]))], f1, f2, f3, f4, f5]⟩, []⟩
theorem zrk (k : Nat) (p0 : zd) (p1 : Int) (r0 : (SL Int)) (r1 r2 : Int) (cb : Bool) (rc : zt0) (f1 f2 f3 f4 f5 : Fr) (hrc : ∀ (f : Fr) (r0 : (SL Int)) (r1 : Int) (r2 : Int) (r : ((SL Int) × Bool)), rc r0 r1 r2 = some r → zK TE (ev TE) 77 [(.d (dl eI r0.1 r0.2)), (xi r1), (xi r2), (.ptr 0 6 0), (.ptr 0 8 0), (.ptr 0 3 0), (.ptr 0 9 0)] ⟨f, [[(2, (.cells ((za p0).map .d))), (3, (.cells [(xi p1)])), (6, (.cells ((za p0).map .d))), (8, (.cells [(xi (w64 ((zo 1 (p0.Slips.1.length : Int)) - 1)))])), (9, (.cells [(.fn 77 [] [(.ptr 0 6 0), (.ptr 0 8 0), (.ptr 0 3 0), (.ptr 0 9 0)])]))], f1, f2, f3, f4, f5]⟩ [] = some (zt r, ⟨f, [[(2, (.cells ((za p0).map .d))), (3, (.cells [(xi p1)])), (6, (.cells ((za p0).map .d))), (8, (.cells [(xi (w64 ((zo 1 (p0.Slips.1.length : Int)) - 1)))])), (9, (.cells [(.fn 77 [] [(.ptr 0 6 0), (.ptr 0 8 0), (.ptr 0 3 0), (.ptr 0 9 0)])]))], f1, f2, f3, f4, f5]⟩, [])) (r : zt1) (h : zBj k p0 p1 r0 r1 r2 cb rc = some r) : ev TE 77 (cnd TE 77 36) ⟨(z4i r0 r1 r2 cb), ⟨[], [[(zc 2 (za p0)), (3, (.cells [(xi p1)])), (zc 6 (za p0)), (8, (.cells [(xi (w64 ((zo 1 (p0.Slips.1.length : Int)) - 1)))])), (9, (.cells [(.fn 77 [] [(.ptr 0 6 0), (.ptr 0 8 0), (.ptr 0 3 0), (.ptr 0 9 0)])]))], f1, f2, f3, f4, f5]⟩, []⟩ = some (.nor, zte p0 p1 r0 r1 r2 cb rc f1 f2 f3 f4 f5 r) := by
 unfold zBj at h
 refine zn h (fun h1401 g1 => ?_) (fun h1401 g1 => ?_)
 ·subst h1401
  refine zk g1 (fun v1402 h1403 g2 => ?_)
  exact zB (g := fun r => (Ex.nor, zte p0 p1 r0 r1 r2 true rc f1 f2 f3 f4 f5 r)) g2 (zqe [(77, 6, 2, .q (xi (r0.1.length : Int))), (77, 6, 4, .q (.d (.pin [(di v1402)])))] [] (ob (zr eI r0.1) (ob (o_ia (e := eI) 1 h1403 rfl) ob0)) (by kernel_rfl))
 ·subst h1401
  exact zB (g := fun r => (Ex.nor, zte p0 p1 r0 r1 r2 false rc f1 f2 f3 f4 f5 r)) g1 (zqe [] [] ob0 (by kernel_rfl))
noncomputable def zky (r0 : (SL Int)) (r1 r2 : Int) (v1302 : zt1) (s14_8 : Int) : TM := [(0, (.d (dl eI r0.1 r0.2))), (1, (xi r1)), (2, (xi r2)), (3, (.ptr 0 6 0)), (4, (.ptr 0 8 0)), (5, (.ptr 0 3 0)), (6, (.ptr 0 9 0)), (10, (.d (.sl [] .nil))), (11, (xb false)), (21, (xb false)), (14, (xi v1302.1)), (36, (xb v1302.2)), (15, (xi s14_8))]
noncomputable def zqq (p0 : zd) (p1 : Int) (r0 : (SL Int)) (r1 r2 : Int) (v1302 : zt1) (rc : zt0) (f1 f2 f3 f4 f5 : Fr) (s14_8 : Int) : St := ⟨(zky r0 r1 r2 v1302 s14_8), ⟨[], [[(zc 2 (za p0)), (3, (.cells [(xi p1)])), (zc 6 (za p0)), (8, (.cells [(xi (w64 ((zo 1 (p0.Slips.1.length : Int)) - 1)))])), (9, (.cells [(.fn 77 [] [(.ptr 0 6 0), (.ptr 0 8 0), (.ptr 0 3 0), (.ptr 0 9 0)])]))], f1, f2, f3, f4, f5]⟩, []⟩
noncomputable def zXx (r0 : (SL Int)) (r1 r2 : Int) (r : zt17) (v1302 : zt1) : TM := [(0, (.d (dl eI r0.1 r0.2))), (1, (xi r1)), (2, (xi r2)), (3, (.ptr 0 6 0)), (4, (.ptr 0 8 0)), (5, (.ptr 0 3 0)), (6, (.ptr 0 9 0)), (10, (.d (dl eI r.1.1 r.1.2))), (11, (xb true)), (21, (xb false)), (14, (xi v1302.1)), (36, (xb v1302.2)), (15, (xi r.2.1)), (50, (xb true)), (16, (.d (dl eI r.1.1 r.1.2))), (17, (xb r.2.2)), (72, (xb true))]
noncomputable def znh (p0 : zd) (p1 : Int) (r0 : (SL Int)) (r1 r2 : Int) (v1302 : zt1) (rc : zt0) (f1 f2 f3 f4 f5 : Fr) (r : zt17) : St := ⟨(zXx r0 r1 r2 r v1302), ⟨[], [[(zc 2 (za p0)), (3, (.cells [(xi p1)])), (zc 6 (za p0)), (8, (.cells [(xi (w64 ((zo 1 (p0.Slips.1.length : Int)) - 1)))])), (9, (.cells [(.fn 77 [] [(.ptr 0 6 0), (.ptr 0 8 0), (.ptr 0 3 0), (.ptr 0 9 0)])]))], f1, f2, f3, f4, f5]⟩, []⟩
noncomputable def zWy (r0 : (SL Int)) (r1 r2 : Int) (v1302 : zt1) (r : Int) : TM := [(0, (.d (dl eI r0.1 r0.2))), (1, (xi r1)), (2, (xi r2)), (3, (.ptr 0 6 0)), (4, (.ptr 0 8 0)), (5, (.ptr 0 3 0)), (6, (.ptr 0 9 0)), (10, (.d (.sl [] .nil))), (11, (xb false)), (21, (xb false)), (14, (xi v1302.1)), (36, (xb v1302.2)), (15, (xi r)), (50, (xb false))]
noncomputable def zyh (p0 : zd) (p1 : Int) (r0 : (SL Int)) (r1 r2 : Int) (v1302 : zt1) (rc : zt0) (f1 f2 f3 f4 f5 : Fr) (r : Int) : St := ⟨(zWy r0 r1 r2 v1302 r), ⟨[], [[(zc 2 (za p0)), (3, (.cells [(xi p1)])), (zc 6 (za p0)), (8, (.cells [(xi (w64 ((zo 1 (p0.Slips.1.length : Int)) - 1)))])), (9, (.cells [(.fn 77 [] [(.ptr 0 6 0), (.ptr 0 8 0), (.ptr 0 3 0), (.ptr 0 9 0)])]))], f1, f2, f3, f4, f5]⟩, []⟩
noncomputable def zJp (p0 : zd) (p1 : Int) (r0 : (SL Int)) (r1 r2 : Int) (v1302 : zt1) (rc : zt0) (f1 f2 f3 f4 f5 : Fr) : (((SL Int) × Int × Bool) ⊕ Int) → Ex × St := Sum.elim (fun r => (.ret, znh p0 p1 r0 r1 r2 v1302 rc f1 f2 f3 f4 f5 r)) (fun r => ((.exit 0), zyh p0 p1 r0 r1 r2 v1302 rc f1 f2 f3 f4 f5 r))
theorem z1k (k : Nat) (p0 : zd) (p1 : Int) (r0 : (SL Int)) (r1 r2 : Int) (v1302 : zt1) (rc : zt0) (f1 f2 f3 f4 f5 : Fr) (hrc : ∀ (f : Fr) (r0 : (SL Int)) (r1 : Int) (r2 : Int) (r : ((SL Int) × Bool)), rc r0 r1 r2 = some r → zK TE (ev TE) 77 [(.d (dl eI r0.1 r0.2)), (xi r1), (xi r2), (.ptr 0 6 0), (.ptr 0 8 0), (.ptr 0 3 0), (.ptr 0 9 0)] ⟨f, [[(2, (.cells ((za p0).map .d))), (3, (.cells [(xi p1)])), (6, (.cells ((za p0).map .d))), (8, (.cells [(xi (w64 ((zo 1 (p0.Slips.1.length : Int)) - 1)))])), (9, (.cells [(.fn 77 [] [(.ptr 0 6 0), (.ptr 0 8 0), (.ptr 0 3 0), (.ptr 0 9 0)])]))], f1, f2, f3, f4, f5]⟩ [] = some (zt r, ⟨f, [[(2, (.cells ((za p0).map .d))), (3, (.cells [(xi p1)])), (6, (.cells ((za p0).map .d))), (8, (.cells [(xi (w64 ((zo 1 (p0.Slips.1.length : Int)) - 1)))])), (9, (.cells [(.fn 77 [] [(.ptr 0 6 0), (.ptr 0 8 0), (.ptr 0 3 0), (.ptr 0 9 0)])]))], f1, f2, f3, f4, f5]⟩, [])) (s14_8 : Int) (x : Int ⊕ (((SL Int) × Int × Bool) ⊕ Int)) (h : zJj k p0 p1 r0 r1 r2 v1302 rc s14_8 = some x) : zE TE 77 (blk TE 77 0) (fun s : Int => zqq p0 p1 r0 r1 r2 v1302 rc f1 f2 f3 f4 f5 s) (zJp p0 p1 r0 r1 r2 v1302 rc f1 f2 f3 f4 f5) s14_8 x := by
 unfold zJj at h
 refine zn h (fun h1501 g1 => ?_) (fun h1501 g1 => ?_)
 ·refine zn g1 (fun h1502 g2 => ?_) (fun h1502 g2 => ?_)
  ·cases g2
  ·refine zZ g2 (fun h1503 g3 => ?_)
   refine zn g3 (fun h1504 g4 => ?_) (fun h1504 g4 => ?_)
   ·cases g4
   ·refine zk g4 (fun v1505 h1506 g5 => ?_)
    refine zn g5 (fun h1507 g6 => ?_) (fun h1507 g6 => ?_)
    ·exact zqo [(77, 8, 4, .q (xi (p0.Slips.1.length : Int))), (77, 8, 5, .q (xb true)), (77, 10, 3, .q (xi (r0.1.length : Int))), (77, 10, 5, .q (xi (r0.1.length : Int))), (77, 10, 6, .q (.d (dl eI r0.1 (ccap r0.2)))), (77, 10, 9, .q (.d (dl eI (r0.1 ++ [s14_8]) .ro))), (77, 10, 12, .q (xi (zo 1 s14_8))), (77, 10, 15, .i (.tup [(dl eI v1505.1.1 v1505.1.2), (db v1505.2)]) ⟨[], [[(2, (.cells ((za p0).map .d))), (3, (.cells [(xi p1)])), (6, (.cells ((za p0).map .d))), (8, (.cells [(xi (w64 ((zo 1 (p0.Slips.1.length : Int)) - 1)))])), (9, (.cells [(.fn 77 [] [(.ptr 0 6 0), (.ptr 0 8 0), (.ptr 0 3 0), (.ptr 0 9 0)])]))], f1, f2, f3, f4, f5]⟩ []), (77, 11, 0, .q (xb true))] [] g6 (ob (zr zm p0.Slips.1) (ob (o_b h1501) (ob (zr eI r0.1) (ob (zr eI r0.1) (ob (z1c (e := eI) (z := 1) r0.1 r0.2) (ob (o_ad (P := TE.P) (φ := fun _ _ => none) (T := 22) (q := (1, [(di 0)])) (c := (ccap r0.2)) (e := eI) r0.1 s14_8 (by kernel_rfl) (fun _ => rfl) h1502 h1503) (ob (zfc (x := 1) h1504) (ob (hrc ([] : Fr) ((r0.1 ++ [s14_8]), .ro) (or64 r1 (zo 1 s14_8)) r2 _ h1506) (ob (o_b h1507) ob0))))))))) (by kernel_rfl)
    ·exact zqn (w64 (s14_8 + 1)) [] [(77, 8, 4, .q (xi (p0.Slips.1.length : Int))), (77, 8, 5, .q (xb true)), (77, 10, 3, .q (xi (r0.1.length : Int))), (77, 10, 5, .q (xi (r0.1.length : Int))), (77, 10, 6, .q (.d (dl eI r0.1 (ccap r0.2)))), (77, 10, 9, .q (.d (dl eI (r0.1 ++ [s14_8]) .ro))), (77, 10, 12, .q (xi (zo 1 s14_8))), (77, 10, 15, .i (.tup [(dl eI v1505.1.1 v1505.1.2), (db v1505.2)]) ⟨[], [[(2, (.cells ((za p0).map .d))), (3, (.cells [(xi p1)])), (6, (.cells ((za p0).map .d))), (8, (.cells [(xi (w64 ((zo 1 (p0.Slips.1.length : Int)) - 1)))])), (9, (.cells [(.fn 77 [] [(.ptr 0 6 0), (.ptr 0 8 0), (.ptr 0 3 0), (.ptr 0 9 0)])]))], f1, f2, f3, f4, f5]⟩ []), (77, 11, 0, .q (xb false))] [] g6 (ob (zr zm p0.Slips.1) (ob (o_b h1501) (ob (zr eI r0.1) (ob (zr eI r0.1) (ob (z1c (e := eI) (z := 1) r0.1 r0.2) (ob (o_ad (P := TE.P) (φ := fun _ _ => none) (T := 22) (q := (1, [(di 0)])) (c := (ccap r0.2)) (e := eI) r0.1 s14_8 (by kernel_rfl) (fun _ => rfl) h1502 h1503) (ob (zfc (x := 1) h1504) (ob (hrc ([] : Fr) ((r0.1 ++ [s14_8]), .ro) (or64 r1 (zo 1 s14_8)) r2 _ h1506) (ob (o_b h1507) ob0))))))))) (by kernel_rfl)
 ·exact zqo [(77, 8, 4, .q (xi (p0.Slips.1.length : Int))), (77, 8, 5, .q (xb false))] [] g1 (ob (zr zm p0.Slips.1) (ob (o_b h1501) ob0)) (by kernel_rfl)
theorem z1o (k : Nat) (p0 : zd) (p1 : Int) (rc : zt0) (f1 f2 f3 f4 f5 : Fr) (hrc : ∀ (f : Fr) (r0 : (SL Int)) (r1 : Int) (r2 : Int) (r : ((SL Int) × Bool)), rc r0 r1 r2 = some r → zK TE (ev TE) 77 [(.d (dl eI r0.1 r0.2)), (xi r1), (xi r2), (.ptr 0 6 0), (.ptr 0 8 0), (.ptr 0 3 0), (.ptr 0 9 0)] ⟨f, [[(2, (.cells ((za p0).map .d))), (3, (.cells [(xi p1)])), (6, (.cells ((za p0).map .d))), (8, (.cells [(xi (w64 ((zo 1 (p0.Slips.1.length : Int)) - 1)))])), (9, (.cells [(.fn 77 [] [(.ptr 0 6 0), (.ptr 0 8 0), (.ptr 0 3 0), (.ptr 0 9 0)])]))], f1, f2, f3, f4, f5]⟩ [] = some (zt r, ⟨f, [[(2, (.cells ((za p0).map .d))), (3, (.cells [(xi p1)])), (6, (.cells ((za p0).map .d))), (8, (.cells [(xi (w64 ((zo 1 (p0.Slips.1.length : Int)) - 1)))])), (9, (.cells [(.fn 77 [] [(.ptr 0 6 0), (.ptr 0 8 0), (.ptr 0 3 0), (.ptr 0 9 0)])]))], f1, f2, f3, f4, f5]⟩, [])) (r0 : (SL Int)) (r1 r2 : Int) (r : zt13) (h : z4h k p0 p1 rc r0 r1 r2 = some r) : zK TE (ev TE) 77 [(.d (dl eI r0.1 r0.2)), (xi r1), (xi r2), (.ptr 0 6 0), (.ptr 0 8 0), (.ptr 0 3 0), (.ptr 0 9 0)] ⟨f5, [[(zc 2 (za p0)), (3, (.cells [(xi p1)])), (zc 6 (za p0)), (8, (.cells [(xi (w64 ((zo 1 (p0.Slips.1.length : Int)) - 1)))])), (9, (.cells [(.fn 77 [] [(.ptr 0 6 0), (.ptr 0 8 0), (.ptr 0 3 0), (.ptr 0 9 0)])]))], f1, f2, f3, f4]⟩ [] = some (zt r, ⟨f5, [[(zc 2 (za p0)), (3, (.cells [(xi p1)])), (zc 6 (za p0)), (8, (.cells [(xi (w64 ((zo 1 (p0.Slips.1.length : Int)) - 1)))])), (9, (.cells [(.fn 77 [] [(.ptr 0 6 0), (.ptr 0 8 0), (.ptr 0 3 0), (.ptr 0 9 0)])]))], f1, f2, f3, f4]⟩, []) := by
 unfold z4h at h
 refine zn h (fun h1301 g1 => ?_) (fun h1301 g1 => ?_)
 ·refine zk g1 (fun v1302 h1303 g2 => ?_)
  exact zQ (g := (fun r => (zt r, ⟨f5, [[(2, (.cells ((za p0).map .d))), (3, (.cells [(xi p1)])), (6, (.cells ((za p0).map .d))), (8, (.cells [(xi (w64 ((zo 1 (p0.Slips.1.length : Int)) - 1)))])), (9, (.cells [(.fn 77 [] [(.ptr 0 6 0), (.ptr 0 8 0), (.ptr 0 3 0), (.ptr 0 9 0)])]))], f1, f2, f3, f4]⟩, []))) g2 (zH (n := 80) (V := [(77, 1, 1, .q (xi (r0.1.length : Int))), (77, 1, 3, .q (xb true)), (77, 2, 6, .c (.tup [(dl (eL eI) v1302.1.1 v1302.1.2), (db v1302.2)]))]) (C := []) (ob (zr eI r0.1) (ob (o_b h1301) (ob (zT k (⟨p0⟩ : zj) (⟨(zqb (w64 ((zo 1 (p0.Slips.1.length : Int)) - 1)) r1), p1⟩ : zq) _ h1303) ob0))) (by kernel_rfl))
 ·refine zk g1 (fun v1302 h1303 g2 => ?_)
  refine zk g2 (fun v1304 h1305 g3 => ?_)
  refine zXb g3 (fun v1307 hh g4_0 => ?_) (fun v1307 hh g4_0 => ?_)
  ·subst hh
   exact zQ (g := (fun r => (zt r, ⟨f5, [[(2, (.cells ((za p0).map .d))), (3, (.cells [(xi p1)])), (6, (.cells ((za p0).map .d))), (8, (.cells [(xi (w64 ((zo 1 (p0.Slips.1.length : Int)) - 1)))])), (9, (.cells [(.fn 77 [] [(.ptr 0 6 0), (.ptr 0 8 0), (.ptr 0 3 0), (.ptr 0 9 0)])]))], f1, f2, f3, f4]⟩, []))) g4_0 (zH (n := 80) (V := [(77, 1, 1, .q (xi (r0.1.length : Int))), (77, 1, 3, .q (xb false)), (77, 5, 1, .q (xi (r0.1.length : Int)))]) (C := [(77, 2000036, (.nor, zte p0 p1 r0 r1 r2 (decide ((r0.1.length : Int) > 0)) rc f1 f2 f3 f4 f5 v1302)), (77, 0, (.ret, znh p0 p1 r0 r1 r2 v1302 rc f1 f2 f3 f4 f5 v1307))]) (ob (zr eI r0.1) (ob (o_b h1301) (ob (zr eI r0.1) (ob (zrk k p0 p1 r0 r1 r2 (decide ((r0.1.length : Int) > 0)) rc f1 f2 f3 f4 f5 hrc _ h1303) (ob (zx (id := 0) (r' := (.ret, znh p0 p1 r0 r1 r2 v1302 rc f1 f2 f3 f4 f5 v1307)) (zkd (z1k k p0 p1 r0 r1 r2 v1302 rc f1 f2 f3 f4 f5 hrc) k _ _ h1305) rfl) ob0))))) (by kernel_rfl))
  ·subst hh
   exact zQ (g := (fun r => (zt r, ⟨f5, [[(2, (.cells ((za p0).map .d))), (3, (.cells [(xi p1)])), (6, (.cells ((za p0).map .d))), (8, (.cells [(xi (w64 ((zo 1 (p0.Slips.1.length : Int)) - 1)))])), (9, (.cells [(.fn 77 [] [(.ptr 0 6 0), (.ptr 0 8 0), (.ptr 0 3 0), (.ptr 0 9 0)])]))], f1, f2, f3, f4]⟩, []))) g4_0 (zH (n := 80) (V := [(77, 1, 1, .q (xi (r0.1.length : Int))), (77, 1, 3, .q (xb false)), (77, 5, 1, .q (xi (r0.1.length : Int)))]) (C := [(77, 2000036, (.nor, zte p0 p1 r0 r1 r2 (decide ((r0.1.length : Int) > 0)) rc f1 f2 f3 f4 f5 v1302)), (77, 0, (.nor, zyh p0 p1 r0 r1 r2 v1302 rc f1 f2 f3 f4 f5 v1307))]) (ob (zr eI r0.1) (ob (o_b h1301) (ob (zr eI r0.1) (ob (zrk k p0 p1 r0 r1 r2 (decide ((r0.1.length : Int) > 0)) rc f1 f2 f3 f4 f5 hrc _ h1303) (ob (zx (id := 0) (r' := (.nor, zyh p0 p1 r0 r1 r2 v1302 rc f1 f2 f3 f4 f5 v1307)) (zkd (z1k k p0 p1 r0 r1 r2 v1302 rc f1 f2 f3 f4 f5 hrc) k _ _ h1305) rfl) ob0))))) (by kernel_rfl))
noncomputable def zye (p0 : zd) (p1 : Int) (r0 : (SL Int)) (r1 r2 : Int) (cb : Bool) (rc : zt0) (f1 f2 f3 f4 f5 f6 : Fr) (r : zt1) : St := ⟨(z1i r0 r1 r2 r), ⟨[], [[(zc 2 (za p0)), (3, (.cells [(xi p1)])), (zc 6 (za p0)), (8, (.cells [(xi (w64 ((zo 1 (p0.Slips.1.length : Int)) - 1)))])), (9, (.cells [(.fn 77 [] [(.ptr 0 6 0), (.ptr 0 8 0), (.ptr 0 3 0), (.ptr 0 9 0)])]))], f1, f2, f3, f4, f5, f6]⟩, []⟩
theorem zPk (k : Nat) (p0 : zd) (p1 : Int) (r0 : (SL Int)) (r1 r2 : Int) (cb : Bool) (rc : zt0) (f1 f2 f3 f4 f5 f6 : Fr) (hrc : ∀ (f : Fr) (r0 : (SL Int)) (r1 : Int) (r2 : Int) (r : ((SL Int) × Bool)), rc r0 r1 r2 = some r → zK TE (ev TE) 77 [(.d (dl eI r0.1 r0.2)), (xi r1), (xi r2), (.ptr 0 6 0), (.ptr 0 8 0), (.ptr 0 3 0), (.ptr 0 9 0)] ⟨f, [[(2, (.cells ((za p0).map .d))), (3, (.cells [(xi p1)])), (6, (.cells ((za p0).map .d))), (8, (.cells [(xi (w64 ((zo 1 (p0.Slips.1.length : Int)) - 1)))])), (9, (.cells [(.fn 77 [] [(.ptr 0 6 0), (.ptr 0 8 0), (.ptr 0 3 0), (.ptr 0 9 0)])]))], f1, f2, f3, f4, f5, f6]⟩ [] = some (zt r, ⟨f, [[(2, (.cells ((za p0).map .d))), (3, (.cells [(xi p1)])), (6, (.cells ((za p0).map .d))), (8, (.cells [(xi (w64 ((zo 1 (p0.Slips.1.length : Int)) - 1)))])), (9, (.cells [(.fn 77 [] [(.ptr 0 6 0), (.ptr 0 8 0), (.ptr 0 3 0), (.ptr 0 9 0)])]))], f1, f2, f3, f4, f5, f6]⟩, [])) (r : zt1) (h : zAj k p0 p1 r0 r1 r2 cb rc = some r) : ev TE 77 (cnd TE 77 36) ⟨(z4i r0 r1 r2 cb), ⟨[], [[(zc 2 (za p0)), (3, (.cells [(xi p1)])), (zc 6 (za p0)), (8, (.cells [(xi (w64 ((zo 1 (p0.Slips.1.length : Int)) - 1)))])), (9, (.cells [(.fn 77 [] [(.ptr 0 6 0), (.ptr 0 8 0), (.ptr 0 3 0), (.ptr 0 9 0)])]))], f1, f2, f3, f4, f5, f6]⟩, []⟩ = some (.nor, zye p0 p1 r0 r1 r2 cb rc f1 f2 f3 f4 f5 f6 r) := by
 unfold zAj at h
 refine zn h (fun h1601 g1 => ?_) (fun h1601 g1 => ?_)
 ·subst h1601
  refine zk g1 (fun v1602 h1603 g2 => ?_)
  exact zB (g := fun r => (Ex.nor, zye p0 p1 r0 r1 r2 true rc f1 f2 f3 f4 f5 f6 r)) g2 (zqe [(77, 6, 2, .q (xi (r0.1.length : Int))), (77, 6, 4, .q (.d (.pin [(di v1602)])))] [] (ob (zr eI r0.1) (ob (o_ia (e := eI) 1 h1603 rfl) ob0)) (by kernel_rfl))
 ·subst h1601
  exact zB (g := fun r => (Ex.nor, zye p0 p1 r0 r1 r2 false rc f1 f2 f3 f4 f5 f6 r)) g1 (zqe [] [] ob0 (by kernel_rfl))
noncomputable def zmy (r0 : (SL Int)) (r1 r2 : Int) (v1502 : zt1) (s16_8 : Int) : TM := [(0, (.d (dl eI r0.1 r0.2))), (1, (xi r1)), (2, (xi r2)), (3, (.ptr 0 6 0)), (4, (.ptr 0 8 0)), (5, (.ptr 0 3 0)), (6, (.ptr 0 9 0)), (10, (.d (.sl [] .nil))), (11, (xb false)), (21, (xb false)), (14, (xi v1502.1)), (36, (xb v1502.2)), (15, (xi s16_8))]
noncomputable def zJq (p0 : zd) (p1 : Int) (r0 : (SL Int)) (r1 r2 : Int) (v1502 : zt1) (rc : zt0) (f1 f2 f3 f4 f5 f6 : Fr) (s16_8 : Int) : St := ⟨(zmy r0 r1 r2 v1502 s16_8), ⟨[], [[(zc 2 (za p0)), (3, (.cells [(xi p1)])), (zc 6 (za p0)), (8, (.cells [(xi (w64 ((zo 1 (p0.Slips.1.length : Int)) - 1)))])), (9, (.cells [(.fn 77 [] [(.ptr 0 6 0), (.ptr 0 8 0), (.ptr 0 3 0), (.ptr 0 9 0)])]))], f1, f2, f3, f4, f5, f6]⟩, []⟩
noncomputable def zay (r0 : (SL Int)) (r1 r2 : Int) (r : zt17) (v1502 : zt1) : TM := [(0, (.d (dl eI r0.1 r0.2))), (1, (xi r1)), (2, (xi r2)), (3, (.ptr 0 6 0)), (4, (.ptr 0 8 0)), (5, (.ptr 0 3 0)), (6, (.ptr 0 9 0)), (10, (.d (dl eI r.1.1 r.1.2))), (11, (xb true)), (21, (xb false)), (14, (xi v1502.1)), (36, (xb v1502.2)), (15, (xi r.2.1)), (50, (xb true)), (16, (.d (dl eI r.1.1 r.1.2))), (17, (xb r.2.2)), (72, (xb true))]
noncomputable def zrh (p0 : zd) (p1 : Int) (r0 : (SL Int)) (r1 r2 : Int) (v1502 : zt1) (rc : zt0) (f1 f2 f3 f4 f5 f6 : Fr) (r : zt17) : St := ⟨(zay r0 r1 r2 r v1502), ⟨[], [[(zc 2 (za p0)), (3, (.cells [(xi p1)])), (zc 6 (za p0)), (8, (.cells [(xi (w64 ((zo 1 (p0.Slips.1.length : Int)) - 1)))])), (9, (.cells [(.fn 77 [] [(.ptr 0 6 0), (.ptr 0 8 0), (.ptr 0 3 0), (.ptr 0 9 0)])]))], f1, f2, f3, f4, f5, f6]⟩, []⟩
noncomputable def zSy (r0 : (SL Int)) (r1 r2 : Int) (v1502 : zt1) (r : Int) : TM := [(0, (.d (dl eI r0.1 r0.2))), (1, (xi r1)), (2, (xi r2)), (3, (.ptr 0 6 0)), (4, (.ptr 0 8 0)), (5, (.ptr 0 3 0)), (6, (.ptr 0 9 0)), (10, (.d (.sl [] .nil))), (11, (xb false)), (21, (xb false)), (14, (xi v1502.1)), (36, (xb v1502.2)), (15, (xi r)), (50, (xb false))]
noncomputable def zCh (p0 : zd) (p1 : Int) (r0 : (SL Int)) (r1 r2 : Int) (v1502 : zt1) (rc : zt0) (f1 f2 f3 f4 f5 f6 : Fr) (r : Int) : St := ⟨(zSy r0 r1 r2 v1502 r), ⟨[], [[(zc 2 (za p0)), (3, (.cells [(xi p1)])), (zc 6 (za p0)), (8, (.cells [(xi (w64 ((zo 1 (p0.Slips.1.length : Int)) - 1)))])), (9, (.cells [(.fn 77 [] [(.ptr 0 6 0), (.ptr 0 8 0), (.ptr 0 3 0), (.ptr 0 9 0)])]))], f1, f2, f3, f4, f5, f6]⟩, []⟩
noncomputable def zFp (p0 : zd) (p1 : Int) (r0 : (SL Int)) (r1 r2 : Int) (v1502 : zt1) (rc : zt0) (f1 f2 f3 f4 f5 f6 : Fr) : (((SL Int) × Int × Bool) ⊕ Int) → Ex × St := Sum.elim (fun r => (.ret, zrh p0 p1 r0 r1 r2 v1502 rc f1 f2 f3 f4 f5 f6 r)) (fun r => ((.exit 0), zCh p0 p1 r0 r1 r2 v1502 rc f1 f2 f3 f4 f5 f6 r))
theorem zZk (k : Nat) (p0 : zd) (p1 : Int) (r0 : (SL Int)) (r1 r2 : Int) (v1502 : zt1) (rc : zt0) (f1 f2 f3 f4 f5 f6 : Fr) (hrc : ∀ (f : Fr) (r0 : (SL Int)) (r1 : Int) (r2 : Int) (r : ((SL Int) × Bool)), rc r0 r1 r2 = some r → zK TE (ev TE) 77 [(.d (dl eI r0.1 r0.2)), (xi r1), (xi r2), (.ptr 0 6 0), (.ptr 0 8 0), (.ptr 0 3 0), (.ptr 0 9 0)] ⟨f, [[(2, (.cells ((za p0).map .d))), (3, (.cells [(xi p1)])), (6, (.cells ((za p0).map .d))), (8, (.cells [(xi (w64 ((zo 1 (p0.Slips.1.length : Int)) - 1)))])), (9, (.cells [(.fn 77 [] [(.ptr 0 6 0), (.ptr 0 8 0), (.ptr 0 3 0), (.ptr 0 9 0)])]))], f1, f2, f3, f4, f5, f6]⟩ [] = some (zt r, ⟨f, [[(2, (.cells ((za p0).map .d))), (3, (.cells [(xi p1)])), (6, (.cells ((za p0).map .d))), (8, (.cells [(xi (w64 ((zo 1 (p0.Slips.1.length : Int)) - 1)))])), (9, (.cells [(.fn 77 [] [(.ptr 0 6 0), (.ptr 0 8 0), (.ptr 0 3 0), (.ptr 0 9 0)])]))], f1, f2, f3, f4, f5, f6]⟩, [])) (s16_8 : Int) (x : Int ⊕ (((SL Int) × Int × Bool) ⊕ Int)) (h : zpj k p0 p1 r0 r1 r2 v1502 rc s16_8 = some x) : zE TE 77 (blk TE 77 0) (fun s : Int => zJq p0 p1 r0 r1 r2 v1502 rc f1 f2 f3 f4 f5 f6 s) (zFp p0 p1 r0 r1 r2 v1502 rc f1 f2 f3 f4 f5 f6) s16_8 x := by
 unfold zpj at h
 refine zn h (fun h1701 g1 => ?_) (fun h1701 g1 => ?_)
 ·refine zn g1 (fun h1702 g2 => ?_) (fun h1702 g2 => ?_)
  ·cases g2
  ·refine zZ g2 (fun h1703 g3 => ?_)
   refine zn g3 (fun h1704 g4 => ?_) (fun h1704 g4 => ?_)
   ·cases g4
   ·refine zk g4 (fun v1705 h1706 g5 => ?_)
    refine zn g5 (fun h1707 g6 => ?_) (fun h1707 g6 => ?_)
    ·exact zqo [(77, 8, 4, .q (xi (p0.Slips.1.length : Int))), (77, 8, 5, .q (xb true)), (77, 10, 3, .q (xi (r0.1.length : Int))), (77, 10, 5, .q (xi (r0.1.length : Int))), (77, 10, 6, .q (.d (dl eI r0.1 (ccap r0.2)))), (77, 10, 9, .q (.d (dl eI (r0.1 ++ [s16_8]) .ro))), (77, 10, 12, .q (xi (zo 1 s16_8))), (77, 10, 15, .i (.tup [(dl eI v1705.1.1 v1705.1.2), (db v1705.2)]) ⟨[], [[(2, (.cells ((za p0).map .d))), (3, (.cells [(xi p1)])), (6, (.cells ((za p0).map .d))), (8, (.cells [(xi (w64 ((zo 1 (p0.Slips.1.length : Int)) - 1)))])), (9, (.cells [(.fn 77 [] [(.ptr 0 6 0), (.ptr 0 8 0), (.ptr 0 3 0), (.ptr 0 9 0)])]))], f1, f2, f3, f4, f5, f6]⟩ []), (77, 11, 0, .q (xb true))] [] g6 (ob (zr zm p0.Slips.1) (ob (o_b h1701) (ob (zr eI r0.1) (ob (zr eI r0.1) (ob (z1c (e := eI) (z := 1) r0.1 r0.2) (ob (o_ad (P := TE.P) (φ := fun _ _ => none) (T := 22) (q := (1, [(di 0)])) (c := (ccap r0.2)) (e := eI) r0.1 s16_8 (by kernel_rfl) (fun _ => rfl) h1702 h1703) (ob (zfc (x := 1) h1704) (ob (hrc ([] : Fr) ((r0.1 ++ [s16_8]), .ro) (or64 r1 (zo 1 s16_8)) r2 _ h1706) (ob (o_b h1707) ob0))))))))) (by kernel_rfl)
    ·exact zqn (w64 (s16_8 + 1)) [] [(77, 8, 4, .q (xi (p0.Slips.1.length : Int))), (77, 8, 5, .q (xb true)), (77, 10, 3, .q (xi (r0.1.length : Int))), (77, 10, 5, .q (xi (r0.1.length : Int))), (77, 10, 6, .q (.d (dl eI r0.1 (ccap r0.2)))), (77, 10, 9, .q (.d (dl eI (r0.1 ++ [s16_8]) .ro))), (77, 10, 12, .q (xi (zo 1 s16_8))), (77, 10, 15, .i (.tup [(dl eI v1705.1.1 v1705.1.2), (db v1705.2)]) ⟨[], [[(2, (.cells ((za p0).map .d))), (3, (.cells [(xi p1)])), (6, (.cells ((za p0).map .d))), (8, (.cells [(xi (w64 ((zo 1 (p0.Slips.1.length : Int)) - 1)))])), (9, (.cells [(.fn 77 [] [(.ptr 0 6 0), (.ptr 0 8 0), (.ptr 0 3 0), (.ptr 0 9 0)])]))], f1, f2, f3, f4, f5, f6]⟩ []), (77, 11, 0, .q (xb false))] [] g6 (ob (zr zm p0.Slips.1) (ob (o_b h1701) (ob (zr eI r0.1) (ob (zr eI r0.1) (ob (z1c (e := eI) (z := 1) r0.1 r0.2) (ob (o_ad (P := TE.P) (φ := fun _ _ => none) (T := 22) (q := (1, [(di 0)])) (c := (ccap r0.2)) (e := eI) r0.1 s16_8 (by kernel_rfl) (fun _ => rfl) h1702 h1703) (ob (zfc (x := 1) h1704) (ob (hrc ([] : Fr) ((r0.1 ++ [s16_8]), .ro) (or64 r1 (zo 1 s16_8)) r2 _ h1706) (ob (o_b h1707) ob0))))))))) (by kernel_rfl)
 ·exact zqo [(77, 8, 4, .q (xi (p0.Slips.1.length : Int))), (77, 8, 5, .q (xb false))] [] g1 (ob (zr zm p0.Slips.1) (ob (o_b h1701) ob0)) (by kernel_rfl)
theorem z6o (k : Nat) (p0 : zd) (p1 : Int) (rc : zt0) (f1 f2 f3 f4 f5 f6 : Fr) (hrc : ∀ (f : Fr) (r0 : (SL Int)) (r1 : Int) (r2 : Int) (r : ((SL Int) × Bool)), rc r0 r1 r2 = some r → zK TE (ev TE) 77 [(.d (dl eI r0.1 r0.2)), (xi r1), (xi r2), (.ptr 0 6 0), (.ptr 0 8 0), (.ptr 0 3 0), (.ptr 0 9 0)] ⟨f, [[(2, (.cells ((za p0).map .d))), (3, (.cells [(xi p1)])), (6, (.cells ((za p0).map .d))), (8, (.cells [(xi (w64 ((zo 1 (p0.Slips.1.length : Int)) - 1)))])), (9, (.cells [(.fn 77 [] [(.ptr 0 6 0), (.ptr 0 8 0), (.ptr 0 3 0), (.ptr 0 9 0)])]))], f1, f2, f3, f4, f5, f6]⟩ [] = some (zt r, ⟨f, [[(2, (.cells ((za p0).map .d))), (3, (.cells [(xi p1)])), (6, (.cells ((za p0).map .d))), (8, (.cells [(xi (w64 ((zo 1 (p0.Slips.1.length : Int)) - 1)))])), (9, (.cells [(.fn 77 [] [(.ptr 0 6 0), (.ptr 0 8 0), (.ptr 0 3 0), (.ptr 0 9 0)])]))], f1, f2, f3, f4, f5, f6]⟩, [])) (r0 : (SL Int)) (r1 r2 : Int) (r : zt13) (h : zxi k p0 p1 rc r0 r1 r2 = some r) : zK TE (ev TE) 77 [(.d (dl eI r0.1 r0.2)), (xi r1), (xi r2), (.ptr 0 6 0), (.ptr 0 8 0), (.ptr 0 3 0), (.ptr 0 9 0)] ⟨f6, [[(zc 2 (za p0)), (3, (.cells [(xi p1)])), (zc 6 (za p0)), (8, (.cells [(xi (w64 ((zo 1 (p0.Slips.1.length : Int)) - 1)))])), (9, (.cells [(.fn 77 [] [(.ptr 0 6 0), (.ptr 0 8 0), (.ptr 0 3 0), (.ptr 0 9 0)])]))], f1, f2, f3, f4, f5]⟩ [] = some (zt r, ⟨f6, [[(zc 2 (za p0)), (3, (.cells [(xi p1)])), (zc 6 (za p0)), (8, (.cells [(xi (w64 ((zo 1 (p0.Slips.1.length : Int)) - 1)))])), (9, (.cells [(.fn 77 [] [(.ptr 0 6 0), (.ptr 0 8 0), (.ptr 0 3 0), (.ptr 0 9 0)])]))], f1, f2, f3, f4, f5]⟩, []) := by
 unfold zxi at h
 refine zn h (fun h1501 g1 => ?_) (fun h1501 g1 => ?_)
 ·refine zk g1 (fun v1502 h1503 g2 => ?_)
  exact zQ (g := (fun r => (zt r, ⟨f6, [[(2, (.cells ((za p0).map .d))), (3, (.cells [(xi p1)])), (6, (.cells ((za p0).map .d))), (8, (.cells [(xi (w64 ((zo 1 (p0.Slips.1.length : Int)) - 1)))])), (9, (.cells [(.fn 77 [] [(.ptr 0 6 0), (.ptr 0 8 0), (.ptr 0 3 0), (.ptr 0 9 0)])]))], f1, f2, f3, f4, f5]⟩, []))) g2 (zH (n := 80) (V := [(77, 1, 1, .q (xi (r0.1.length : Int))), (77, 1, 3, .q (xb true)), (77, 2, 6, .c (.tup [(dl (eL eI) v1502.1.1 v1502.1.2), (db v1502.2)]))]) (C := []) (ob (zr eI r0.1) (ob (o_b h1501) (ob (zT k (⟨p0⟩ : zj) (⟨(zqb (w64 ((zo 1 (p0.Slips.1.length : Int)) - 1)) r1), p1⟩ : zq) _ h1503) ob0))) (by kernel_rfl))
 ·refine zk g1 (fun v1502 h1503 g2 => ?_)
  refine zk g2 (fun v1504 h1505 g3 => ?_)
  refine zXb g3 (fun v1507 hh g4_0 => ?_) (fun v1507 hh g4_0 => ?_)
  ·subst hh
   exact zQ (g := (fun r => (zt r, ⟨f6, [[(2, (.cells ((za p0).map .d))), (3, (.cells [(xi p1)])), (6, (.cells ((za p0).map .d))), (8, (.cells [(xi (w64 ((zo 1 (p0.Slips.1.length : Int)) - 1)))])), (9, (.cells [(.fn 77 [] [(.ptr 0 6 0), (.ptr 0 8 0), (.ptr 0 3 0), (.ptr 0 9 0)])]))], f1, f2, f3, f4, f5]⟩, []))) g4_0 (zH (n := 80) (V := [(77, 1, 1, .q (xi (r0.1.length : Int))), (77, 1, 3, .q (xb false)), (77, 5, 1, .q (xi (r0.1.length : Int)))]) (C := [(77, 2000036, (.nor, zye p0 p1 r0 r1 r2 (decide ((r0.1.length : Int) > 0)) rc f1 f2 f3 f4 f5 f6 v1502)), (77, 0, (.ret, zrh p0 p1 r0 r1 r2 v1502 rc f1 f2 f3 f4 f5 f6 v1507))]) (ob (zr eI r0.1) (ob (o_b h1501) (ob (zr eI r0.1) (ob (zPk k p0 p1 r0 r1 r2 (decide ((r0.1.length : Int) > 0)) rc f1 f2 f3 f4 f5 f6 hrc _ h1503) (ob (zx (id := 0) (r' := (.ret, zrh p0 p1 r0 r1 r2 v1502 rc f1 f2 f3 f4 f5 f6 v1507)) (zkd (zZk k p0 p1 r0 r1 r2 v1502 rc f1 f2 f3 f4 f5 f6 hrc) k _ _ h1505) rfl) ob0))))) (by kernel_rfl))
  ·subst hh
   exact zQ (g := (fun r => (zt r, ⟨f6, [[(2, (.cells ((za p0).map .d))), (3, (.cells [(xi p1)])), (6, (.cells ((za p0).map .d))), (8, (.cells [(xi (w64 ((zo 1 (p0.Slips.1.length : Int)) - 1)))])), (9, (.cells [(.fn 77 [] [(.ptr 0 6 0), (.ptr 0 8 0), (.ptr 0 3 0), (.ptr 0 9 0)])]))], f1, f2, f3, f4, f5]⟩, []))) g4_0 (zH (n := 80) (V := [(77, 1, 1, .q (xi (r0.1.length : Int))), (77, 1, 3, .q (xb false)), (77, 5, 1, .q (xi (r0.1.length : Int)))]) (C := [(77, 2000036, (.nor, zye p0 p1 r0 r1 r2 (decide ((r0.1.length : Int) > 0)) rc f1 f2 f3 f4 f5 f6 v1502)), (77, 0, (.nor, zCh p0 p1 r0 r1 r2 v1502 rc f1 f2 f3 f4 f5 f6 v1507))]) (ob (zr eI r0.1) (ob (o_b h1501) (ob (zr eI r0.1) (ob (zPk k p0 p1 r0 r1 r2 (decide ((r0.1.length : Int) > 0)) rc f1 f2 f3 f4 f5 f6 hrc _ h1503) (ob (zx (id := 0) (r' := (.nor, zCh p0 p1 r0 r1 r2 v1502 rc f1 f2 f3 f4 f5 f6 v1507)) (zkd (zZk k p0 p1 r0 r1 r2 v1502 rc f1 f2 f3 f4 f5 f6 hrc) k _ _ h1505) rfl) ob0))))) (by kernel_rfl))
noncomputable def zue (p0 : zd) (p1 : Int) (r0 : (SL Int)) (r1 r2 : Int) (cb : Bool) (rc : zt0) (f1 f2 f3 f4 f5 f6 f7 : Fr) (r : zt1) : St := ⟨(z1i r0 r1 r2 r), ⟨[], [[(zc 2 (za p0)), (3, (.cells [(xi p1)])), (zc 6 (za p0)), (8, (.cells [(xi (w64 ((zo 1 (p0.Slips.1.length : Int)) - 1)))])), (9, (.cells [(.fn 77 [] [(.ptr 0 6 0), (.ptr 0 8 0), (.ptr 0 3 0), (.ptr 0 9 0)])]))], f1, f2, f3, f4, f5, f6, f7]⟩, []⟩
theorem zcl (k : Nat) (p0 : zd) (p1 : Int) (r0 : (SL Int)) (r1 r2 : Int) (cb : Bool) (rc : zt0) (f1 f2 f3 f4 f5 f6 f7 : Fr) (hrc : ∀ (f : Fr) (r0 : (SL Int)) (r1 : Int) (r2 : Int) (r : ((SL Int) × Bool)), rc r0 r1 r2 = some r → zK TE (ev TE) 77 [(.d (dl eI r0.1 r0.2)), (xi r1), (xi r2), (.ptr 0 6 0), (.ptr 0 8 0), (.ptr 0 3 0), (.ptr 0 9 0)] ⟨f, [[(2, (.cells ((za p0).map .d))), (3, (.cells [(xi p1)])), (6, (.cells ((za p0).map .d))), (8, (.cells [(xi (w64 ((zo 1 (p0.Slips.1.length : Int)) - 1)))])), (9, (.cells [(.fn 77 [] [(.ptr 0 6 0), (.ptr 0 8 0), (.ptr 0 3 0), (.ptr 0 9 0)])]))], f1, f2, f3, f4, f5, f6, f7]⟩ [] = some (zt r, ⟨f, [[(2, (.cells ((za p0).map .d))), (3, (.cells [(xi p1)])), (6, (.cells ((za p0).map .d))), (8, (.cells [(xi (w64 ((zo 1 (p0.Slips.1.length : Int)) - 1)))])), (9, (.cells [(.fn 77 [] [(.ptr 0 6 0), (.ptr 0 8 0), (.ptr 0 3 0), (.ptr 0 9 0)])]))], f1, f2, f3, f4, f5, f6, f7]⟩, [])) (r : zt1) (h : zEj k p0 p1 r0 r1 r2 cb rc = some r) : ev TE 77 (cnd TE 77 36) ⟨(z4i r0 r1 r2 cb), ⟨[], [[(zc 2 (za p0)), (3, (.cells [(xi p1)])), (zc 6 (za p0)), (8, (.cells [(xi (w64 ((zo 1 (p0.Slips.1.length : Int)) - 1)))])), (9, (.cells [(.fn 77 [] [(.ptr 0 6 0), (.ptr 0 8 0), (.ptr 0 3 0), (.ptr 0 9 0)])]))], f1, f2, f3, f4, f5, f6, f7]⟩, []⟩ = some (.nor, zue p0 p1 r0 r1 r2 cb rc f1 f2 f3 f4 f5 f6 f7 r) := by
 unfold zEj at h
 refine zn h (fun h1801 g1 => ?_) (fun h1801 g1 => ?_)
 ·subst h1801
  refine zk g1 (fun v1802 h1803 g2 => ?_)
  exact zB (g := fun r => (Ex.nor, zue p0 p1 r0 r1 r2 true rc f1 f2 f3 f4 f5 f6 f7 r)) g2 (zqe [(77, 6, 2, .q (xi (r0.1.length : Int))), (77, 6, 4, .q (.d (.pin [(di v1802)])))] [] (ob (zr eI r0.1) (ob (o_ia (e := eI) 1 h1803 rfl) ob0)) (by kernel_rfl))
 ·subst h1801
  exact zB (g := fun r => (Ex.nor, zue p0 p1 r0 r1 r2 false rc f1 f2 f3 f4 f5 f6 f7 r)) g1 (zqe [] [] ob0 (by kernel_rfl))
noncomputable def zgz (r0 : (SL Int)) (r1 r2 : Int) (v1702 : zt1) (s18_8 : Int) : TM := [(0, (.d (dl eI r0.1 r0.2))), (1, (xi r1)), (2, (xi r2)), (3, (.ptr 0 6 0)), (4, (.ptr 0 8 0)), (5, (.ptr 0 3 0)), (6, (.ptr 0 9 0)), (10, (.d (.sl [] .nil))), (11, (xb false)), (21, (xb false)), (14, (xi v1702.1)), (36, (xb v1702.2)), (15, (xi s18_8))]
noncomputable def z3p (p0 : zd) (p1 : Int) (r0 : (SL Int)) (r1 r2 : Int) (v1702 : zt1) (rc : zt0) (f1 f2 f3 f4 f5 f6 f7 : Fr) (s18_8 : Int) : St := ⟨(zgz r0 r1 r2 v1702 s18_8), ⟨[], [[(zc 2 (za p0)), (3, (.cells [(xi p1)])), (zc 6 (za p0)), (8, (.cells [(xi (w64 ((zo 1 (p0.Slips.1.length : Int)) - 1)))])), (9, (.cells [(.fn 77 [] [(.ptr 0 6 0), (.ptr 0 8 0), (.ptr 0 3 0), (.ptr 0 9 0)])]))], f1, f2, f3, f4, f5, f6, f7]⟩, []⟩
noncomputable def zjy (r0 : (SL Int)) (r1 r2 : Int) (r : zt17) (v1702 : zt1) : TM := [(0, (.d (dl eI r0.1 r0.2))), (1, (xi r1)), (2, (xi r2)), (3, (.ptr 0 6 0)), (4, (.ptr 0 8 0)), (5, (.ptr 0 3 0)), (6, (.ptr 0 9 0)), (10, (.d (dl eI r.1.1 r.1.2))), (11, (xb true)), (21, (xb false)), (14, (xi v1702.1)), (36, (xb v1702.2)), (15, (xi r.2.1)), (50, (xb true)), (16, (.d (dl eI r.1.1 r.1.2))), (17, (xb r.2.2)), (72, (xb true))]
noncomputable def zHh (p0 : zd) (p1 : Int) (r0 : (SL Int)) (r1 r2 : Int) (v1702 : zt1) (rc : zt0) (f1 f2 f3 f4 f5 f6 f7 : Fr) (r : zt17) : St := ⟨(zjy r0 r1 r2 r v1702), ⟨[], [[(zc 2 (za p0)), (3, (.cells [(xi p1)])), (zc 6 (za p0)), (8, (.cells [(xi (w64 ((zo 1 (p0.Slips.1.length : Int)) - 1)))])), (9, (.cells [(.fn 77 [] [(.ptr 0 6 0), (.ptr 0 8 0), (.ptr 0 3 0), (.ptr 0 9 0)])]))], f1, f2, f3, f4, f5, f6, f7]⟩, []⟩
noncomputable def zPy (r0 : (SL Int)) (r1 r2 : Int) (v1702 : zt1) (r : Int) : TM := [(0, (.d (dl eI r0.1 r0.2))), (1, (xi r1)), (2, (xi r2)), (3, (.ptr 0 6 0)), (4, (.ptr 0 8 0)), (5, (.ptr 0 3 0)), (6, (.ptr 0 9 0)), (10, (.d (.sl [] .nil))), (11, (xb false)), (21, (xb false)), (14, (xi v1702.1)), (36, (xb v1702.2)), (15, (xi r)), (50, (xb false))]
noncomputable def zIh (p0 : zd) (p1 : Int) (r0 : (SL Int)) (r1 r2 : Int) (v1702 : zt1) (rc : zt0) (f1 f2 f3 f4 f5 f6 f7 : Fr) (r : Int) : St := ⟨(zPy r0 r1 r2 v1702 r), ⟨[], [[(zc 2 (za p0)), (3, (.cells [(xi p1)])), (zc 6 (za p0)), (8, (.cells [(xi (w64 ((zo 1 (p0.Slips.1.length : Int)) - 1)))])), (9, (.cells [(.fn 77 [] [(.ptr 0 6 0), (.ptr 0 8 0), (.ptr 0 3 0), (.ptr 0 9 0)])]))], f1, f2, f3, f4, f5, f6, f7]⟩, []⟩
noncomputable def zMp (p0 : zd) (p1 : Int) (r0 : (SL Int)) (r1 r2 : Int) (v1702 : zt1) (rc : zt0) (f1 f2 f3 f4 f5 f6 f7 : Fr) : (((SL Int) × Int × Bool) ⊕ Int) → Ex × St := Sum.elim (fun r => (.ret, zHh p0 p1 r0 r1 r2 v1702 rc f1 f2 f3 f4 f5 f6 f7 r)) (fun r => ((.exit 0), zIh p0 p1 r0 r1 r2 v1702 rc f1 f2 f3 f4 f5 f6 f7 r))
theorem zMk (k : Nat) (p0 : zd) (p1 : Int) (r0 : (SL Int)) (r1 r2 : Int) (v1702 : zt1) (rc : zt0) (f1 f2 f3 f4 f5 f6 f7 : Fr) (hrc : ∀ (f : Fr) (r0 : (SL Int)) (r1 : Int) (r2 : Int) (r : ((SL Int) × Bool)), rc r0 r1 r2 = some r → zK TE (ev TE) 77 [(.d (dl eI r0.1 r0.2)), (xi r1), (xi r2), (.ptr 0 6 0), (.ptr 0 8 0), (.ptr 0 3 0), (.ptr 0 9 0)] ⟨f, [[(2, (.cells ((za p0).map .d))), (3, (.cells [(xi p1)])), (6, (.cells ((za p0).map .d))), (8, (.cells [(xi (w64 ((zo 1 (p0.Slips.1.length : Int)) - 1)))])), (9, (.cells [(.fn 77 [] [(.ptr 0 6 0), (.ptr 0 8 0), (.ptr 0 3 0), (.ptr 0 9 0)])]))], f1, f2, f3, f4, f5, f6, f7]⟩ [] = some (zt r, ⟨f, [[(2, (.cells ((za p0).map .d))), (3, (.cells [(xi p1)])), (6, (.cells ((za p0).map .d))), (8, (.cells [(xi (w64 ((zo 1 (p0.Slips.1.length : Int)) - 1)))])), (9, (.cells [(.fn 77 [] [(.ptr 0 6 0), (.ptr 0 8 0), (.ptr 0 3 0), (.ptr 0 9 0)])]))], f1, f2, f3, f4, f5, f6, f7]⟩, [])) (s18_8 : Int) (x : Int ⊕ (((SL Int) × Int × Bool) ⊕ Int)) (h : zQj k p0 p1 r0 r1 r2 v1702 rc s18_8 = some x) : zE TE 77 (blk TE 77 0) (fun s : Int => z3p p0 p1 r0 r1 r2 v1702 rc f1 f2 f3 f4 f5 f6 f7 s) (zMp p0 p1 r0 r1 r2 v1702 rc f1 f2 f3 f4 f5 f6 f7) s18_8 x := by
 unfold zQj at h
 refine zn h (fun h1901 g1 => ?_) (fun h1901 g1 => ?_)
 ·refine zn g1 (fun h1902 g2 => ?_) (fun h1902 g2 => ?_)
  ·cases g2
  ·refine zZ g2 (fun h1903 g3 => ?_)
   refine zn g3 (fun h1904 g4 => ?_) (fun h1904 g4 => ?_)
   ·cases g4
   ·refine zk g4 (fun v1905 h1906 g5 => ?_)
    refine zn g5 (fun h1907 g6 => ?_) (fun h1907 g6 => ?_)
    ·exact zqo [(77, 8, 4, .q (xi (p0.Slips.1.length : Int))), (77, 8, 5, .q (xb true)), (77, 10, 3, .q (xi (r0.1.length : Int))), (77, 10, 5, .q (xi (r0.1.length : Int))), (77, 10, 6, .q (.d (dl eI r0.1 (ccap r0.2)))), (77, 10, 9, .q (.d (dl eI (r0.1 ++ [s18_8]) .ro))), (77, 10, 12, .q (xi (zo 1 s18_8))), (77, 10, 15, .i (.tup [(dl eI v1905.1.1 v1905.1.2), (db v1905.2)]) ⟨[], [[(2, (.cells ((za p0).map .d))), (3, (.cells [(xi p1)])), (6, (.cells ((za p0).map .d))), (8, (.cells [(xi (w64 ((zo 1 (p0.Slips.1.length : Int)) - 1)))])), (9, (.cells [(.fn 77 [] [(.ptr 0 6 0), (.ptr 0 8 0), (.ptr 0 3 0), (.ptr 0 9 0)])]))], f1, f2, f3, f4, f5, f6, f7]⟩ []), (77, 11, 0, .q (xb true))] [] g6 (ob (zr zm p0.Slips.1) (ob (o_b h1901) (ob (zr eI r0.1) (ob (zr eI r0.1) (ob (z1c (e := eI) (z := 1) r0.1 r0.2) (ob (o_ad (P := TE.P) (φ := fun _ _ => none) (T := 22) (q := (1, [(di 0)])) (c := (ccap r0.2)) (e := eI) r0.1 s18_8 (by kernel_rfl) (fun _ => rfl) h1902 h1903) (ob (zfc (x := 1) h1904) (ob (hrc ([] : Fr) ((r0.1 ++ [s18_8]), .ro) (or64 r1 (zo 1 s18_8)) r2 _ h1906) (ob (o_b h1907) ob0))))))))) (by kernel_rfl)
    ·exact zqn (w64 (s18_8 + 1)) [] [(77, 8, 4, .q (xi (p0.Slips.1.length : Int))), (77, 8, 5, .q (xb true)), (77, 10, 3, .q (xi (r0.1.length : Int))), (77, 10, 5, .q (xi (r0.1.length : Int))), (77, 10, 6, .q (.d (dl eI r0.1 (ccap r0.2)))), (77, 10, 9, .q (.d (dl eI (r0.1 ++ [s18_8]) .ro))), (77, 10, 12, .q (xi (zo 1 s18_8))), (77, 10, 15, .i (.tup [(dl eI v1905.1.1 v1905.1.2), (db v1905.2)]) ⟨[], [[(2, (.cells ((za p0).map .d))), (3, (.cells [(xi p1)])), (6, (.cells ((za p0).map .d))), (8, (.cells [(xi (w64 ((zo 1 (p0.Slips.1.length : Int)) - 1)))])), (9, (.cells [(.fn 77 [] [(.ptr 0 6 0), (.ptr 0 8 0), (.ptr 0 3 0), (.ptr 0 9 0)])]))], f1, f2, f3, f4, f5, f6, f7]⟩ []), (77, 11, 0, .q (xb false))] [] g6 (ob (zr zm p0.Slips.1) (ob (o_b h1901) (ob (zr eI r0.1) (ob (zr eI r0.1) (ob (z1c (e := eI) (z := 1) r0.1 r0.2) (ob (o_ad (P := TE.P) (φ := fun _ _ => none) (T := 22) (q := (1, [(di 0)])) (c := (ccap r0.2)) (e := eI) r0.1 s18_8 (by kernel_rfl) (fun _ => rfl) h1902 h1903) (ob (zfc (x := 1) h1904) (ob (hrc ([] : Fr) ((r0.1 ++ [s18_8]), .ro) (or64 r1 (zo 1 s18_8)) r2 _ h1906) (ob (o_b h1907) ob0))))))))) (by kernel_rfl)
 ·exact zqo [(77, 8, 4, .q (xi (p0.Slips.1.length : Int))), (77, 8, 5, .q (xb false))] [] g1 (ob (zr zm p0.Slips.1) (ob (o_b h1901) ob0)) (by kernel_rfl)
theorem zXo (k : Nat) (p0 : zd) (p1 : Int) (rc : zt0) (f1 f2 f3 f4 f5 f6 f7 : Fr) (hrc : ∀ (f : Fr) (r0 : (SL Int)) (r1 : Int) (r2 : Int) (r : ((SL Int) × Bool)), rc r0 r1 r2 = some r → zK TE (ev TE) 77 [(.d (dl eI r0.1 r0.2)), (xi r1), (xi r2), (.ptr 0 6 0), (.ptr 0 8 0), (.ptr 0 3 0), (.ptr 0 9 0)] ⟨f, [[(2, (.cells ((za p0).map .d))), (3, (.cells [(xi p1)])), (6, (.cells ((za p0).map .d))), (8, (.cells [(xi (w64 ((zo 1 (p0.Slips.1.length : Int)) - 1)))])), (9, (.cells [(.fn 77 [] [(.ptr 0 6 0), (.ptr 0 8 0), (.ptr 0 3 0), (.ptr 0 9 0)])]))], f1, f2, f3, f4, f5, f6, f7]⟩ [] = some (zt r, ⟨f, [[(2, (.cells ((za p0).map .d))), (3, (.cells [(xi p1)])), (6, (.cells ((za p0).map .d))), (8, (.cells [(xi (w64 ((zo 1 (p0.Slips.1.length : Int)) - 1)))])), (9, (.cells [(.fn 77 [] [(.ptr 0 6 0), (.ptr 0 8 0), (.ptr 0 3 0), (.ptr 0 9 0)])]))], f1, f2, f3, f4, f5, f6, f7]⟩, [])) (r0 : (SL Int)) (r1 r2 : Int) (r : zt13) (h : zYh k p0 p1 rc r0 r1 r2 = some r) : zK TE (ev TE) 77 [(.d (dl eI r0.1 r0.2)), (xi r1), (xi r2), (.ptr 0 6 0), (.ptr 0 8 0), (.ptr 0 3 0), (.ptr 0 9 0)] ⟨f7, [[(zc 2 (za p0)), (3, (.cells [(xi p1)])), (zc 6 (za p0)), (8, (.cells [(xi (w64 ((zo 1 (p0.Slips.1.length : Int)) - 1)))])), (9, (.cells [(.fn 77 [] [(.ptr 0 6 0), (.ptr 0 8 0), (.ptr 0 3 0), (.ptr 0 9 0)])]))], f1, f2, f3, f4, f5, f6]⟩ [] = some (zt r, ⟨f7, [[(zc 2 (za p0)), (3, (.cells [(xi p1)])), (zc 6 (za p0)), (8, (.cells [(xi (w64 ((zo 1 (p0.Slips.1.length : Int)) - 1)))])), (9, (.cells [(.fn 77 [] [(.ptr 0 6 0), (.ptr 0 8 0), (.ptr 0 3 0), (.ptr 0 9 0)])]))], f1, f2, f3, f4, f5, f6]⟩, []) := by
 unfold zYh at h
 refine zn h (fun h1701 g1 => ?_) (fun h1701 g1 => ?_)
 ·refine zk g1 (fun v1702 h1703 g2 => ?_)
  exact zQ (g := (fun r => (zt r, ⟨f7, [[(2, (.cells ((za p0).map .d))), (3, (.cells [(xi p1)])), (6, (.cells ((za p0).map .d))), (8, (.cells [(xi (w64 ((zo 1 (p0.Slips.1.length : Int)) - 1)))])), (9, (.cells [(.fn 77 [] [(.ptr 0 6 0), (.ptr 0 8 0), (.ptr 0 3 0), (.ptr 0 9 0)])]))], f1, f2, f3, f4, f5, f6]⟩, []))) g2 (zH (n := 80) (V := [(77, 1, 1, .q (xi (r0.1.length : Int))), (77, 1, 3, .q (xb true)), (77, 2, 6, .c (.tup [(dl (eL eI) v1702.1.1 v1702.1.2), (db v1702.2)]))]) (C := []) (ob (zr eI r0.1) (ob (o_b h1701) (ob (zT k (⟨p0⟩ : zj) (⟨(zqb (w64 ((zo 1 (p0.Slips.1.length : Int)) - 1)) r1), p1⟩ : zq) _ h1703) ob0))) (by kernel_rfl))
 ·refine zk g1 (fun v1702 h1703 g2 => ?_)
  refine zk g2 (fun v1704 h1705 g3 => ?_)
  refine zXb g3 (fun v1707 hh g4_0 => ?_) (fun v1707 hh g4_0 => ?_)
  ·subst hh
   exact zQ (g := (fun r => (zt r, ⟨f7, [[(2, (.cells ((za p0).map .d))), (3, (.cells [(xi p1)])), (6, (.cells ((za p0).map .d))), (8, (.cells [(xi (w64 ((zo 1 (p0.Slips.1.length : Int)) - 1)))])), (9, (.cells [(.fn 77 [] [(.ptr 0 6 0), (.ptr 0 8 0), (.ptr 0 3 0), (.ptr 0 9 0)])]))], f1, f2, f3, f4, f5, f6]⟩, []))) g4_0 (zH (n := 80) (V := [(77, 1, 1, .q (xi (r0.1.length : Int))), (77, 1, 3, .q (xb false)), (77, 5, 1, .q (xi (r0.1.length : Int)))]) (C := [(77, 2000036, (.nor, zue p0 p1 r0 r1 r2 (decide ((r0.1.length : Int) > 0)) rc f1 f2 f3 f4 f5 f6 f7 v1702)), (77, 0, (.ret, zHh p0 p1 r0 r1 r2 v1702 rc f1 f2 f3 f4 f5 f6 f7 v1707))]) (ob (zr eI r0.1) (ob (o_b h1701) (ob (zr eI r0.1) (ob (zcl k p0 p1 r0 r1 r2 (decide ((r0.1.length : Int) > 0)) rc f1 f2 f3 f4 f5 f6 f7 hrc _ h1703) (ob (zx (id := 0) (r' := (.ret, zHh p0 p1 r0 r1 r2 v1702 rc f1 f2 f3 f4 f5 f6 f7 v1707)) (zkd (zMk k p0 p1 r0 r1 r2 v1702 rc f1 f2 f3 f4 f5 f6 f7 hrc) k _ _ h1705) rfl) ob0))))) (by kernel_rfl))
  ·subst hh
   exact zQ (g := (fun r => (zt r, ⟨f7, [[(2, (.cells ((za p0).map .d))), (3, (.cells [(xi p1)])), (6, (.cells ((za p0).map .d))), (8, (.cells [(xi (w64 ((zo 1 (p0.Slips.1.length : Int)) - 1)))])), (9, (.cells [(.fn 77 [] [(.ptr 0 6 0), (.ptr 0 8 0), (.ptr 0 3 0), (.ptr 0 9 0)])]))], f1, f2, f3, f4, f5, f6]⟩, []))) g4_0 (zH (n := 80) (V := [(77, 1, 1, .q (xi (r0.1.length : Int))), (77, 1, 3, .q (xb false)), (77, 5, 1, .q (xi (r0.1.length : Int)))]) (C := [(77, 2000036, (.nor, zue p0 p1 r0 r1 r2 (decide ((r0.1.length : Int) > 0)) rc f1 f2 f3 f4 f5 f6 f7 v1702)), (77, 0, (.nor, zIh p0 p1 r0 r1 r2 v1702 rc f1 f2 f3 f4 f5 f6 f7 v1707))]) (ob (zr eI r0.1) (ob (o_b h1701) (ob (zr eI r0.1) (ob (zcl k p0 p1 r0 r1 r2 (decide ((r0.1.length : Int) > 0)) rc f1 f2 f3 f4 f5 f6 f7 hrc _ h1703) (ob (zx (id := 0) (r' := (.nor, zIh p0 p1 r0 r1 r2 v1702 rc f1 f2 f3 f4 f5 f6 f7 v1707)) (zkd (zMk k p0 p1 r0 r1 r2 v1702 rc f1 f2 f3 f4 f5 f6 f7 hrc) k _ _ h1705) rfl) ob0))))) (by kernel_rfl))
noncomputable def zBe (p0 : zd) (p1 : Int) (r0 : (SL Int)) (r1 r2 : Int) (cb : Bool) (rc : zt0) (f1 f2 f3 f4 f5 f6 f7 f8 : Fr) (r : zt1) : St := ⟨(z1i r0 r1 r2 r), ⟨[], [[(zc 2 (za p0)), (3, (.cells [(xi p1)])), (zc 6 (za p0)), (8, (.cells [(xi (w64 ((zo 1 (p0.Slips.1.length : Int)) - 1)))])), (9, (.cells [(.fn 77 [] [(.ptr 0 6 0), (.ptr 0 8 0), (.ptr 0 3 0), (.ptr 0 9 0)])]))], f1, f2, f3, f4, f5, f6, f7, f8]⟩, []⟩
theorem z9k (k : Nat) (p0 : zd) (p1 : Int) (r0 : (SL Int)) (r1 r2 : Int) (cb : Bool) (rc : zt0) (f1 f2 f3 f4 f5 f6 f7 f8 : Fr) (hrc : ∀ (f : Fr) (r0 : (SL Int)) (r1 : Int) (r2 : Int) (r : ((SL Int) × Bool)), rc r0 r1 r2 = some r → zK TE (ev TE) 77 [(.d (dl eI r0.1 r0.2)), (xi r1), (xi r2), (.ptr 0 6 0), (.ptr 0 8 0), (.ptr 0 3 0), (.ptr 0 9 0)] ⟨f, [[(2, (.cells ((za p0).map .d))), (3, (.cells [(xi p1)])), (6, (.cells ((za p0).map .d))), (8, (.cells [(xi (w64 ((zo 1 (p0.Slips.1.length : Int)) - 1)))])), (9, (.cells [(.fn 77 [] [(.ptr 0 6 0), (.ptr 0 8 0), (.ptr 0 3 0), (.ptr 0 9 0)])]))], f1, f2, f3, f4, f5, f6, f7, f8]⟩ [] = some (zt r, ⟨f, [[(2, (.cells ((za p0).map .d))), (3, (.cells [(xi p1)])), (6, (.cells ((za p0).map .d))), (8, (.cells [(xi (w64 ((zo 1 (p0.Slips.1.length : Int)) - 1)))])), (9, (.cells [(.fn 77 [] [(.ptr 0 6 0), (.ptr 0 8 0), (.ptr 0 3 0), (.ptr 0 9 0)])]))], f1, f2, f3, f4, f5, f6, f7, f8]⟩, [])) (r : zt1) (h : zLj k p0 p1 r0 r1 r2 cb rc = some r) : ev TE 77 (cnd TE 77 36) ⟨(z4i r0 r1 r2 cb), ⟨[], [[(zc 2 (za p0)), (3, (.cells [(xi p1)])), (zc 6 (za p0)), (8, (.cells [(xi (w64 ((zo 1 (p0.Slips.1.length : Int)) - 1)))])), (9, (.cells [(.fn 77 [] [(.ptr 0 6 0), (.ptr 0 8 0), (.ptr 0 3 0), (.ptr 0 9 0)])]))], f1, f2, f3, f4, f5, f6, f7, f8]⟩, []⟩ = some (.nor, zBe p0 p1 r0 r1 r2 cb rc f1 f2 f3 f4 f5 f6 f7 f8 r) := by
 unfold zLj at h
 refine zn h (fun h2001 g1 => ?_) (fun h2001 g1 => ?_)
 ·subst h2001
  refine zk g1 (fun v2002 h2003 g2 => ?_)
  exact zB (g := fun r => (Ex.nor, zBe p0 p1 r0 r1 r2 true rc f1 f2 f3 f4 f5 f6 f7 f8 r)) g2 (zqe [(77, 6, 2, .q (xi (r0.1.length : Int))), (77, 6, 4, .q (.d (.pin [(di v2002)])))] [] (ob (zr eI r0.1) (ob (o_ia (e := eI) 1 h2003 rfl) ob0)) (by kernel_rfl))
 ·subst h2001
  exact zB (g := fun r => (Ex.nor, zBe p0 p1 r0 r1 r2 false rc f1 f2 f3 f4 f5 f6 f7 f8 r)) g1 (zqe [] [] ob0 (by kernel_rfl))
noncomputable def z5y (r0 : (SL Int)) (r1 r2 : Int) (v1902 : zt1) (s20_8 : Int) : TM := [(0, (.d (dl eI r0.1 r0.2))), (1, (xi r1)), (2, (xi r2)), (3, (.ptr 0 6 0)), (4, (.ptr 0 8 0)), (5, (.ptr 0 3 0)), (6, (.ptr 0 9 0)), (10, (.d (.sl [] .nil))), (11, (xb false)), (21, (xb false)), (14, (xi v1902.1)), (36, (xb v1902.2)), (15, (xi s20_8))]
noncomputable def zSp (p0 : zd) (p1 : Int) (r0 : (SL Int)) (r1 r2 : Int) (v1902 : zt1) (rc : zt0) (f1 f2 f3 f4 f5 f6 f7 f8 : Fr) (s20_8 : Int) : St := ⟨(z5y r0 r1 r2 v1902 s20_8), ⟨[], [[(zc 2 (za p0)), (3, (.cells [(xi p1)])), (zc 6 (za p0)), (8, (.cells [(xi (w64 ((zo 1 (p0.Slips.1.length : Int)) - 1)))])), (9, (.cells [(.fn 77 [] [(.ptr 0 6 0), (.ptr 0 8 0), (.ptr 0 3 0), (.ptr 0 9 0)])]))], f1, f2, f3, f4, f5, f6, f7, f8]⟩, []⟩
noncomputable def ziy (r0 : (SL Int)) (r1 r2 : Int) (r : zt17) (v1902 : zt1) : TM := [(0, (.d (dl eI r0.1 r0.2))), (1, (xi r1)), (2, (xi r2)), (3, (.ptr 0 6 0)), (4, (.ptr 0 8 0)), (5, (.ptr 0 3 0)), (6, (.ptr 0 9 0)), (10, (.d (dl eI r.1.1 r.1.2))), (11, (xb true)), (21, (xb false)), (14, (xi v1902.1)), (36, (xb v1902.2)), (15, (xi r.2.1)), (50, (xb true)), (16, (.d (dl eI r.1.1 r.1.2))), (17, (xb r.2.2)), (72, (xb true))]
noncomputable def zzh (p0 : zd) (p1 : Int) (r0 : (SL Int)) (r1 r2 : Int) (v1902 : zt1) (rc : zt0) (f1 f2 f3 f4 f5 f6 f7 f8 : Fr) (r : zt17) : St := ⟨(ziy r0 r1 r2 r v1902), ⟨[], [[(zc 2 (za p0)), (3, (.cells [(xi p1)])), (zc 6 (za p0)), (8, (.cells [(xi (w64 ((zo 1 (p0.Slips.1.length : Int)) - 1)))])), (9, (.cells [(.fn 77 [] [(.ptr 0 6 0), (.ptr 0 8 0), (.ptr 0 3 0), (.ptr 0 9 0)])]))], f1, f2, f3, f4, f5, f6, f7, f8]⟩, []⟩
noncomputable def z1x (r0 : (SL Int)) (r1 r2 : Int) (v1902 : zt1) (r : Int) : TM := [(0, (.d (dl eI r0.1 r0.2))), (1, (xi r1)), (2, (xi r2)), (3, (.ptr 0 6 0)), (4, (.ptr 0 8 0)), (5, (.ptr 0 3 0)), (6, (.ptr 0 9 0)), (10, (.d (.sl [] .nil))), (11, (xb false)), (21, (xb false)), (14, (xi v1902.1)), (36, (xb v1902.2)), (15, (xi r)), (50, (xb false))]
noncomputable def zBh (p0 : zd) (p1 : Int) (r0 : (SL Int)) (r1 r2 : Int) (v1902 : zt1) (rc : zt0) (f1 f2 f3 f4 f5 f6 f7 f8 : Fr) (r : Int) : St := ⟨(z1x r0 r1 r2 v1902 r), ⟨[], [[(zc 2 (za p0)), (3, (.cells [(xi p1)])), (zc 6 (za p0)), (8, (.cells [(xi (w64 ((zo 1 (p0.Slips.1.length : Int)) - 1)))])), (9, (.cells [(.fn 77 [] [(.ptr 0 6 0), (.ptr 0 8 0), (.ptr 0 3 0), (.ptr 0 9 0)])]))], f1, f2, f3, f4, f5, f6, f7, f8]⟩, []⟩
noncomputable def zrq (p0 : zd) (p1 : Int) (r0 : (SL Int)) (r1 r2 : Int) (v1902 : zt1) (rc : zt0) (f1 f2 f3 f4 f5 f6 f7 f8 : Fr) : (((SL Int) × Int × Bool) ⊕ Int) → Ex × St := Sum.elim (fun r => (.ret, zzh p0 p1 r0 r1 r2 v1902 rc f1 f2 f3 f4 f5 f6 f7 f8 r)) (fun r => ((.exit 0), zBh p0 p1 r0 r1 r2 v1902 rc f1 f2 f3 f4 f5 f6 f7 f8 r))
theorem zJk (k : Nat) (p0 : zd) (p1 : Int) (r0 : (SL Int)) (r1 r2 : Int) (v1902 : zt1) (rc : zt0) (f1 f2 f3 f4 f5 f6 f7 f8 : Fr) (hrc : ∀ (f : Fr) (r0 : (SL Int)) (r1 : Int) (r2 : Int) (r : ((SL Int) × Bool)), rc r0 r1 r2 = some r → zK TE (ev TE) 77 [(.d (dl eI r0.1 r0.2)), (xi r1), (xi r2), (.ptr 0 6 0), (.ptr 0 8 0), (.ptr 0 3 0), (.ptr 0 9 0)] ⟨f, [[(2, (.cells ((za p0).map .d))), (3, (.cells [(xi p1)])), (6, (.cells ((za p0).map .d))), (8, (.cells [(xi (w64 ((zo 1 (p0.Slips.1.length : Int)) - 1)))])), (9, (.cells [(.fn 77 [] [(.ptr 0 6 0), (.ptr 0 8 0), (.ptr 0 3 0), (.ptr 0 9 0)])]))], f1, f2, f3, f4, f5, f6, f7, f8]⟩ [] = some (zt r, ⟨f, [[(2, (.cells ((za p0).map .d))), (3, (.cells [(xi p1)])), (6, (.cells ((za p0).map .d))), (8, (.cells [(xi (w64 ((zo 1 (p0.Slips.1.length : Int)) - 1)))])), (9, (.cells [(.fn 77 [] [(.ptr 0 6 0), (.ptr 0 8 0), (.ptr 0 3 0), (.ptr 0 9 0)])]))], f1, f2, f3, f4, f5, f6, f7, f8]⟩, [])) (s20_8 : Int) (x : Int ⊕ (((SL Int) × Int × Bool) ⊕ Int)) (h : zNj k p0 p1 r0 r1 r2 v1902 rc s20_8 = some x) : zE TE 77 (blk TE 77 0) (fun s : Int => zSp p0 p1 r0 r1 r2 v1902 rc f1 f2 f3 f4 f5 f6 f7 f8 s) (zrq p0 p1 r0 r1 r2 v1902 rc f1 f2 f3 f4 f5 f6 f7 f8) s20_8 x := by
 unfold zNj at h
 refine zn h (fun h2101 g1 => ?_) (fun h2101 g1 => ?_)
 ·refine zn g1 (fun h2102 g2 => ?_) (fun h2102 g2 => ?_)
  ·cases g2
  ·refine zZ g2 (fun h2103 g3 => ?_)
   refine zn g3 (fun h2104 g4 => ?_) (fun h2104 g4 => ?_)
   ·cases g4
   ·refine zk g4 (fun v2105 h2106 g5 => ?_)
    refine zn g5 (fun h2107 g6 => ?_) (fun h2107 g6 => ?_)
    ·exact zqo [(77, 8, 4, .q (xi (p0.Slips.1.length : Int))), (77, 8, 5, .q (xb true)), (77, 10, 3, .q (xi (r0.1.length : Int))), (77, 10, 5, .q (xi (r0.1.length : Int))), (77, 10, 6, .q (.d (dl eI r0.1 (ccap r0.2)))), (77, 10, 9, .q (.d (dl eI (r0.1 ++ [s20_8]) .ro))), (77, 10, 12, .q (xi (zo 1 s20_8))), (77, 10, 15, .i (.tup [(dl eI v2105.1.1 v2105.1.2), (db v2105.2)]) ⟨[], [[(2, (.cells ((za p0).map .d))), (3, (.cells [(xi p1)])), (6, (.cells ((za p0).map .d))), (8, (.cells [(xi (w64 ((zo 1 (p0.Slips.1.length : Int)) - 1)))])), (9, (.cells [(.fn 77 [] [(.ptr 0 6 0), (.ptr 0 8 0), (.ptr 0 3 0), (.ptr 0 9 0)])]))], f1, f2, f3, f4, f5, f6, f7, f8]⟩ []), (77, 11, 0, .q (xb true))] [] g6 (ob (zr zm p0.Slips.1) (ob (o_b h2101) (ob (zr eI r0.1) (ob (zr eI r0.1) (ob (z1c (e := eI) (z := 1) r0.1 r0.2) (ob (o_ad (P := TE.P) (φ := fun _ _ => none) (T := 22) (q := (1, [(di 0)])) (c := (ccap r0.2)) (e := eI) r0.1 s20_8 (by kernel_rfl) (fun _ => rfl) h2102 h2103) (ob (zfc (x := 1) h2104) (ob (hrc ([] : Fr) ((r0.1 ++ [s20_8]), .ro) (or64 r1 (zo 1 s20_8)) r2 _ h2106) (ob (o_b h2107) ob0))))))))) (by kernel_rfl)
    ·exact zqn (w64 (s20_8 + 1)) [] [(77, 8, 4, .q (xi (p0.Slips.1.length : Int))), (77, 8, 5, .q (xb true)), (77, 10, 3, .q (xi (r0.1.length : Int))), (77, 10, 5, .q (xi (r0.1.length : Int))), (77, 10, 6, .q (.d (dl eI r0.1 (ccap r0.2)))), (77, 10, 9, .q (.d (dl eI (r0.1 ++ [s20_8]) .ro))), (77, 10, 12, .q (xi (zo 1 s20_8))), (77, 10, 15, .i (.tup [(dl eI v2105.1.1 v2105.1.2), (db v2105.2)]) ⟨[], [[(2, (.cells ((za p0).map .d))), (3, (.cells [(xi p1)])), (6, (.cells ((za p0).map .d))), (8, (.cells [(xi (w64 ((zo 1 (p0.Slips.1.length : Int)) - 1)))])), (9, (.cells [(.fn 77 [] [(.ptr 0 6 0), (.ptr 0 8 0), (.ptr 0 3 0), (.ptr 0 9 0)])]))], f1, f2, f3, f4, f5, f6, f7, f8]⟩ []), (77, 11, 0, .q (xb false))] [] g6 (ob (zr zm p0.Slips.1) (ob (o_b h2101) (ob (zr eI r0.1) (ob (zr eI r0.1) (ob (z1c (e := eI) (z := 1) r0.1 r0.2) (ob (o_ad (P := TE.P) (φ := fun _ _ => none) (T := 22) (q := (1, [(di 0)])) (c := (ccap r0.2)) (e := eI) r0.1 s20_8 (by kernel_rfl) (fun _ => rfl) h2102 h2103) (ob (zfc (x := 1) h2104) (ob (hrc ([] : Fr) ((r0.1 ++ [s20_8]), .ro) (or64 r1 (zo 1 s20_8)) r2 _ h2106) (ob (o_b h2107) ob0))))))))) (by kernel_rfl)
 ·exact zqo [(77, 8, 4, .q (xi (p0.Slips.1.length : Int))), (77, 8, 5, .q (xb false))] [] g1 (ob (zr zm p0.Slips.1) (ob (o_b h2101) ob0)) (by kernel_rfl)
theorem zxp (k : Nat) (p0 : zd) (p1 : Int) (rc : zt0) (f1 f2 f3 f4 f5 f6 f7 f8 : Fr) (hrc : ∀ (f : Fr) (r0 : (SL Int)) (r1 : Int) (r2 : Int) (r : ((SL Int) × Bool)), rc r0 r1 r2 = some r → zK TE (ev TE) 77 [(.d (dl eI r0.1 r0.2)), (xi r1), (xi r2), (.ptr 0 6 0), (.ptr 0 8 0), (.ptr 0 3 0), (.ptr 0 9 0)] ⟨f, [[(2, (.cells ((za p0).map .d))), (3, (.cells [(xi p1)])), (6, (.cells ((za p0).map .d))), (8, (.cells [(xi (w64 ((zo 1 (p0.Slips.1.length : Int)) - 1)))])), (9, (.cells [(.fn 77 [] [(.ptr 0 6 0), (.ptr 0 8 0), (.ptr 0 3 0), (.ptr 0 9 0)])]))], f1, f2, f3, f4, f5, f6, f7, f8]⟩ [] = some (zt r, ⟨f, [[(2, (.cells ((za p0).map .d))), (3, (.cells [(xi p1)])), (6, (.cells ((za p0).map .d))), (8, (.cells [(xi (w64 ((zo 1 (p0.Slips.1.length : Int)) - 1)))])), (9, (.cells [(.fn 77 [] [(.ptr 0 6 0), (.ptr 0 8 0), (.ptr 0 3 0), (.ptr 0 9 0)])]))], f1, f2, f3, f4, f5, f6, f7, f8]⟩, [])) (r0 : (SL Int)) (r1 r2 : Int) (r : zt13) (h : zzi k p0 p1 rc r0 r1 r2 = some r) : zK TE (ev TE) 77 [(.d (dl eI r0.1 r0.2)), (xi r1), (xi r2), (.ptr 0 6 0), (.ptr 0 8 0), (.ptr 0 3 0), (.ptr 0 9 0)] ⟨f8, [[(zc 2 (za p0)), (3, (.cells [(xi p1)])), (zc 6 (za p0)), (8, (.cells [(xi (w64 ((zo 1 (p0.Slips.1.length : Int)) - 1)))])), (9, (.cells [(.fn 77 [] [(.ptr 0 6 0), (.ptr 0 8 0), (.ptr 0 3 0), (.ptr 0 9 0)])]))], f1, f2, f3, f4, f5, f6, f7]⟩ [] = some (zt r, ⟨f8, [[(zc 2 (za p0)), (3, (.cells [(xi p1)])), (zc 6 (za p0)), (8, (.cells [(xi (w64 ((zo 1 (p0.Slips.1.length : Int)) - 1)))])), (9, (.cells [(.fn 77 [] [(.ptr 0 6 0), (.ptr 0 8 0), (.ptr 0 3 0), (.ptr 0 9 0)])]))], f1, f2, f3, f4, f5, f6, f7]⟩, []) := by
 unfold zzi at h
 refine zn h (fun h1901 g1 => ?_) (fun h1901 g1 => ?_)
 ·refine zk g1 (fun v1902 h1903 g2 => ?_)
  exact zQ (g := (fun r => (zt r, ⟨f8, [[(2, (.cells ((za p0).map .d))), (3, (.cells [(xi p1)])), (6, (.cells ((za p0).map .d))), (8, (.cells [(xi (w64 ((zo 1 (p0.Slips.1.length : Int)) - 1)))])), (9, (.cells [(.fn 77 [] [(.ptr 0 6 0), (.ptr 0 8 0), (.ptr 0 3 0), (.ptr 0 9 0)])]))], f1, f2, f3, f4, f5, f6, f7]⟩, []))) g2 (zH (n := 80) (V := [(77, 1, 1, .q (xi (r0.1.length : Int))), (77, 1, 3, .q (xb true)), (77, 2, 6, .c (.tup [(dl (eL eI) v1902.1.1 v1902.1.2), (db v1902.2)]))]) (C := []) (ob (zr eI r0.1) (ob (o_b h1901) (ob (zT k (⟨p0⟩ : zj) (⟨(zqb (w64 ((zo 1 (p0.Slips.1.length : Int)) - 1)) r1), p1⟩ : zq) _ h1903) ob0))) (by kernel_rfl))
 ·refine zk g1 (fun v1902 h1903 g2 => ?_)
  refine zk g2 (fun v1904 h1905 g3 => ?_)
  refine zXb g3 (fun v1907 hh g4_0 => ?_) (fun v1907 hh g4_0 => ?_)
  ·subst hh
   exact zQ (g := (fun r => (zt r, ⟨f8, [[(2, (.cells ((za p0).map .d))), (3, (.cells [(xi p1)])), (6, (.cells ((za p0).map .d))), (8, (.cells [(xi (w64 ((zo 1 (p0.Slips.1.length : Int)) - 1)))])), (9, (.cells [(.fn 77 [] [(.ptr 0 6 0), (.ptr 0 8 0), (.ptr 0 3 0), (.ptr 0 9 0)])]))], f1, f2, f3, f4, f5, f6, f7]⟩, []))) g4_0 (zH (n := 80) (V := [(77, 1, 1, .q (xi (r0.1.length : Int))), (77, 1, 3, .q (xb false)), (77, 5, 1, .q (xi (r0.1.length : Int)))]) (C := [(77, 2000036, (.nor, zBe p0 p1 r0 r1 r2 (decide ((r0.1.length : Int) > 0)) rc f1 f2 f3 f4 f5 f6 f7 f8 v1902)), (77, 0, (.ret, zzh p0 p1 r0 r1 r2 v1902 rc f1 f2 f3 f4 f5 f6 f7 f8 v1907))]) (ob (zr eI r0.1) (ob (o_b h1901) (ob (zr eI r0.1) (ob (z9k k p0 p1 r0 r1 r2 (decide ((r0.1.length : Int) > 0)) rc f1 f2 f3 f4 f5 f6 f7 f8 hrc _ h1903) (ob (zx (id := 0) (r' := (.ret, zzh p0 p1 r0 r1 r2 v1902 rc f1 f2 f3 f4 f5 f6 f7 f8 v1907)) (zkd (zJk k p0 p1 r0 r1 r2 v1902 rc f1 f2 f3 f4 f5 f6 f7 f8 hrc) k _ _ h1905) rfl) ob0))))) (by kernel_rfl))
  ·subst hh
   exact zQ (g := (fun r => (zt r, ⟨f8, [[(2, (.cells ((za p0).map .d))), (3, (.cells [(xi p1)])), (6, (.cells ((za p0).map .d))), (8, (.cells [(xi (w64 ((zo 1 (p0.Slips.1.length : Int)) - 1)))])), (9, (.cells [(.fn 77 [] [(.ptr 0 6 0), (.ptr 0 8 0), (.ptr 0 3 0), (.ptr 0 9 0)])]))], f1, f2, f3, f4, f5, f6, f7]⟩, []))) g4_0 (zH (n := 80) (V := [(77, 1, 1, .q (xi (r0.1.length : Int))), (77, 1, 3, .q (xb false)), (77, 5, 1, .q (xi (r0.1.length : Int)))]) (C := [(77, 2000036, (.nor, zBe p0 p1 r0 r1 r2 (decide ((r0.1.length : Int) > 0)) rc f1 f2 f3 f4 f5 f6 f7 f8 v1902)), (77, 0, (.nor, zBh p0 p1 r0 r1 r2 v1902 rc f1 f2 f3 f4 f5 f6 f7 f8 v1907))]) (ob (zr eI r0.1) (ob (o_b h1901) (ob (zr eI r0.1) (ob (z9k k p0 p1 r0 r1 r2 (decide ((r0.1.length : Int) > 0)) rc f1 f2 f3 f4 f5 f6 f7 f8 hrc _ h1903) (ob (zx (id := 0) (r' := (.nor, zBh p0 p1 r0 r1 r2 v1902 rc f1 f2 f3 f4 f5 f6 f7 f8 v1907)) (zkd (zJk k p0 p1 r0 r1 r2 v1902 rc f1 f2 f3 f4 f5 f6 f7 f8 hrc) k _ _ h1905) rfl) ob0))))) (by kernel_rfl))
noncomputable def zse (p0 : zd) (p1 : Int) (r0 : (SL Int)) (r1 r2 : Int) (cb : Bool) (rc : zt0) (f1 f2 f3 f4 f5 f6 f7 f8 f9 : Fr) (r : zt1) : St := ⟨(z1i r0 r1 r2 r), ⟨[], [[(zc 2 (za p0)), (3, (.cells [(xi p1)])), (zc 6 (za p0)), (8, (.cells [(xi (w64 ((zo 1 (p0.Slips.1.length : Int)) - 1)))])), (9, (.cells [(.fn 77 [] [(.ptr 0 6 0), (.ptr 0 8 0), (.ptr 0 3 0), (.ptr 0 9 0)])]))], f1, f2, f3, f4, f5, f6, f7, f8, f9]⟩, []⟩
theorem zil (k : Nat) (p0 : zd) (p1 : Int) (r0 : (SL Int)) (r1 r2 : Int) (cb : Bool) (rc : zt0) (f1 f2 f3 f4 f5 f6 f7 f8 f9 : Fr) (hrc : ∀ (f : Fr) (r0 : (SL Int)) (r1 : Int) (r2 : Int) (r : ((SL Int) × Bool)), rc r0 r1 r2 = some r → zK TE (ev TE) 77 [(.d (dl eI r0.1 r0.2)), (xi r1), (xi r2), (.ptr 0 6 0), (.ptr 0 8 0), (.ptr 0 3 0), (.ptr 0 9 0)] ⟨f, [[(2, (.cells ((za p0).map .d))), (3, (.cells [(xi p1)])), (6, (.cells ((za p0).map .d))), (8, (.cells [(xi (w64 ((zo 1 (p0.Slips.1.length : Int)) - 1)))])), (9, (.cells [(.fn 77 [] [(.ptr 0 6 0), (.ptr 0 8 0), (.ptr 0 3 0), (.ptr 0 9 0)])]))], f1, f2, f3, f4, f5, f6, f7, f8, f9]⟩ [] = some (zt r, ⟨f, [[(2, (.cells ((za p0).map .d))), (3, (.cells [(xi p1)])), (6, (.cells ((za p0).map .d))), (8, (.cells [(xi (w64 ((zo 1 (p0.Slips.1.length : Int)) - 1)))])), (9, (.cells [(.fn 77 [] [(.ptr 0 6 0), (.ptr 0 8 0), (.ptr 0 3 0), (.ptr 0 9 0)])]))], f1, f2, f3, f4, f5, f6, f7, f8, f9]⟩, [])) (r : zt1) (h : ztj k p0 p1 r0 r1 r2 cb rc = some r) : ev TE 77 (cnd TE 77 36) ⟨(z4i r0 r1 r2 cb), ⟨[], [[(zc 2 (za p0)), (3, (.cells [(xi p1)])), (zc 6 (za p0)), (8, (.cells [(xi (w64 ((zo 1 (p0.Slips.1.length : Int)) - 1)))])), (9, (.cells [(.fn 77 [] [(.ptr 0 6 0), (.ptr 0 8 0), (.ptr 0 3 0), (.ptr 0 9 0)])]))], f1, f2, f3, f4, f5, f6, f7, f8, f9]⟩, []⟩ = some (.nor, zse p0 p1 r0 r1 r2 cb rc f1 f2 f3 f4 f5 f6 f7 f8 f9 r) := by
 unfold ztj at h
 refine zn h (fun h2201 g1 => ?_) (fun h2201 g1 => ?_)
 ·subst h2201
  refine zk g1 (fun v2202 h2203 g2 => ?_)
  exact zB (g := fun r => (Ex.nor, zse p0 p1 r0 r1 r2 true rc f1 f2 f3 f4 f5 f6 f7 f8 f9 r)) g2 (zqe [(77, 6, 2, .q (xi (r0.1.length : Int))), (77, 6, 4, .q (.d (.pin [(di v2202)])))] [] (ob (zr eI r0.1) (ob (o_ia (e := eI) 1 h2203 rfl) ob0)) (by kernel_rfl))
 ·subst h2201
  exact zB (g := fun r => (Ex.nor, zse p0 p1 r0 r1 r2 false rc f1 f2 f3 f4 f5 f6 f7 f8 f9 r)) g1 (zqe [] [] ob0 (by kernel_rfl))
noncomputable def zsy (r0 : (SL Int)) (r1 r2 : Int) (v2102 : zt1) (s22_8 : Int) : TM := [(0, (.d (dl eI r0.1 r0.2))), (1, (xi r1)), (2, (xi r2)), (3, (.ptr 0 6 0)), (4, (.ptr 0 8 0)), (5, (.ptr 0 3 0)), (6, (.ptr 0 9 0)), (10, (.d (.sl [] .nil))), (11, (xb false)), (21, (xb false)), (14, (xi v2102.1)), (36, (xb v2102.2)), (15, (xi s22_8))]
noncomputable def zMq (p0 : zd) (p1 : Int) (r0 : (SL Int)) (r1 r2 : Int) (v2102 : zt1) (rc : zt0) (f1 f2 f3 f4 f5 f6 f7 f8 f9 : Fr) (s22_8 : Int) : St := ⟨(zsy r0 r1 r2 v2102 s22_8), ⟨[], [[(zc 2 (za p0)), (3, (.cells [(xi p1)])), (zc 6 (za p0)), (8, (.cells [(xi (w64 ((zo 1 (p0.Slips.1.length : Int)) - 1)))])), (9, (.cells [(.fn 77 [] [(.ptr 0 6 0), (.ptr 0 8 0), (.ptr 0 3 0), (.ptr 0 9 0)])]))], f1, f2, f3, f4, f5, f6, f7, f8, f9]⟩, []⟩
noncomputable def zdz (r0 : (SL Int)) (r1 r2 : Int) (r : zt17) (v2102 : zt1) : TM := [(0, (.d (dl eI r0.1 r0.2))), (1, (xi r1)), (2, (xi r2)), (3, (.ptr 0 6 0)), (4, (.ptr 0 8 0)), (5, (.ptr 0 3 0)), (6, (.ptr 0 9 0)), (10, (.d (dl eI r.1.1 r.1.2))), (11, (xb true)), (21, (xb false)), (14, (xi v2102.1)), (36, (xb v2102.2)), (15, (xi r.2.1)), (50, (xb true)), (16, (.d (dl eI r.1.1 r.1.2))), (17, (xb r.2.2)), (72, (xb true))]
noncomputable def zsh (p0 : zd) (p1 : Int) (r0 : (SL Int)) (r1 r2 : Int) (v2102 : zt1) (rc : zt0) (f1 f2 f3 f4 f5 f6 f7 f8 f9 : Fr) (r : zt17) : St := ⟨(zdz r0 r1 r2 r v2102), ⟨[], [[(zc 2 (za p0)), (3, (.cells [(xi p1)])), (zc 6 (za p0)), (8, (.cells [(xi (w64 ((zo 1 (p0.Slips.1.length : Int)) - 1)))])), (9, (.cells [(.fn 77 [] [(.ptr 0 6 0), (.ptr 0 8 0), (.ptr 0 3 0), (.ptr 0 9 0)])]))], f1, f2, f3, f4, f5, f6, f7, f8, f9]⟩, []⟩
noncomputable def zez (r0 : (SL Int)) (r1 r2 : Int) (v2102 : zt1) (r : Int) : TM := [(0, (.d (dl eI r0.1 r0.2))), (1, (xi r1)), (2, (xi r2)), (3, (.ptr 0 6 0)), (4, (.ptr 0 8 0)), (5, (.ptr 0 3 0)), (6, (.ptr 0 9 0)), (10, (.d (.sl [] .nil))), (11, (xb false)), (21, (xb false)), (14, (xi v2102.1)), (36, (xb v2102.2)), (15, (xi r)), (50, (xb false))]
noncomputable def zwh (p0 : zd) (p1 : Int) (r0 : (SL Int)) (r1 r2 : Int) (v2102 : zt1) (rc : zt0) (f1 f2 f3 f4 f5 f6 f7 f8 f9 : Fr) (r : Int) : St := ⟨(zez r0 r1 r2 v2102 r), ⟨[], [[(zc 2 (za p0)), (3, (.cells [(xi p1)])), (zc 6 (za p0)), (8, (.cells [(xi (w64 ((zo 1 (p0.Slips.1.length : Int)) - 1)))])), (9, (.cells [(.fn 77 [] [(.ptr 0 6 0), (.ptr 0 8 0), (.ptr 0 3 0), (.ptr 0 9 0)])]))], f1, f2, f3, f4, f5, f6, f7, f8, f9]⟩, []⟩
noncomputable def zUp (p0 : zd) (p1 : Int) (r0 : (SL Int)) (r1 r2 : Int) (v2102 : zt1) (rc : zt0) (f1 f2 f3 f4 f5 f6 f7 f8 f9 : Fr) : (((SL Int) × Int × Bool) ⊕ Int) → Ex × St := Sum.elim (fun r => (.ret, zsh p0 p1 r0 r1 r2 v2102 rc f1 f2 f3 f4 f5 f6 f7 f8 f9 r)) (fun r => ((.exit 0), zwh p0 p1 r0 r1 r2 v2102 rc f1 f2 f3 f4 f5 f6 f7 f8 f9 r))
theorem zCk (k : Nat) (p0 : zd) (p1 : Int) (r0 : (SL Int)) (r1 r2 : Int) (v2102 : zt1) (rc : zt0) (f1 f2 f3 f4 f5 f6 f7 f8 f9 : Fr) (hrc : ∀ (f : Fr) (r0 : (SL Int)) (r1 : Int) (r2 : Int) (r : ((SL Int) × Bool)), rc r0 r1 r2 = some r → zK TE (ev TE) 77 [(.d (dl eI r0.1 r0.2)), (xi r1), (xi r2), (.ptr 0 6 0), (.ptr 0 8 0), (.ptr 0 3 0), (.ptr 0 9 0)] ⟨f, [[(2, (.cells ((za p0).map .d))), (3, (.cells [(xi p1)])), (6, (.cells ((za p0).map .d))), (8, (.cells [(xi (w64 ((zo 1 (p0.Slips.1.length : Int)) - 1)))])), (9, (.cells [(.fn 77 [] [(.ptr 0 6 0), (.ptr 0 8 0), (.ptr 0 3 0), (.ptr 0 9 0)])]))], f1, f2, f3, f4, f5, f6, f7, f8, f9]⟩ [] = some (zt r, ⟨f, [[(2, (.cells ((za p0).map .d))), (3, (.cells [(xi p1)])), (6, (.cells ((za p0).map .d))), (8, (.cells [(xi (w64 ((zo 1 (p0.Slips.1.length : Int)) - 1)))])), (9, (.cells [(.fn 77 [] [(.ptr 0 6 0), (.ptr 0 8 0), (.ptr 0 3 0), (.ptr 0 9 0)])]))], f1, f2, f3, f4, f5, f6, f7, f8, f9]⟩, [])) (s22_8 : Int) (x : Int ⊕ (((SL Int) × Int × Bool) ⊕ Int)) (h : zDj k p0 p1 r0 r1 r2 v2102 rc s22_8 = some x) : zE TE 77 (blk TE 77 0) (fun s : Int => zMq p0 p1 r0 r1 r2 v2102 rc f1 f2 f3 f4 f5 f6 f7 f8 f9 s) (zUp p0 p1 r0 r1 r2 v2102 rc f1 f2 f3 f4 f5 f6 f7 f8 f9) s22_8 x := by
 unfold zDj at h
 refine zn h (fun h2301 g1 => ?_) (fun h2301 g1 => ?_)
 ·refine zn g1 (fun h2302 g2 => ?_) (fun h2302 g2 => ?_)
  ·cases g2
  ·refine zZ g2 (fun h2303 g3 => ?_)
   refine zn g3 (fun h2304 g4 => ?_) (fun h2304 g4 => ?_)
   ·cases g4
   ·refine zk g4 (fun v2305 h2306 g5 => ?_)
    refine zn g5 (fun h2307 g6 => ?_) (fun h2307 g6 => ?_)
    ·exact zqo [(77, 8, 4, .q (xi (p0.Slips.1.length : Int))), (77, 8, 5, .q (xb true)), (77, 10, 3, .q (xi (r0.1.length : Int))), (77, 10, 5, .q (xi (r0.1.length : Int))), (77, 10, 6, .q (.d (dl eI r0.1 (ccap r0.2)))), (77, 10, 9, .q (.d (dl eI (r0.1 ++ [s22_8]) .ro))), (77, 10, 12, .q (xi (zo 1 s22_8))), (77, 10, 15, .i (.tup [(dl eI v2305.1.1 v2305.1.2), (db v2305.2)]) ⟨[], [[(2, (.cells ((za p0).map .d))), (3, (.cells [(xi p1)])), (6, (.cells ((za p0).map .d))), (8, (.cells [(xi (w64 ((zo 1 (p0.Slips.1.length : Int)) - 1)))])), (9, (.cells [(.fn 77 [] [(.ptr 0 6 0), (.ptr 0 8 0), (.ptr 0 3 0), (.ptr 0 9 0)])]))], f1, f2, f3, f4, f5, f6, f7, f8, f9]⟩ []), (77, 11, 0, .q (xb true))] [] g6 (ob (zr zm p0.Slips.1) (ob (o_b h2301) (ob (zr eI r0.1) (ob (zr eI r0.1) (ob (z1c (e := eI) (z := 1) r0.1 r0.2) (ob (o_ad (P := TE.P) (φ := fun _ _ => none) (T := 22) (q := (1, [(di 0)])) (c := (ccap r0.2)) (e := eI) r0.1 s22_8 (by kernel_rfl) (fun _ => rfl) h2302 h2303) (ob (zfc (x := 1) h2304) (ob (hrc ([] : Fr) ((r0.1 ++ [s22_8]), .ro) (or64 r1 (zo 1 s22_8)) r2 _ h2306) (ob (o_b h2307) ob0))))))))) (by kernel_rfl)
    ·exact zqn (w64 (s22_8 + 1)) [] [(77, 8, 4, .q (xi (p0.Slips.1.length : Int))), (77, 8, 5, .q (xb true)), (77, 10, 3, .q (xi (r0.1.length : Int))), (77, 10, 5, .q (xi (r0.1.length : Int))), (77, 10, 6, .q (.d (dl eI r0.1 (ccap r0.2)))), (77, 10, 9, .q (.d (dl eI (r0.1 ++ [s22_8]) .ro))), (77, 10, 12, .q (xi (zo 1 s22_8))), (77, 10, 15, .i (.tup [(dl eI v2305.1.1 v2305.1.2), (db v2305.2)]) ⟨[], [[(2, (.cells ((za p0).map .d))), (3, (.cells [(xi p1)])), (6, (.cells ((za p0).map .d))), (8, (.cells [(xi (w64 ((zo 1 (p0.Slips.1.length : Int)) - 1)))])), (9, (.cells [(.fn 77 [] [(.ptr 0 6 0), (.ptr 0 8 0), (.ptr 0 3 0), (.ptr 0 9 0)])]))], f1, f2, f3, f4, f5, f6, f7, f8, f9]⟩ []), (77, 11, 0, .q (xb false))] [] g6 (ob (zr zm p0.Slips.1) (ob (o_b h2301) (ob (zr eI r0.1) (ob (zr eI r0.1) (ob (z1c (e := eI) (z := 1) r0.1 r0.2) (ob (o_ad (P := TE.P) (φ := fun _ _ => none) (T := 22) (q := (1, [(di 0)])) (c := (ccap r0.2)) (e := eI) r0.1 s22_8 (by kernel_rfl) (fun _ => rfl) h2302 h2303) (ob (zfc (x := 1) h2304) (ob (hrc ([] : Fr) ((r0.1 ++ [s22_8]), .ro) (or64 r1 (zo 1 s22_8)) r2 _ h2306) (ob (o_b h2307) ob0))))))))) (by kernel_rfl)
 ·exact zqo [(77, 8, 4, .q (xi (p0.Slips.1.length : Int))), (77, 8, 5, .q (xb false))] [] g1 (ob (zr zm p0.Slips.1) (ob (o_b h2301) ob0)) (by kernel_rfl)
theorem zAo (k : Nat) (p0 : zd) (p1 : Int) (rc : zt0) (f1 f2 f3 f4 f5 f6 f7 f8 f9 : Fr) (hrc : ∀ (f : Fr) (r0 : (SL Int)) (r1 : Int) (r2 : Int) (r : ((SL Int) × Bool)), rc r0 r1 r2 = some r → zK TE (ev TE) 77 [(.d (dl eI r0.1 r0.2)), (xi r1), (xi r2), (.ptr 0 6 0), (.ptr 0 8 0), (.ptr 0 3 0), (.ptr 0 9 0)] ⟨f, [[(2, (.cells ((za p0).map .d))), (3, (.cells [(xi p1)])), (6, (.cells ((za p0).map .d))), (8, (.cells [(xi (w64 ((zo 1 (p0.Slips.1.length : Int)) - 1)))])), (9, (.cells [(.fn 77 [] [(.ptr 0 6 0), (.ptr 0 8 0), (.ptr 0 3 0), (.ptr 0 9 0)])]))], f1, f2, f3, f4, f5, f6, f7, f8, f9]⟩ [] = some (zt r, ⟨f, [[(2, (.cells ((za p0).map .d))), (3, (.cells [(xi p1)])), (6, (.cells ((za p0).map .d))), (8, (.cells [(xi (w64 ((zo 1 (p0.Slips.1.length : Int)) - 1)))])), (9, (.cells [(.fn 77 [] [(.ptr 0 6 0), (.ptr 0 8 0), (.ptr 0 3 0), (.ptr 0 9 0)])]))], f1, f2, f3, f4, f5, f6, f7, f8, f9]⟩, [])) (r0 : (SL Int)) (r1 r2 : Int) (r : zt13) (h : zmh k p0 p1 rc r0 r1 r2 = some r) : zK TE (ev TE) 77 [(.d (dl eI r0.1 r0.2)), (xi r1), (xi r2), (.ptr 0 6 0), (.ptr 0 8 0), (.ptr 0 3 0), (.ptr 0 9 0)] ⟨f9, [[(zc 2 (za p0)), (3, (.cells [(xi p1)])), (zc 6 (za p0)), (8, (.cells [(xi (w64 ((zo 1 (p0.Slips.1.length : Int)) - 1)))])), (9, (.cells [(.fn 77 [] [(.ptr 0 6 0), (.ptr 0 8 0), (.ptr 0 3 0), (.ptr 0 9 0)])]))], f1, f2, f3, f4, f5, f6, f7, f8]⟩ [] = some (zt r, ⟨f9, [[(zc 2 (za p0)), (3, (.cells [(xi p1)])), (zc 6 (za p0)), (8, (.cells [(xi (w64 ((zo 1 (p0.Slips.1.length : Int)) - 1)))])), (9, (.cells [(.fn 77 [] [(.ptr 0 6 0), (.ptr 0 8 0), (.ptr 0 3 0), (.ptr 0 9 0)])]))], f1, f2, f3, f4, f5, f6, f7, f8]⟩, []) := by
 unfold zmh at h
 refine zn h (fun h2101 g1 => ?_) (fun h2101 g1 => ?_)
 ·refine zk g1 (fun v2102 h2103 g2 => ?_)
  exact zQ (g := (fun r => (zt r, ⟨f9, [[(2, (.cells ((za p0).map .d))), (3, (.cells [(xi p1)])), (6, (.cells ((za p0).map .d))), (8, (.cells [(xi (w64 ((zo 1 (p0.Slips.1.length : Int)) - 1)))])), (9, (.cells [(.fn 77 [] [(.ptr 0 6 0), (.ptr 0 8 0), (.ptr 0 3 0), (.ptr 0 9 0)])]))], f1, f2, f3, f4, f5, f6, f7, f8]⟩, []))) g2 (zH (n := 80) (V := [(77, 1, 1, .q (xi (r0.1.length : Int))), (77, 1, 3, .q (xb true)), (77, 2, 6, .c (.tup [(dl (eL eI) v2102.1.1 v2102.1.2), (db v2102.2)]))]) (C := []) (ob (zr eI r0.1) (ob (o_b h2101) (ob (zT k (⟨p0⟩ : zj) (⟨(zqb (w64 ((zo 1 (p0.Slips.1.length : Int)) - 1)) r1), p1⟩ : zq) _ h2103) ob0))) (by kernel_rfl))
 ·refine zk g1 (fun v2102 h2103 g2 => ?_)
  refine zk g2 (fun v2104 h2105 g3 => ?_)
  refine zXb g3 (fun v2107 hh g4_0 => ?_) (fun v2107 hh g4_0 => ?_)
  ·subst hh
   exact zQ (g := (fun r => (zt r, ⟨f9, [[(2, (.cells ((za p0).map .d))), (3, (.cells [(xi p1)])), (6, (.cells ((za p0).map .d))), (8, (.cells [(xi (w64 ((zo 1 (p0.Slips.1.length : Int)) - 1)))])), (9, (.cells [(.fn 77 [] [(.ptr 0 6 0), (.ptr 0 8 0), (.ptr 0 3 0), (.ptr 0 9 0)])]))], f1, f2, f3, f4, f5, f6, f7, f8]⟩, []))) g4_0 (zH (n := 80) (V := [(77, 1, 1, .q (xi (r0.1.length : Int))), (77, 1, 3, .q (xb false)), (77, 5, 1, .q (xi (r0.1.length : Int)))]) (C := [(77, 2000036, (.nor, zse p0 p1 r0 r1 r2 (decide ((r0.1.length : Int) > 0)) rc f1 f2 f3 f4 f5 f6 f7 f8 f9 v2102)), (77, 0, (.ret, zsh p0 p1 r0 r1 r2 v2102 rc f1 f2 f3 f4 f5 f6 f7 f8 f9 v2107))]) (ob (zr eI r0.1) (ob (o_b h2101) (ob (zr eI r0.1) (ob (zil k p0 p1 r0 r1 r2 (decide ((r0.1.length : Int) > 0)) rc f1 f2 f3 f4 f5 f6 f7 f8 f9 hrc _ h2103) (ob (zx (id := 0) (r' := (.ret, zsh p0 p1 r0 r1 r2 v2102 rc f1 f2 f3 f4 f5 f6 f7 f8 f9 v2107)) (zkd (zCk k p0 p1 r0 r1 r2 v2102 rc f1 f2 f3 f4 f5 f6 f7 f8 f9 hrc) k _ _ h2105) rfl) ob0))))) (by kernel_rfl))
  ·subst hh
   exact zQ (g := (fun r => (zt r, ⟨f9, [[(2, (.cells ((za p0).map .d))), (3, (.cells [(xi p1)])), (6, (.cells ((za p0).map .d))), (8, (.cells [(xi (w64 ((zo 1 (p0.Slips.1.length : Int)) - 1)))])), (9, (.cells [(.fn 77 [] [(.ptr 0 6 0), (.ptr 0 8 0), (.ptr 0 3 0), (.ptr 0 9 0)])]))], f1, f2, f3, f4, f5, f6, f7, f8]⟩, []))) g4_0 (zH (n := 80) (V := [(77, 1, 1, .q (xi (r0.1.length : Int))), (77, 1, 3, .q (xb false)), (77, 5, 1, .q (xi (r0.1.length : Int)))]) (C := [(77, 2000036, (.nor, zse p0 p1 r0 r1 r2 (decide ((r0.1.length : Int) > 0)) rc f1 f2 f3 f4 f5 f6 f7 f8 f9 v2102)), (77, 0, (.nor, zwh p0 p1 r0 r1 r2 v2102 rc f1 f2 f3 f4 f5 f6 f7 f8 f9 v2107))]) (ob (zr eI r0.1) (ob (o_b h2101) (ob (zr eI r0.1) (ob (zil k p0 p1 r0 r1 r2 (decide ((r0.1.length : Int) > 0)) rc f1 f2 f3 f4 f5 f6 f7 f8 f9 hrc _ h2103) (ob (zx (id := 0) (r' := (.nor, zwh p0 p1 r0 r1 r2 v2102 rc f1 f2 f3 f4 f5 f6 f7 f8 f9 v2107)) (zkd (zCk k p0 p1 r0 r1 r2 v2102 rc f1 f2 f3 f4 f5 f6 f7 f8 f9 hrc) k _ _ h2105) rfl) ob0))))) (by kernel_rfl))
theorem zBl (k : Nat) (p0 : zd) (p1 : Int) (r0 : (SL Int)) (r1 r2 : Int) (r : zt13) (h : ztk k p0 p1 10 r0 r1 r2 = some r) : zK TE (ev TE) 77 [(.d (dl eI r0.1 r0.2)), (xi r1), (xi r2), (.ptr 0 6 0), (.ptr 0 8 0), (.ptr 0 3 0), (.ptr 0 9 0)] ⟨[(zc 2 (za p0)), (3, (.cells [(xi p1)])), (zc 6 (za p0)), (8, (.cells [(xi (w64 ((zo 1 (p0.Slips.1.length : Int)) - 1)))])), (9, (.cells [(.fn 77 [] [(.ptr 0 6 0), (.ptr 0 8 0), (.ptr 0 3 0), (.ptr 0 9 0)])]))], []⟩ [] = some (zt r, ⟨[(zc 2 (za p0)), (3, (.cells [(xi p1)])), (zc 6 (za p0)), (8, (.cells [(xi (w64 ((zo 1 (p0.Slips.1.length : Int)) - 1)))])), (9, (.cells [(.fn 77 [] [(.ptr 0 6 0), (.ptr 0 8 0), (.ptr 0 3 0), (.ptr 0 9 0)])]))], []⟩, []) := by
 unfold ztk at h
 exact zyp k p0 p1 _ (fun f1 r0 r1 r2 r h => zQo k p0 p1 _ f1 (fun f2 r0 r1 r2 r h => zgp k p0 p1 _ f1 f2 (fun f3 r0 r1 r2 r h => zWo k p0 p1 _ f1 f2 f3 (fun f4 r0 r1 r2 r h => zqp k p0 p1 _ f1 f2 f3 f4 (fun f5 r0 r1 r2 r h => z1o k p0 p1 _ f1 f2 f3 f4 f5 (fun f6 r0 r1 r2 r h => z6o k p0 p1 _ f1 f2 f3 f4 f5 f6 (fun f7 r0 r1 r2 r h => zXo k p0 p1 _ f1 f2 f3 f4 f5 f6 f7 (fun f8 r0 r1 r2 r h => zxp k p0 p1 _ f1 f2 f3 f4 f5 f6 f7 f8 (fun f9 r0 r1 r2 r h => zAo k p0 p1 _ f1 f2 f3 f4 f5 f6 f7 f8 f9 (fun f r0 r1 r2 r h => by cases h) r0 r1 r2 r h) r0 r1 r2 r h) r0 r1 r2 r h) r0 r1 r2 r h) r0 r1 r2 r h) r0 r1 r2 r h) r0 r1 r2 r h) r0 r1 r2 r h) r0 r1 r2 r h) r0 r1 r2 r h
noncomputable def zHy (p0 : zd) (p1 s1_12 : Int) : TM := [(0, (.d (.agg (za p0)))), (1, (xi p1)), (zsp 2), (zsp 3), (4, (.d (.sl [] .nil))), (5, (xi 0)), (zsp 6), (7, (xi 0)), (20, (xb false)), (zsp 8), (zsp 9), (33, (xi (w64 ((p0.Slips.1.length : Int) + 1)))), (34, (xi s1_12))]
noncomputable def z2q (p0 : zd) (p1 s1_12 : Int) : St := ⟨(zHy p0 p1 s1_12), ⟨[(zc 2 (za p0)), (3, (.cells [(xi p1)])), (zc 6 (za p0)), (8, (.cells [(xi (w64 ((zo 1 (p0.Slips.1.length : Int)) - 1)))])), (9, (.cells [(.fn 77 [] [(.ptr 0 6 0), (.ptr 0 8 0), (.ptr 0 3 0), (.ptr 0 9 0)])]))], []⟩, []⟩
noncomputable def z8y (p0 : zd) (p1 : Int) (r : ((SL Int) × Int × (SL Int) × Bool)) : TM := [(0, (.d (.agg (za p0)))), (1, (xi p1)), (zsp 2), (zsp 3), (4, (.d (dl eI r.1.1 r.1.2))), (5, (xi 0)), (zsp 6), (7, (xi 0)), (20, (xb false)), (zsp 8), (zsp 9), (33, (xi (w64 ((p0.Slips.1.length : Int) + 1)))), (34, (xi r.2.1)), (35, (xb true)), (10, (xi r.2.1)), (11, (.d (dl eI r.2.2.1.1 r.2.2.1.2))), (12, (xb r.2.2.2)), (43, (xb true))]
noncomputable def zgi (p0 : zd) (p1 : Int) (r : ((SL Int) × Int × (SL Int) × Bool)) : St := ⟨(z8y p0 p1 r), ⟨[(zc 2 (za p0)), (3, (.cells [(xi p1)])), (zc 6 (za p0)), (8, (.cells [(xi (w64 ((zo 1 (p0.Slips.1.length : Int)) - 1)))])), (9, (.cells [(.fn 77 [] [(.ptr 0 6 0), (.ptr 0 8 0), (.ptr 0 3 0), (.ptr 0 9 0)])]))], []⟩, []⟩
noncomputable def zEy (p0 : zd) (p1 r : Int) : TM := [(0, (.d (.agg (za p0)))), (1, (xi p1)), (zsp 2), (zsp 3), (4, (.d (.sl [] .nil))), (5, (xi 0)), (zsp 6), (7, (xi 0)), (20, (xb false)), (zsp 8), (zsp 9), (33, (xi (w64 ((p0.Slips.1.length : Int) + 1)))), (34, (xi r)), (35, (xb false))]
noncomputable def z9h (p0 : zd) (p1 r : Int) : St := ⟨(zEy p0 p1 r), ⟨[(zc 2 (za p0)), (3, (.cells [(xi p1)])), (zc 6 (za p0)), (8, (.cells [(xi (w64 ((zo 1 (p0.Slips.1.length : Int)) - 1)))])), (9, (.cells [(.fn 77 [] [(.ptr 0 6 0), (.ptr 0 8 0), (.ptr 0 3 0), (.ptr 0 9 0)])]))], []⟩, []⟩
noncomputable def zfr (p0 : zd) (p1 : Int) : (((SL Int) × Int × (SL Int) × Bool) ⊕ Int) → Ex × St := Sum.elim (fun r => (.ret, zgi p0 p1 r)) (fun r => ((.exit 0), z9h p0 p1 r))
theorem zLl (k : Nat) (p0 : zd) (p1 s1_12 : Int) (x : Int ⊕ (((SL Int) × Int × (SL Int) × Bool) ⊕ Int)) (h : zXk k p0 p1 s1_12 = some x) : zE TE 30 (blk TE 30 0) (fun s : Int => z2q p0 p1 s) (zfr p0 p1) s1_12 x := by
 unfold zXk at h
 refine zn h (fun h2301 g1 => ?_) (fun h2301 g1 => ?_)
 ·refine zk g1 (fun v2302 h2303 g2 => ?_)
  refine zn g2 (fun h2304 g3 => ?_) (fun h2304 g3 => ?_)
  ·exact zqo [(30, 8, 0, .q (xb true)), (30, 10, 2, .i (.tup [(dl eI v2302.1.1 v2302.1.2), (db v2302.2)]) ⟨[(2, (.cells ((za p0).map .d))), (3, (.cells [(xi p1)])), (6, (.cells ((za p0).map .d))), (8, (.cells [(xi (w64 ((zo 1 (p0.Slips.1.length : Int)) - 1)))])), (9, (.cells [(.fn 77 [] [(.ptr 0 6 0), (.ptr 0 8 0), (.ptr 0 3 0), (.ptr 0 9 0)])]))], []⟩ []), (30, 11, 0, .q (xb true)), (30, 12, 2, .q (xi (v2302.1.1.length : Int))), (30, 12, 4, .q (xi (v2302.1.1.length : Int))), (30, 12, 5, .q (.d (dl eI v2302.1.1 (ccap v2302.1.2))))] [] g3 (ob (o_b h2301) (ob (zBl k p0 p1 ([], Cap.nil) 0 s1_12 _ h2303) (ob (o_b h2304) (ob (zr eI v2302.1.1) (ob (zr eI v2302.1.1) (ob (z1c (e := eI) (z := 1) v2302.1.1 v2302.1.2) ob0)))))) (by kernel_rfl)
  ·exact zqn (w64 (s1_12 + 1)) [] [(30, 8, 0, .q (xb true)), (30, 10, 2, .i (.tup [(dl eI v2302.1.1 v2302.1.2), (db v2302.2)]) ⟨[(2, (.cells ((za p0).map .d))), (3, (.cells [(xi p1)])), (6, (.cells ((za p0).map .d))), (8, (.cells [(xi (w64 ((zo 1 (p0.Slips.1.length : Int)) - 1)))])), (9, (.cells [(.fn 77 [] [(.ptr 0 6 0), (.ptr 0 8 0), (.ptr 0 3 0), (.ptr 0 9 0)])]))], []⟩ []), (30, 11, 0, .q (xb false))] [] g3 (ob (o_b h2301) (ob (zBl k p0 p1 ([], Cap.nil) 0 s1_12 _ h2303) (ob (o_b h2304) ob0))) (by kernel_rfl)
 ·exact zqo [(30, 8, 0, .q (xb false))] [] g1 (ob (o_b h2301) ob0) (by kernel_rfl)
theorem zjt (k : Nat) (p0 : zd) (p1 : Int) (r : ((SL Int) × Int)) (h : zOn k p0 p1 = some r) : zA TE (ev TE) 30 [(.agg (za p0)), (di p1)] = some (zXg r) := by
 unfold zOn at h
 refine zk h (fun v1 h2 g1 => ?_)
 refine zn g1 (fun h3 g2 => ?_) (fun h3 g2 => ?_)
 ·exact zy (g := zXg) g2 (zqc [(52, 1, 1, .c (di v1)), (52, 2, 1, .q (xb true)), (30, 2, 1, .q (xb true))] [] (ob (zP k p0 _ h2) (ob (o_b h3) (ob (o_b h3) ob0))) (by kernel_rfl))
 ·refine zk g2 (fun v4 h5 g3 => ?_)
  have y1 := fun (d : D) (P : List Prop) (V : Ovs) (C : Cuts) (q : All P) h => (zqc ([(52, 1, 1, .c (di v1)), (52, 2, 1, .q (xb false)), (76, 1, 1, .c (db v4))] ++ V) C (ob (zP k p0 _ h2) (ob (o_b h3) (ob (zS k p1 1 5 _ h5) q))) h : zA TE (ev TE) 30 [(.agg (za p0)), (di p1)] = some d)
  refine zn g3 (fun h6 g4 => ?_) (fun h6 g4 => ?_)
  ·exact zy (g := zXg) g4 (y1 _ _ [(52, 4, 4, .q (xb true))] [] (ob (o_b h6) ob0) (by kernel_rfl))
  ·have y2 := fun (d : _) (P : List Prop) (V : Ovs) (C : Cuts) (q : All P) h => y1 d _ ([(52, 4, 4, .q (xb false)), (30, 4, 3, .q (xi (p0.Slips.1.length : Int))), (30, 4, 4, .q (xi (zo 1 (p0.Slips.1.length : Int)))), (30, 7, 3, .q (xi (p0.Slips.1.length : Int)))] ++ V) C (ob (o_b h6) (ob (zr zm p0.Slips.1) q)) h
   refine zn g4 (fun h7 g5 => ?_) (fun h7 g5 => ?_)
   ·cases g5
   ·refine zk g5 (fun v8 h9 g6 => ?_)
    refine zXb g6 (fun v11 hh g7_0 => ?_) (fun v11 hh g7_0 => ?_)
    ·subst hh
     exact zy (g := zXg) g7_0 (y2 _ _ [] [(30, 0, (.ret, zgi p0 p1 v11))] (ob (zfc (x := 1) h7) (ob (zr zm p0.Slips.1) (ob (zx (id := 0) (r' := (.ret, zgi p0 p1 v11)) (zkd (zLl k p0 p1) k _ _ h9) rfl) ob0))) (by kernel_rfl))
    ·subst hh
     exact zy (g := zXg) g7_0 (y2 _ _ [] [(30, 0, (.nor, z9h p0 p1 v11))] (ob (zfc (x := 1) h7) (ob (zr zm p0.Slips.1) (ob (zx (id := 0) (r' := (.nor, z9h p0 p1 v11)) (zkd (zLl k p0 p1) k _ _ h9) rfl) ob0))) (by kernel_rfl))
noncomputable def zZy (s1_0 : Int) (p1 : (SL Int)) (s1_5 : Int) : TM := [(0, (xi s1_0)), (1, (.d (dl eI p1.1 p1.2))), (4, (xi 0)), (7, (.d (dl eI p1.1 p1.2))), (8, (xi (p1.1.length : Int))), (9, (xi s1_5))]
noncomputable def zBm (p1 : (SL Int)) (s1_0 s1_5 : Int) : St := ⟨(zZy s1_0 p1 s1_5), ⟨[], []⟩, []⟩
noncomputable def zqy (r : zt8) (p1 : (SL Int)) : TM := [(0, (xi r.1)), (1, (.d (dl eI p1.1 p1.2))), (4, (xi 0)), (7, (.d (dl eI p1.1 p1.2))), (8, (xi (p1.1.length : Int))), (9, (xi r.2)), (10, (xb false))]
noncomputable def zee (p1 : (SL Int)) (r : zt8) : St := ⟨(zqy r p1), ⟨[], []⟩, []⟩
noncomputable def z8l (p1 : (SL Int)) : (Int × Int) → Ex × St := fun r => ((.exit 0), zee p1 r)
theorem zsl (k : Nat) (p1 : (SL Int)) (s1_0 s1_5 : Int) (x : (Int × Int) ⊕ (Int × Int)) (h : zCf k p1 s1_0 s1_5 = some x) : zE TE 81 (blk TE 81 0) (fun s : (Int × Int) => zBm p1 s.1 s.2) (z8l p1) (s1_0, s1_5) x := by
 unfold zCf at h
 refine zn h (fun h201 g1 => ?_) (fun h201 g1 => ?_)
 ·refine zk g1 (fun v202 h203 g2 => ?_)
  exact zqn ((if v202 > s1_0 then v202 else s1_0), (w64 (s1_5 + 1))) [] [(81, 2, 0, .q (xb true)), (81, 3, 0, .q (.d (.pin [(di v202)])))] [] g2 (ob (o_b h201) (ob (o_ia (e := eI) 1 h203 rfl) ob0)) (by kernel_rfl)
 ·exact zqo [(81, 2, 0, .q (xb false))] [] g1 (ob (o_b h201) ob0) (by kernel_rfl)
theorem zqi (k : Nat) (p0 : Int) (p1 : (SL Int)) (r : Int) (h : zWe k p0 p1 = some r) : zA TE (ev TE) 81 [(di p0), (dl eI p1.1 p1.2)] = some (zJi r) := by
 unfold zWe at h
 refine zk h (fun v1 h2 g1 => ?_)
 exact zy (g := zJi) g1 (zqc [(81, 1, 1, .q (xi (p1.1.length : Int)))] [(81, 0, (.nor, zee p1 v1))] (ob (zr eI p1.1) (ob (zx (id := 0) (r' := (.nor, zee p1 v1)) (zCb (zsl k p1) k _ _ h2) rfl) ob0)) (by kernel_rfl))
noncomputable def zRw (p0 : zd) (p1 : Int) (v7 : zt10) (v11 : Int) (v13 : zl) : TM := [(0, (.d (.agg (za p0)))), (1, (xi p1)), (zsp 2), (zsp 3), (4, (xi 0)), (5, (xi 0)), (zsp 6), (7, (xi 0)), (24, (xb false)), (9, (xi v7.2.1)), (10, (xb v7.2.2)), (33, (xb false)), (zsp 11), (12, (xi v11)), (13, (xi v13.Until))]
noncomputable def zRl (p0 : zd) (p1 : Int) (v7 : zt10) (v11 : Int) (v13 : zl) : St := ⟨(zRw p0 p1 v7 v11 v13), ⟨[(zc 2 (za p0)), (3, (.cells [(xi p1)])), (6, (.cells [(.d (dl eI p0.Far.1 p0.Far.2)), (xi p0.Step.Low), (xi p0.Step.High), (.d (dl zw p0.Pick.1 p0.Pick.2)), (xi p0.Carry), (.row 0 57 0)])), (11, (.cells [(xi (w64 ((zo 1 (p0.Slips.1.length : Int)) - 1))), (xi v7.2.1)])), (57, .nrow)], []⟩, []⟩
noncomputable def zjh (p0 : zd) (p1 : Int) (v7 : zt10) (v11 : Int) (v13 : zl) (r : Unit) : St := ⟨(zRw p0 p1 v7 v11 v13 ++ [(62, (xb false))]), ⟨[(zc 2 (za p0)), (3, (.cells [(xi p1)])), (6, (.cells [(.d (dl eI p0.Far.1 p0.Far.2)), (xi p0.Step.Low), (xi p0.Step.High), (.d (dl zw p0.Pick.1 p0.Pick.2)), (xi p0.Carry), (.row 0 57 0)])), (11, (.cells [(xi (w64 ((zo 1 (p0.Slips.1.length : Int)) - 1))), (xi v7.2.1)])), (57, .nrow)], []⟩, []⟩
noncomputable def zWl (p0 : zd) (p1 : Int) (v7 : zt10) (v11 : Int) (v13 : zl) : Unit → Ex × St := fun r => ((.exit 0), zjh p0 p1 v7 v11 v13 r)
theorem zSo (k : Nat) (p0 : zd) (p1 : Int) (v7 : zt10) (v11 : Int) (v13 : zl) (x : Unit ⊕ Unit) (h : zgh k p0 p1 v7 v11 v13 = some x) : zE TE 33 (blk TE 33 0) (fun s : Unit => zRl p0 p1 v7 v11 v13) (zWl p0 p1 v7 v11 v13) () x := by
 unfold zgh at h
 refine zn h (fun h201 g1 => ?_) (fun h201 g1 => ?_)
 ·cases g1
 ·exact zqo [(33, 10, 2, .q (xb false))] [] g1 (ob (o_b h201) ob0) (by kernel_rfl)
theorem zvp (k : Nat) (p0 : zd) (p1 : Int) (v7 : zt10) (v11 : Int) (v13 : zl) : ∀ (s : Unit) (x : Unit ⊕ Unit), (fun s => zgh k p0 p1 v7 v11 v13) s = some x → zE TE 33 (blk TE 33 0) (fun s : Unit => zRl p0 p1 v7 v11 v13) (zWl p0 p1 v7 v11 v13) s x := fun s x h => zSo k p0 p1 v7 v11 v13 x h
noncomputable def zbz (p0 : zd) (p1 : Int) (v7 : zt10) (r : (Int × Int × Bool)) (s2_14 s2_15 : Int) (v404 : ((SL (SL Int)) × Bool)) : TM := [(0, (.d (.agg (za p0)))), (1, (xi p1)), (zsp 2), (zsp 3), (4, (xi 0)), (5, (xi 0)), (zsp 6), (7, (xi 0)), (24, (xb false)), (9, (xi v7.2.1)), (10, (xb v7.2.2)), (33, (xb false)), (zsp 11), (12, (xi r.1)), (13, (xi r.2.1)), (62, (xb true)), (14, (xi (w64 ((w64 (s2_14 + s2_15)).tdiv 2)))), (16, (xb v404.2)), (80, (xb r.2.2))]
noncomputable def zhg (p0 : zd) (p1 : Int) (v7 : zt10) (s2_14 s2_15 : Int) (s2_30 : (List zl)) (v402 : zl) (v404 : ((SL (SL Int)) × Bool)) (cb : Bool) (r : (Int × Int × Bool)) : St := ⟨(zbz p0 p1 v7 r s2_14 s2_15 v404), ⟨[(zc 2 (za p0)), (3, (.cells [(xi p1)])), (6, (.cells [(.d (dl eI p0.Far.1 p0.Far.2)), (xi p0.Step.Low), (xi p0.Step.High), (.d (dl zw p0.Pick.1 p0.Pick.2)), (xi p0.Carry), (.row 0 57 (s2_30.set p1.toNat (⟨v402.Lines, (w64 ((w64 (s2_14 + s2_15)).tdiv 2))⟩ : zl)).length)])), (11, (.cells [(xi (w64 ((zo 1 (p0.Slips.1.length : Int)) - 1))), (xi v7.2.1)])), (57, (rowO false 2 zm (s2_30.set p1.toNat (⟨v402.Lines, (w64 ((w64 (s2_14 + s2_15)).tdiv 2))⟩ : zl)) true))], []⟩, []⟩
noncomputable def z6y (p0 : zd) (p1 : Int) (v7 : zt10) (s2_14 s2_15 : Int) (v404 : ((SL (SL Int)) × Bool)) (cb : Bool) : TM := [(0, (.d (.agg (za p0)))), (1, (xi p1)), (zsp 2), (zsp 3), (4, (xi 0)), (5, (xi 0)), (zsp 6), (7, (xi 0)), (24, (xb false)), (9, (xi v7.2.1)), (10, (xb v7.2.2)), (33, (xb false)), (zsp 11), (12, (xi s2_14)), (13, (xi s2_15)), (62, (xb true)), (14, (xi (w64 ((w64 (s2_14 + s2_15)).tdiv 2)))), (16, (xb v404.2)), (80, (xb cb))]
theorem zap (k : Nat) (p0 : zd) (p1 : Int) (v7 : zt10) (s2_14 s2_15 : Int) (s2_30 : (List zl)) (v402 : zl) (v404 : ((SL (SL Int)) × Bool)) (cb : Bool) (r : (Int × Int × Bool)) (h : zwj k p0 p1 v7 s2_14 s2_15 s2_30 v402 v404 cb = some r) : ev TE 33 (cnd TE 33 80) ⟨(z6y p0 p1 v7 s2_14 s2_15 v404 cb), ⟨[(zc 2 (za p0)), (3, (.cells [(xi p1)])), (6, (.cells [(.d (dl eI p0.Far.1 p0.Far.2)), (xi p0.Step.Low), (xi p0.Step.High), (.d (dl zw p0.Pick.1 p0.Pick.2)), (xi p0.Carry), (.row 0 57 (s2_30.set p1.toNat (⟨v402.Lines, (w64 ((w64 (s2_14 + s2_15)).tdiv 2))⟩ : zl)).length)])), (11, (.cells [(xi (w64 ((zo 1 (p0.Slips.1.length : Int)) - 1))), (xi v7.2.1)])), (57, (rowO false 2 zm (s2_30.set p1.toNat (⟨v402.Lines, (w64 ((w64 (s2_14 + s2_15)).tdiv 2))⟩ : zl)) true))], []⟩, []⟩ = some (.nor, zhg p0 p1 v7 s2_14 s2_15 s2_30 v402 v404 cb r) := by
 unfold zwj at h
 refine zn h (fun h501 g1 => ?_) (fun h501 g1 => ?_)
 ·subst h501
  exact zB (g := fun r => (Ex.nor, zhg p0 p1 v7 s2_14 s2_15 s2_30 v402 v404 true r)) g1 (zqe [] [] ob0 (by kernel_rfl))
 ·subst h501
  exact zB (g := fun r => (Ex.nor, zhg p0 p1 v7 s2_14 s2_15 s2_30 v402 v404 false r)) g1 (zqe [] [] ob0 (by kernel_rfl))
noncomputable def z1y (p0 : zd) (p1 : Int) (v7 : zt10) (s2_14 s2_15 : Int) : TM := [(0, (.d (.agg (za p0)))), (1, (xi p1)), (zsp 2), (zsp 3), (4, (xi 0)), (5, (xi 0)), (zsp 6), (7, (xi 0)), (24, (xb false)), (9, (xi v7.2.1)), (10, (xb v7.2.2)), (33, (xb false)), (zsp 11), (12, (xi s2_14)), (13, (xi s2_15))]
noncomputable def zPq (p0 : zd) (p1 : Int) (v7 : zt10) (s2_14 s2_15 : Int) (s2_30 : (List zl)) : St := ⟨(z1y p0 p1 v7 s2_14 s2_15), ⟨[(zc 2 (za p0)), (3, (.cells [(xi p1)])), (6, (.cells [(.d (dl eI p0.Far.1 p0.Far.2)), (xi p0.Step.Low), (xi p0.Step.High), (.d (dl zw p0.Pick.1 p0.Pick.2)), (xi p0.Carry), (.row 0 57 s2_30.length)])), (11, (.cells [(xi (w64 ((zo 1 (p0.Slips.1.length : Int)) - 1))), (xi v7.2.1)])), (57, (rowO false 2 zm s2_30 true))], []⟩, []⟩
noncomputable def zcy (p0 : zd) (p1 : Int) (v7 : zt10) (r : (Int × Int × (List zl))) : TM := [(0, (.d (.agg (za p0)))), (1, (xi p1)), (zsp 2), (zsp 3), (4, (xi 0)), (5, (xi 0)), (zsp 6), (7, (xi 0)), (24, (xb false)), (9, (xi v7.2.1)), (10, (xb v7.2.2)), (33, (xb false)), (zsp 11), (12, (xi r.1)), (13, (xi r.2.1)), (62, (xb false))]
noncomputable def zAh (p0 : zd) (p1 : Int) (v7 : zt10) (r : (Int × Int × (List zl))) : St := ⟨(zcy p0 p1 v7 r), ⟨[(zc 2 (za p0)), (3, (.cells [(xi p1)])), (6, (.cells [(.d (dl eI p0.Far.1 p0.Far.2)), (xi p0.Step.Low), (xi p0.Step.High), (.d (dl zw p0.Pick.1 p0.Pick.2)), (xi p0.Carry), (.row 0 57 r.2.2.length)])), (11, (.cells [(xi (w64 ((zo 1 (p0.Slips.1.length : Int)) - 1))), (xi v7.2.1)])), (57, (rowO false 2 zm r.2.2 true))], []⟩, []⟩
noncomputable def zBq (p0 : zd) (p1 : Int) (v7 : zt10) : (Int × Int × (List zl)) → Ex × St := fun r => ((.exit 0), zAh p0 p1 v7 r)
theorem zkp (k : Nat) (p0 : zd) (p1 : Int) (v7 : zt10) (s2_14 s2_15 : Int) (s2_30 : (List zl)) (x : (Int × Int × (List zl)) ⊕ (Int × Int × (List zl))) (h : zHj k p0 p1 v7 s2_14 s2_15 s2_30 = some x) : zE TE 33 (blk TE 33 0) (fun s : (Int × Int × (List zl)) => zPq p0 p1 v7 s.1 s.2.1 s.2.2) (zBq p0 p1 v7) (s2_14, s2_15, s2_30) x := by
 unfold zHj at h
 refine zn h (fun h401 g1 => ?_) (fun h401 g1 => ?_)
 ·refine zk g1 (fun v402 h403 g2 => ?_)
  refine zk g2 (fun v404 h405 g3 => ?_)
  refine zk g3 (fun v406 h407 g4 => ?_)
  exact zqn (v406.1, v406.2.1, (s2_30.set p1.toNat (⟨v402.Lines, (w64 ((w64 (s2_14 + s2_15)).tdiv 2))⟩ : zl))) [57] [(33, 10, 2, .q (xb true)), (33, 12, 5, .q (.rp 0 57 s2_30.length p1.toNat 0)), (33, 12, 6, .q (.rp 0 57 s2_30.length p1.toNat 1)), (33, 12, 7, .rs (rowO false 2 zm (s2_30.set p1.toNat (⟨v402.Lines, (w64 ((w64 (s2_14 + s2_15)).tdiv 2))⟩ : zl)) true)), (33, 12, 999, .nm [] [(6, 5, (s2_30.set p1.toNat (⟨v402.Lines, (w64 ((w64 (s2_14 + s2_15)).tdiv 2))⟩ : zl)).length)]), (33, 13, 2, .cr [((dl zm (s2_30.set p1.toNat (⟨v402.Lines, (w64 ((w64 (s2_14 + s2_15)).tdiv 2))⟩ : zl)) (rcap false (s2_30.set p1.toNat (⟨v402.Lines, (w64 ((w64 (s2_14 + s2_15)).tdiv 2))⟩ : zl)))), (rowO false 2 zm (s2_30.set p1.toNat (⟨v402.Lines, (w64 ((w64 (s2_14 + s2_15)).tdiv 2))⟩ : zl)) false))] (.tup [(dl (eL eI) v404.1.1 v404.1.2), (db v404.2)]))] [(33, 2000080, (.nor, zhg p0 p1 v7 s2_14 s2_15 s2_30 v402 v404 v404.2 v406))] g4 (ob (o_b h401) (ob (zqa 26 32 0 57 p1 false 2 zm s2_30 true (by kernel_rfl) (by kernel_rfl) h403) (ob (zqf 52 (1, 1, false) 0 57 0 1 p1 false 2 zm s2_30 true (by kernel_rfl) (by decide) h403) (ob (o_rs (b := false) (z := 2) (e := zm) (l := s2_30) (o := 1) (n := 1) (ds := [(di (w64 ((w64 (s2_14 + s2_15)).tdiv 2)))]) (i := p1) (y' := (⟨v402.Lines, (w64 ((w64 (s2_14 + s2_15)).tdiv 2))⟩ : zl)) h403 (Nat.le_of_ble_eq_true rfl) rfl) (ob (show s2_30.length = (s2_30.set p1.toNat (⟨v402.Lines, (w64 ((w64 (s2_14 + s2_15)).tdiv 2))⟩ : zl)).length by simp) (ob (o_cr false 2 zm (s2_30.set p1.toNat (⟨v402.Lines, (w64 ((w64 (s2_14 + s2_15)).tdiv 2))⟩ : zl)) true 0 57) (ob (zT k (⟨(⟨p0.Far, p0.Step, p0.Pick, p0.Carry, ((s2_30.set p1.toNat (⟨v402.Lines, (w64 ((w64 (s2_14 + s2_15)).tdiv 2))⟩ : zl)), (rcap false (s2_30.set p1.toNat (⟨v402.Lines, (w64 ((w64 (s2_14 + s2_15)).tdiv 2))⟩ : zl))))⟩ : zd)⟩ : zj) (⟨(w64 ((zo 1 (p0.Slips.1.length : Int)) - 1)), v7.2.1⟩ : zq) _ h405) (ob (zap k p0 p1 v7 s2_14 s2_15 s2_30 v402 v404 v404.2 _ h407) (ob (zHg false 2 zm (s2_30.set p1.toNat (⟨v402.Lines, (w64 ((w64 (s2_14 + s2_15)).tdiv 2))⟩ : zl)) true) ob0))))))))) (by kernel_rfl)
 ·exact zqo [(33, 10, 2, .q (xb false))] [] g1 (ob (o_b h401) ob0) (by kernel_rfl)
theorem zTr (k : Nat) (p0 : zd) (p1 : Int) (r : zt8) (h : ztn k p0 p1 = some r) : zA TE (ev TE) 33 [(.agg (za p0)), (di p1)] = some (z1e r) := by
 unfold ztn at h
 refine zk h (fun v1 h2 g1 => ?_)
 refine zn g1 (fun h3 g2 => ?_) (fun h3 g2 => ?_)
 ·exact zy (g := z1e) g2 (zqc [(52, 1, 1, .c (di v1)), (52, 2, 1, .q (xb true)), (33, 2, 1, .q (xb true))] [] (ob (zP k p0 _ h2) (ob (o_b h3) (ob (o_b h3) ob0))) (by kernel_rfl))
 ·refine zk g2 (fun v4 h5 g3 => ?_)
  have y1 := fun (d : D) (P : List Prop) (V : Ovs) (C : Cuts) (q : All P) h => (zqc ([(52, 1, 1, .c (di v1)), (52, 2, 1, .q (xb false)), (79, 1, 2, .c (db v4))] ++ V) C (ob (zP k p0 _ h2) (ob (o_b h3) (ob (zcb k (⟨p0⟩ : zj) p1 _ h5) q))) h : zA TE (ev TE) 33 [(.agg (za p0)), (di p1)] = some d)
  refine zn g3 (fun h6 g4 => ?_) (fun h6 g4 => ?_)
  ·exact zy (g := z1e) g4 (y1 _ _ [(52, 4, 4, .q (xb true))] [] (ob (o_b h6) ob0) (by kernel_rfl))
  ·refine zk g4 (fun v7 h8 g5 => ?_)
   have y2 := fun (d : _) (P : List Prop) (V : Ovs) (C : Cuts) (q : All P) h => y1 d _ ([(52, 4, 4, .q (xb false)), (33, 4, 1, .c (.tup [(dl (eL eI) v7.1.1 v7.1.2), (di v7.2.1), (db v7.2.2)]))] ++ V) C (ob (o_b h6) (ob (zDf k (⟨p0⟩ : zj) _ h8) q)) h
   refine zn g5 (fun h9 g6 => ?_) (fun h9 g6 => ?_)
   ·exact zy (g := z1e) g6 (y2 _ _ [(33, 5, 1, .q (xb true))] [] (ob (o_b h9) ob0) (by kernel_rfl))
   ·refine zn g6 (fun h10 g7 => ?_) (fun h10 g7 => ?_)
    ·cases g7
    ·refine zk g7 (fun v11 h12 g8 => ?_)
     refine zk g8 (fun v13 h14 g9 => ?_)
     have y3 := fun (d : _) (P : List Prop) (V : Ovs) (C : Cuts) (q : All P) h => y2 d _ ([(33, 5, 1, .q (xb false)), (33, 7, 3, .q (xi (p0.Slips.1.length : Int))), (33, 7, 4, .q (xi (zo 1 (p0.Slips.1.length : Int)))), (33, 8, 4, .c (di v11)), (33, 8, 9, .q (.d (.pin [(dl zi v13.Lines.1 v13.Lines.2), (di v13.Until)])))] ++ V) C (ob (o_b h9) (ob (zr zm p0.Slips.1) (ob (zfc (x := 1) h10) (ob (zGe k (⟨p0⟩ : zj) p1 _ h12) (ob (o_ia (e := zm) 2 h14 rfl) q))))) h
     refine zn g9 (fun h15 g10 => ?_) (fun h15 g10 => ?_)
     ·refine zk g10 (fun v16 h17 g11 => ?_)
      refine zk g11 (fun v18 h19 g12 => ?_)
      exact zy (g := z1e) g12 (y3 _ _ [(80, 1, 1, .q (xb true)), (33, 17, 2, .c (di v18))] [(33, 0, (.nor, zjh p0 p1 v7 v11 v13 v16))] (ob (o_b h15) (ob (zx (id := 0) (r' := (.nor, zjh p0 p1 v7 v11 v13 v16)) (zOg (zvp k p0 p1 v7 v11 v13) k _ _ h17) rfl) (ob (zqi k v11 ([0], .ex) _ h19) ob0))) (by kernel_rfl))
     ·refine zZ g10 (fun h16 g11 => ?_)
      refine zk g11 (fun v17 h18 g12 => ?_)
      refine zk g12 (fun v19 h20 g13 => ?_)
      exact zy (g := z1e) g13 (y3 _ _ [(80, 1, 1, .q (xb false)), (80, 3, 2, .ns (p0.Slips.1.map zm) p0.Slips.1.length), (33, 17, 2, .c (di v19))] [(33, 0, (.nor, zAh p0 p1 v7 v17))] (ob (o_b h15) (ob (zey p0.Slips.1 zm) (ob (o_ns (P := TE.P) (φ := fun _ _ => none) (T := 26) (q := (2, [(.sl [] .nil), (di 0)])) (c := p0.Slips.2) (e := zm) p0.Slips.1 (by kernel_rfl) (fun _ => rfl) h16) (ob (rfl : (([] : List (List D)).isEmpty || !(p0.Slips.1.map zm).isEmpty) = true) (ob (o_rh false 2 zm p0.Slips.1) (ob (zx (id := 0) (r' := (.nor, zAh p0 p1 v7 v17)) (zwk (zkp k p0 p1 v7) k _ _ h18) rfl) (ob (zqi k v17.1 ([0], .ex) _ h20) ob0))))))) (by kernel_rfl))
noncomputable def z2x (p0 p1 : (SL zp)) (s1_3 : Bool) (s1_4 : Int) (r : Bool) : TM := [(0, (.d (dl zw p0.1 p0.2))), (1, (.d (dl zw p1.1 p1.2))), (4, (xb false)), (5, (xb s1_3)), (6, (xi s1_4)), (18, (xb r))]
noncomputable def zBb (p0 p1 : (SL zp)) (s1_3 : Bool) (s1_4 : Int) (r : Bool) : St := ⟨(z2x p0 p1 s1_3 s1_4 r), ⟨[], []⟩, []⟩
noncomputable def zMw (p0 p1 : (SL zp)) (s1_3 : Bool) (s1_4 : Int) : TM := [(0, (.d (dl zw p0.1 p0.2))), (1, (.d (dl zw p1.1 p1.2))), (4, (xb false)), (5, (xb s1_3)), (6, (xi s1_4))]
theorem zze (k : Nat) (p0 p1 : (SL zp)) (s1_3 : Bool) (s1_4 : Int) (r : Bool) (h : zvd k p0 p1 s1_3 s1_4 = some r) : ev TE 27 (rgn TE 27 3) ⟨(zMw p0 p1 s1_3 s1_4), ⟨[], []⟩, []⟩ = some (.nor, zBb p0 p1 s1_3 s1_4 r) := by
 unfold zvd at h
 refine zn h (fun h401 g1 => ?_) (fun h401 g1 => ?_)
 ·exact zB (g := fun r => (Ex.nor, zBb p0 p1 s1_3 s1_4 r)) g1 (zqe [(27, 3, 1, .q (xb true)), (27, 3, 4, .q (xi (p0.1.length : Int)))] [] (ob (o_b h401) (ob (zr zw p0.1) ob0)) (by kernel_rfl))
 ·exact zB (g := fun r => (Ex.nor, zBb p0 p1 s1_3 s1_4 r)) g1 (zqe [(27, 3, 1, .q (xb false))] [] (ob (o_b h401) ob0) (by kernel_rfl))
noncomputable def zDi (p0 p1 : (SL zp)) (s1_3 : Bool) (s1_4 : Int) : St := ⟨(zMw p0 p1 s1_3 s1_4), ⟨[], []⟩, []⟩
noncomputable def z2y (p0 p1 : (SL zp)) (r : zt3) : TM := [(0, (.d (dl zw p0.1 p0.2))), (1, (.d (dl zw p1.1 p1.2))), (4, (xb false)), (5, (xb r.1)), (6, (xi r.2)), (18, (xb false))]
noncomputable def zUc (p0 p1 : (SL zp)) (r : zt3) : St := ⟨(z2y p0 p1 r), ⟨[], []⟩, []⟩
noncomputable def zEi (p0 p1 : (SL zp)) : (Bool × Int) → Ex × St := fun r => ((.exit 0), zUc p0 p1 r)
theorem zei (k : Nat) (p0 p1 : (SL zp)) (s1_3 : Bool) (s1_4 : Int) (x : (Bool × Int) ⊕ (Bool × Int)) (h : zsd k p0 p1 s1_3 s1_4 = some x) : zE TE 27 (blk TE 27 0) (fun s : (Bool × Int) => zDi p0 p1 s.1 s.2) (zEi p0 p1) (s1_3, s1_4) x := by
 unfold zsd at h
 refine zk h (fun v301 h302 g1 => ?_)
 refine zn g1 (fun h303 g2 => ?_) (fun h303 g2 => ?_)
 ·subst h303
  refine zk g2 (fun v304 h305 g3 => ?_)
  refine zk g3 (fun v306 h307 g4 => ?_)
  exact zqn (((v304.Low == v306.Low) && ((v304.High == v306.High) && true)), (w64 (s1_4 + 1))) [] [(27, 5, 2, .q (.d (.pin [(di v304.Low), (di v304.High)]))), (27, 5, 6, .q (.d (.pin [(di v306.Low), (di v306.High)])))] [(27, 1000003, (.nor, zBb p0 p1 s1_3 s1_4 true))] g4 (ob (zze k p0 p1 s1_3 s1_4 _ h302) (ob (o_ia (e := zw) 2 h305 rfl) (ob (o_ia (e := zw) 2 h307 rfl) ob0))) (by kernel_rfl)
 ·subst h303
  exact zqo [] [(27, 1000003, (.nor, zBb p0 p1 s1_3 s1_4 false))] g2 (ob (zze k p0 p1 s1_3 s1_4 _ h302) ob0) (by kernel_rfl)
theorem zij (k : Nat) (p0 p1 : (SL zp)) (r : Bool) (h : z6d k p0 p1 = some r) : zA TE (ev TE) 27 [(dl zw p0.1 p0.2), (dl zw p1.1 p1.2)] = some (zTf r) := by
 unfold z6d at h
 refine zk h (fun v1 h2 g1 => ?_)
 exact zy (g := zTf) g1 (zqc [(27, 1, 1, .q (xi (p0.1.length : Int))), (27, 1, 3, .q (xi (p1.1.length : Int)))] [(27, 0, (.nor, zUc p0 p1 v1))] (ob (zr zw p0.1) (ob (zr zw p1.1) (ob (zx (id := 0) (r' := (.nor, zUc p0 p1 v1)) (zCb (zei k p0 p1) k _ _ h2) rfl) ob0))) (by kernel_rfl))
noncomputable def z7y (p0 p1 : (SL Int)) (s1_3 : Bool) (s1_4 : Int) (r : Bool) : TM := [(0, (.d (dl eI p0.1 p0.2))), (1, (.d (dl eI p1.1 p1.2))), (4, (xb false)), (5, (xb s1_3)), (6, (xi s1_4)), (18, (xb r))]
noncomputable def zac (p0 p1 : (SL Int)) (s1_3 : Bool) (s1_4 : Int) (r : Bool) : St := ⟨(z7y p0 p1 s1_3 s1_4 r), ⟨[], []⟩, []⟩
noncomputable def zUw (p0 p1 : (SL Int)) (s1_3 : Bool) (s1_4 : Int) : TM := [(0, (.d (dl eI p0.1 p0.2))), (1, (.d (dl eI p1.1 p1.2))), (4, (xb false)), (5, (xb s1_3)), (6, (xi s1_4))]
theorem zdg (k : Nat) (p0 p1 : (SL Int)) (s1_3 : Bool) (s1_4 : Int) (r : Bool) (h : zNe k p0 p1 s1_3 s1_4 = some r) : ev TE 32 (rgn TE 32 3) ⟨(zUw p0 p1 s1_3 s1_4), ⟨[], []⟩, []⟩ = some (.nor, zac p0 p1 s1_3 s1_4 r) := by
 unfold zNe at h
 refine zn h (fun h401 g1 => ?_) (fun h401 g1 => ?_)
 ·exact zB (g := fun r => (Ex.nor, zac p0 p1 s1_3 s1_4 r)) g1 (zqe [(32, 3, 1, .q (xb true)), (32, 3, 4, .q (xi (p0.1.length : Int)))] [] (ob (o_b h401) (ob (zr eI p0.1) ob0)) (by kernel_rfl))
 ·exact zB (g := fun r => (Ex.nor, zac p0 p1 s1_3 s1_4 r)) g1 (zqe [(32, 3, 1, .q (xb false))] [] (ob (o_b h401) ob0) (by kernel_rfl))
noncomputable def zdl (p0 p1 : (SL Int)) (s1_3 : Bool) (s1_4 : Int) : St := ⟨(zUw p0 p1 s1_3 s1_4), ⟨[], []⟩, []⟩
noncomputable def zfy (p0 p1 : (SL Int)) (r : zt3) : TM := [(0, (.d (dl eI p0.1 p0.2))), (1, (.d (dl eI p1.1 p1.2))), (4, (xb false)), (5, (xb r.1)), (6, (xi r.2)), (18, (xb false))]
noncomputable def zUd (p0 p1 : (SL Int)) (r : zt3) : St := ⟨(zfy p0 p1 r), ⟨[], []⟩, []⟩
noncomputable def zbl (p0 p1 : (SL Int)) : (Bool × Int) → Ex × St := fun r => ((.exit 0), zUd p0 p1 r)
theorem zUj (k : Nat) (p0 p1 : (SL Int)) (s1_3 : Bool) (s1_4 : Int) (x : (Bool × Int) ⊕ (Bool × Int)) (h : zQe k p0 p1 s1_3 s1_4 = some x) : zE TE 32 (blk TE 32 0) (fun s : (Bool × Int) => zdl p0 p1 s.1 s.2) (zbl p0 p1) (s1_3, s1_4) x := by
 unfold zQe at h
 refine zk h (fun v301 h302 g1 => ?_)
 refine zn g1 (fun h303 g2 => ?_) (fun h303 g2 => ?_)
 ·subst h303
  refine zk g2 (fun v304 h305 g3 => ?_)
  refine zk g3 (fun v306 h307 g4 => ?_)
  exact zqn ((v304 == v306), (w64 (s1_4 + 1))) [] [(32, 5, 2, .q (.d (.pin [(di v304)]))), (32, 5, 6, .q (.d (.pin [(di v306)])))] [(32, 1000003, (.nor, zac p0 p1 s1_3 s1_4 true))] g4 (ob (zdg k p0 p1 s1_3 s1_4 _ h302) (ob (o_ia (e := eI) 1 h305 rfl) (ob (o_ia (e := eI) 1 h307 rfl) ob0))) (by kernel_rfl)
 ·subst h303
  exact zqo [] [(32, 1000003, (.nor, zac p0 p1 s1_3 s1_4 false))] g2 (ob (zdg k p0 p1 s1_3 s1_4 _ h302) ob0) (by kernel_rfl)
theorem z0g (k : Nat) (p0 p1 : (SL Int)) (r : Bool) (h : z4f k p0 p1 = some r) : zA TE (ev TE) 32 [(dl eI p0.1 p0.2), (dl eI p1.1 p1.2)] = some (zMh r) := by
 unfold z4f at h
 refine zk h (fun v1 h2 g1 => ?_)
 exact zy (g := zMh) g1 (zqc [(32, 1, 1, .q (xi (p0.1.length : Int))), (32, 1, 3, .q (xi (p1.1.length : Int)))] [(32, 0, (.nor, zUd p0 p1 v1))] (ob (zr eI p0.1) (ob (zr eI p1.1) (ob (zx (id := 0) (r' := (.nor, zUd p0 p1 v1)) (zCb (zUj k p0 p1) k _ _ h2) rfl) ob0))) (by kernel_rfl))
noncomputable def zZx (v3 : zt8) (v7 : zt15) (v11 : ((SL (SL zh)) × Int)) (v21 : zt3) (r : Bool) : TM := [(0, (xb false)), (1, (xi v3.1)), (2, (xi v3.2)), (zsp 3), (4, (xi v7.2)), (5, (.d (dl (eL zi) v11.1.1 v11.1.2))), (6, (xi v11.2)), (7, (xb v21.1)), (8, (xi v21.2)), (86, (xb r))]
noncomputable def zC (v3 : zt8) (v7 : zt15) (v11 : ((SL (SL zh)) × Int)) (v21 : zt3) (r : Bool) : St := ⟨(zZx v3 v7 v11 v21 r), ⟨[(3, (.cells [(xi v7.1.Low), (xi v7.1.High)]))], []⟩, []⟩
noncomputable def zWw (v3 : zt8) (v7 : zt15) (v11 : ((SL (SL zh)) × Int)) (v21 : zt3) : TM := [(0, (xb false)), (1, (xi v3.1)), (2, (xi v3.2)), (zsp 3), (4, (xi v7.2)), (5, (.d (dl (eL zi) v11.1.1 v11.1.2))), (6, (xi v11.2)), (7, (xb v21.1)), (8, (xi v21.2))]
theorem zXj (k : Nat) (v3 : zt8) (v7 : zt15) (v11 : ((SL (SL zh)) × Int)) (v21 : zt3) (r : Bool) (h : zOe k v3 v7 v11 v21 = some r) : ev TE 23 (rgn TE 23 5) ⟨(zWw v3 v7 v11 v21), ⟨[(3, (.cells [(xi v7.1.Low), (xi v7.1.High)]))], []⟩, []⟩ = some (.nor, zC v3 v7 v11 v21 r) := by
 unfold zOe at h
 refine zn h (fun h201 g1 => ?_) (fun h201 g1 => ?_)
 ·exact zB (g := fun r => (Ex.nor, zC v3 v7 v11 v21 r)) g1 (zqe [(23, 5, 2, .q (xb true))] [] (ob (o_b h201) ob0) (by kernel_rfl))
 ·have y1 := fun (d : Ex × St) (P : List Prop) (V : Ovs) (C : Cuts) (q : All P) h => (zqe ([(23, 5, 2, .q (xb false))] ++ V) C (ob (o_b h201) q) h : ev TE 23 (rgn TE 23 5) ⟨(zWw v3 v7 v11 v21), ⟨[(3, (.cells [(xi v7.1.Low), (xi v7.1.High)]))], []⟩, []⟩ = some d)
  refine zn g1 (fun h202 g2 => ?_) (fun h202 g2 => ?_)
  ·exact zB (g := fun r => (Ex.nor, zC v3 v7 v11 v21 r)) g2 (y1 _ _ [(23, 5, 6, .q (xb true))] [] (ob (o_b h202) ob0) (by kernel_rfl))
  ·have y2 := fun (d : _) (P : List Prop) (V : Ovs) (C : Cuts) (q : All P) h => y1 d _ ([(23, 5, 6, .q (xb false))] ++ V) C (ob (o_b h202) q) h
   refine zn g2 (fun h203 g3 => ?_) (fun h203 g3 => ?_)
   ·exact zB (g := fun r => (Ex.nor, zC v3 v7 v11 v21 r)) g3 (y2 _ _ [(23, 5, 10, .q (xb true))] [] (ob (o_b h203) ob0) (by kernel_rfl))
   ·have y3 := fun (d : _) (P : List Prop) (V : Ovs) (C : Cuts) (q : All P) h => y2 d _ ([(23, 5, 10, .q (xb false))] ++ V) C (ob (o_b h203) q) h
    refine zn g3 (fun h204 g4 => ?_) (fun h204 g4 => ?_)
    ·exact zB (g := fun r => (Ex.nor, zC v3 v7 v11 v21 r)) g4 (y3 _ _ [(23, 5, 14, .q (xb true))] [] (ob (o_b h204) ob0) (by kernel_rfl))
    ·have y4 := fun (d : _) (P : List Prop) (V : Ovs) (C : Cuts) (q : All P) h => y3 d _ ([(23, 5, 14, .q (xb false))] ++ V) C (ob (o_b h204) q) h
     refine zn g4 (fun h205 g5 => ?_) (fun h205 g5 => ?_)
     ·exact zB (g := fun r => (Ex.nor, zC v3 v7 v11 v21 r)) g5 (y4 _ _ [(23, 5, 18, .q (xb true))] [] (ob (o_b h205) ob0) (by kernel_rfl))
     ·refine zk g5 (fun v206 h207 g6 => ?_)
      have y5 := fun (d : _) (P : List Prop) (V : Ovs) (C : Cuts) (q : All P) h => y4 d _ ([(23, 5, 18, .q (xb false)), (23, 5, 20, .c (.agg [(di v206.Low), (di v206.High)]))] ++ V) C (ob (o_b h205) (ob (zbb k 140 252 _ h207) q)) h
      refine zn g6 (fun h208 g7 => ?_) (fun h208 g7 => ?_)
      ·exact zB (g := fun r => (Ex.nor, zC v3 v7 v11 v21 r)) g7 (y5 _ _ [(23, 5, 23, .q (xb true))] [] (ob (o_b h208) ob0) (by kernel_rfl))
      ·have y6 := fun (d : _) (P : List Prop) (V : Ovs) (C : Cuts) (q : All P) h => y5 d _ ([(23, 5, 23, .q (xb false)), (23, 5, 25, .q (xi (v11.1.1.length : Int)))] ++ V) C (ob (o_b h208) (ob (zr (eL zi) v11.1.1) q)) h
       refine zn g7 (fun h209 g8 => ?_) (fun h209 g8 => ?_)
       ·exact zB (g := fun r => (Ex.nor, zC v3 v7 v11 v21 r)) g8 (y6 _ _ [(23, 5, 28, .q (xb true))] [] (ob (o_b h209) ob0) (by kernel_rfl))
       ·refine zk g8 (fun v210 h211 g9 => ?_)
        have y7 := fun (d : _) (P : List Prop) (V : Ovs) (C : Cuts) (q : All P) h => y6 d _ ([(23, 5, 28, .q (xb false)), (23, 5, 30, .q (.d (.pin [(dl zi v210.1 v210.2)]))), (23, 5, 32, .q (xi (v210.1.length : Int)))] ++ V) C (ob (o_b h209) (ob (o_ia (e := (eL zi)) 1 h211 rfl) (ob (zr zi v210.1) q))) h
        refine zn g9 (fun h212 g10 => ?_) (fun h212 g10 => ?_)
        ·exact zB (g := fun r => (Ex.nor, zC v3 v7 v11 v21 r)) g10 (y7 _ _ [(23, 5, 35, .q (xb true))] [] (ob (o_b h212) ob0) (by kernel_rfl))
        ·refine zk g10 (fun v213 h214 g11 => ?_)
         refine zk g11 (fun v215 h216 g12 => ?_)
         refine zk g12 (fun v217 h218 g13 => ?_)
         have y8 := fun (d : _) (P : List Prop) (V : Ovs) (C : Cuts) (q : All P) h => y7 d _ ([(23, 5, 35, .q (xb false)), (23, 5, 37, .q (.d (.pin [(dl zi v213.1 v213.2)]))), (23, 5, 39, .q (.d (.pin [(di v215.Shelf), (di v215.Many)]))), (23, 5, 41, .c (.agg [(di v217.Shelf), (di v217.Many)]))] ++ V) C (ob (o_b h212) (ob (o_ia (e := (eL zi)) 1 h214 rfl) (ob (o_ia (e := zi) 2 h216 rfl) (ob (zhb k 0 1 _ h218) q)))) h
         refine zn g13 (fun h219 g14 => ?_) (fun h219 g14 => ?_)
         ·exact zB (g := fun r => (Ex.nor, zC v3 v7 v11 v21 r)) g14 (y8 _ _ [(23, 5, 44, .q (xb true))] [] (ob (o_b h219) ob0) (by kernel_rfl))
         ·exact zB (g := fun r => (Ex.nor, zC v3 v7 v11 v21 r)) g14 (y8 _ _ [(23, 5, 44, .q (xb false))] [] (ob (o_b h219) ob0) (by kernel_rfl))
theorem z3g (k : Nat) (r : Bool) (h : zsc k = some r) : zA TE (ev TE) 23 [] = some (zab r) := by
 unfold zsc at h
 refine zk h (fun v1 h2 g1 => ?_)
 refine zk g1 (fun v3 h4 g2 => ?_)
 refine zk g2 (fun v5 h6 g3 => ?_)
 refine zk g3 (fun v7 h8 g4 => ?_)
 refine zk g4 (fun v9 h10 g5 => ?_)
 refine zk g5 (fun v11 h12 g6 => ?_)
 refine zk g6 (fun v13 h14 g7 => ?_)
 refine zk g7 (fun v15 h16 g8 => ?_)
 refine zk g8 (fun v17 h18 g9 => ?_)
 refine zk g9 (fun v19 h20 g10 => ?_)
 refine zk g10 (fun v21 h22 g11 => ?_)
 refine zk g11 (fun v23 h24 g12 => ?_)
 have y1 := fun (d : D) (P : List Prop) (V : Ovs) (C : Cuts) (q : All P) h => (zqc ([(23, 1, 0, .c (.agg (za v1))), (23, 1, 1, .c (.tup [(di v3.1), (di v3.2)])), (23, 2, 0, .c (.agg (za v5))), (23, 2, 1, .c (.tup [(.agg [(di v7.1.Low), (di v7.1.High)]), (di v7.2)])), (23, 3, 0, .c (.agg (za v9))), (23, 3, 1, .c (.tup [(dl (eL zi) v11.1.1 v11.1.2), (di v11.2)])), (23, 4, 0, .c (.agg (za v13))), (23, 4, 1, .c (.agg [(di v15.Shelf), (di v15.Many)])), (23, 4, 2, .c (.agg [(di v17.Shelf), (di v17.Many)])), (23, 4, 4, .c (.agg [(di v19.Shelf), (di v19.Many)])), (23, 4, 7, .c (.tup [(db v21.1), (di v21.2)]))] ++ V) C (ob (zmb k _ h2) (ob (zDn k v1 3 _ h4) (ob (zmb k _ h6) (ob (zFn k v5 0 _ h8) (ob (zmb k _ h10) (ob (zGn k v9 2 _ h12) (ob (zmb k _ h14) (ob (zhb k 0 1 _ h16) (ob (zhb k 2 3 _ h18) (ob (zhb k 0 1 _ h20) (ob (zHl k v13 0 ([([v15, v17], .ex), ([v19], .ex)], .ex) _ h22) (ob (zXj k v3 v7 v11 v21 _ h24) q)))))))))))) h : zA TE (ev TE) 23 [] = some d)
 refine zn g12 (fun h25 g13 => ?_) (fun h25 g13 => ?_)
 ·subst h25
  exact zy (g := zab) g13 (y1 _ _ [] [(23, 1000005, (.nor, zC v3 v7 v11 v21 true))] ob0 (by kernel_rfl))
 ·subst h25
  refine zk g13 (fun v26 h27 g14 => ?_)
  refine zk g14 (fun v28 h29 g15 => ?_)
  refine zk g15 (fun v30 h31 g16 => ?_)
  refine zk g16 (fun v32 h33 g17 => ?_)
  refine zk g17 (fun v34 h35 g18 => ?_)
  refine zk g18 (fun v36 h37 g19 => ?_)
  refine zk g19 (fun v38 h39 g20 => ?_)
  refine zk g20 (fun v40 h41 g21 => ?_)
  have y2 := fun (d : _) (P : List Prop) (V : Ovs) (C : Cuts) (q : All P) h => y1 d _ ([(23, 7, 0, .c (.agg (za v26))), (23, 7, 4, .c (.tup [(dl zw v28.1.1 v28.1.2), (di v28.2)])), (23, 8, 0, .c (.agg (za v30))), (23, 8, 1, .c (.tup [(dl (eL eI) v32.1.1 v32.1.2), (di v32.2)])), (23, 9, 0, .c (.agg (za v34))), (23, 9, 1, .c (.tup [(dl eI v36.1.1 v36.1.2), (di v36.2)])), (23, 10, 0, .c (.agg (za v38))), (23, 10, 1, .c (.tup [(di v40.1), (di v40.2)]))] ++ V) C (ob (zmb k _ h27) (ob (z9s k v26 ([([2, 1], .ex), ([0, 3], .ex)], .ex) _ h29) (ob (zmb k _ h31) (ob (zRq k v30 _ h33) (ob (zmb k _ h35) (ob (zjt k v34 1 _ h37) (ob (zmb k _ h39) (ob (zTr k v38 3 _ h41) q)))))))) h
  refine zn g21 (fun h42 g22 => ?_) (fun h42 g22 => ?_)
  ·have y3 := fun (d : _) (P : List Prop) (V : Ovs) (C : Cuts) (q : All P) h => y2 d _ ([(23, 11, 2, .q (xb true))] ++ V) C (ob (o_b h42) q) h
   refine zn g22 (fun h43 g23 => ?_) (fun h43 g23 => ?_)
   ·have y4 := fun (d : _) (P : List Prop) (V : Ovs) (C : Cuts) (q : All P) h => y3 d _ ([(23, 11, 6, .q (xb true))] ++ V) C (ob (o_b h43) q) h
    refine zn g23 (fun h44 g24 => ?_) (fun h44 g24 => ?_)
    ·refine zn g24 (fun h45 g25 => ?_) (fun h45 g25 => ?_)
     ·refine zk g25 (fun v46 h47 g26 => ?_)
      refine zk g26 (fun v48 h49 g27 => ?_)
      refine zk g27 (fun v50 h51 g28 => ?_)
      refine zk g28 (fun v52 h53 g29 => ?_)
      refine zk g29 (fun v54 h55 g30 => ?_)
      have y5 := fun (d : _) (P : List Prop) (V : Ovs) (C : Cuts) (q : All P) h => y4 d _ ([(23, 11, 10, .q (xb true)), (23, 11, 14, .q (xb true)), (23, 11, 16, .c (.agg [(di v46.Low), (di v46.High)])), (23, 11, 17, .c (.agg [(di v48.Low), (di v48.High)])), (23, 11, 18, .c (.agg [(di v50.Low), (di v50.High)])), (23, 11, 19, .c (.agg [(di v52.Low), (di v52.High)])), (23, 11, 21, .c (db v54))] ++ V) C (ob (o_b h44) (ob (o_b h45) (ob (zbb k 140 252 _ h47) (ob (zbb k 95 188 _ h49) (ob (zbb k 25 48 _ h51) (ob (zbb k 365 654 _ h53) (ob (zij k v28.1 ([v46, v48, v50, v52], .ex) _ h55) q))))))) h
      refine zn g30 (fun h56 g31 => ?_) (fun h56 g31 => ?_)
      ·have y6 := fun (d : _) (P : List Prop) (V : Ovs) (C : Cuts) (q : All P) h => y5 d _ ([(23, 11, 23, .q (xb true)), (23, 11, 25, .q (xi (v32.1.1.length : Int)))] ++ V) C (ob (o_b h56) (ob (zr (eL eI) v32.1.1) q)) h
       refine zn g31 (fun h57 g32 => ?_) (fun h57 g32 => ?_)
       ·refine zk g32 (fun v58 h59 g33 => ?_)
        refine zn g33 (fun h60 g34 => ?_) (fun h60 g34 => ?_)
        ·exact zy (g := zab) g34 (y6 _ _ [(23, 11, 28, .q (xb true)), (23, 11, 31, .c (db v58)), (23, 11, 33, .q (xb true))] [(23, 1000005, (.nor, zC v3 v7 v11 v21 false))] (ob (o_b h57) (ob (z0g k v36.1 ([0], .ex) _ h59) (ob (o_b h60) ob0))) (by kernel_rfl))
        ·exact zy (g := zab) g34 (y6 _ _ [(23, 11, 28, .q (xb true)), (23, 11, 31, .c (db v58)), (23, 11, 33, .q (xb false))] [(23, 1000005, (.nor, zC v3 v7 v11 v21 false))] (ob (o_b h57) (ob (z0g k v36.1 ([0], .ex) _ h59) (ob (o_b h60) ob0))) (by kernel_rfl))
       ·exact zy (g := zab) g32 (y6 _ _ [(23, 11, 28, .q (xb false))] [(23, 1000005, (.nor, zC v3 v7 v11 v21 false))] (ob (o_b h57) ob0) (by kernel_rfl))
      ·exact zy (g := zab) g31 (y5 _ _ [(23, 11, 23, .q (xb false))] [(23, 1000005, (.nor, zC v3 v7 v11 v21 false))] (ob (o_b h56) ob0) (by kernel_rfl))
     ·exact zy (g := zab) g25 (y4 _ _ [(23, 11, 10, .q (xb true)), (23, 11, 14, .q (xb false))] [(23, 1000005, (.nor, zC v3 v7 v11 v21 false))] (ob (o_b h44) (ob (o_b h45) ob0)) (by kernel_rfl))
    ·exact zy (g := zab) g24 (y4 _ _ [(23, 11, 10, .q (xb false))] [(23, 1000005, (.nor, zC v3 v7 v11 v21 false))] (ob (o_b h44) ob0) (by kernel_rfl))
   ·exact zy (g := zab) g23 (y3 _ _ [(23, 11, 6, .q (xb false))] [(23, 1000005, (.nor, zC v3 v7 v11 v21 false))] (ob (o_b h43) ob0) (by kernel_rfl))
  ·exact zy (g := zab) g22 (y2 _ _ [(23, 11, 2, .q (xb false))] [(23, 1000005, (.nor, zC v3 v7 v11 v21 false))] (ob (o_b h42) ob0) (by kernel_rfl))
noncomputable def zzy (p0 : zd) (p1 : (SL (SL zh))) (s1_8 s1_9 : Int) : TM := [(0, (.d (.agg (za p0)))), (1, (.d (dl (eL zi) p1.1 p1.2))), (zsp 2), (4, (xi 0)), (5, (xi s1_8)), (6, (xi s1_9))]
noncomputable def zyl (p0 : zd) (p1 : (SL (SL zh))) (s1_8 s1_9 : Int) : St := ⟨(zzy p0 p1 s1_8 s1_9), ⟨[(zc 2 (za p0))], []⟩, []⟩
noncomputable def zOy (p0 : zd) (p1 : (SL (SL zh))) (r : zt8) : TM := [(0, (.d (.agg (za p0)))), (1, (.d (dl (eL zi) p1.1 p1.2))), (zsp 2), (4, (xi 0)), (5, (xi r.1)), (6, (xi r.2)), (10, (xb false))]
noncomputable def z7d (p0 : zd) (p1 : (SL (SL zh))) (r : zt8) : St := ⟨(zOy p0 p1 r), ⟨[(zc 2 (za p0))], []⟩, []⟩
noncomputable def zul (p0 : zd) (p1 : (SL (SL zh))) : (Int × Int) → Ex × St := fun r => ((.exit 0), z7d p0 p1 r)
theorem zkl (k : Nat) (p0 : zd) (p1 : (SL (SL zh))) (s1_8 s1_9 : Int) (x : (Int × Int) ⊕ (Int × Int)) (h : zLc k p0 p1 s1_8 s1_9 = some x) : zE TE 24 (blk TE 24 0) (fun s : (Int × Int) => zyl p0 p1 s.1 s.2) (zul p0 p1) (s1_8, s1_9) x := by
 unfold zLc at h
 refine zn h (fun h201 g1 => ?_) (fun h201 g1 => ?_)
 ·refine zk g1 (fun v202 h203 g2 => ?_)
  refine zk g2 (fun v204 h205 g3 => ?_)
  refine zk g3 (fun v206 h207 g4 => ?_)
  refine zk g4 (fun v208 h209 g5 => ?_)
  exact zqn ((w64 (s1_8 + (w64 (2 * v208)))), (w64 (s1_9 + 1))) [] [(24, 3, 2, .q (xi (p1.1.length : Int))), (24, 3, 3, .q (xb true)), (24, 5, 5, .q (.d (.pin [(dl zi v202.1 v202.2)]))), (24, 5, 9, .q (.d (.pin [(dl zi v204.1 v204.2)]))), (24, 5, 11, .q (xi (v204.1.length : Int))), (24, 5, 13, .q (.d (.pin [(di v206.Shelf), (di v206.Many)]))), (24, 5, 16, .q (.d (.pin [(di v208)])))] [] g5 (ob (zr (eL zi) p1.1) (ob (o_b h201) (ob (o_ia (e := (eL zi)) 1 h203 rfl) (ob (o_ia (e := (eL zi)) 1 h205 rfl) (ob (zr zi v204.1) (ob (o_ia (e := zi) 2 h207 rfl) (ob (o_ia (e := eI) 1 h209 rfl) ob0))))))) (by kernel_rfl)
 ·exact zqo [(24, 3, 2, .q (xi (p1.1.length : Int))), (24, 3, 3, .q (xb false))] [] g1 (ob (zr (eL zi) p1.1) (ob (o_b h201) ob0)) (by kernel_rfl)
theorem zVh (k : Nat) (p0 : zd) (p1 : (SL (SL zh))) (r : Int) (h : zod k p0 p1 = some r) : zA TE (ev TE) 24 [(.agg (za p0)), (dl (eL zi) p1.1 p1.2)] = some (zki r) := by
 unfold zod at h
 refine zk h (fun v1 h2 g1 => ?_)
 exact zy (g := zki) g1 (zqc [] [(24, 0, (.nor, z7d p0 p1 v1))] (ob (zx (id := 0) (r' := (.nor, z7d p0 p1 v1)) (zCb (zkl k p0 p1) k _ _ h2) rfl) ob0) (by kernel_rfl))
noncomputable def zby (p0 : zd) (p1 : Int) (p2 : (SL (SL zh))) (v1 v3 : zt3) (r : Bool) : TM := [(0, (.d (.agg (za p0)))), (1, (xi p1)), (2, (.d (dl (eL zi) p2.1 p2.2))), (zsp 3), (6, (xb false)), (7, (xb v1.1)), (8, (xi v1.2)), (9, (xb v3.1)), (10, (xi v3.2)), (44, (xb r))]
noncomputable def zG (p0 : zd) (p1 : Int) (p2 : (SL (SL zh))) (v1 v3 : zt3) (r : Bool) : St := ⟨(zby p0 p1 p2 v1 v3 r), ⟨[(zc 3 (za p0))], []⟩, []⟩
noncomputable def z6x (p0 : zd) (p1 : Int) (p2 : (SL (SL zh))) (v1 v3 : zt3) : TM := [(0, (.d (.agg (za p0)))), (1, (xi p1)), (2, (.d (dl (eL zi) p2.1 p2.2))), (zsp 3), (6, (xb false)), (7, (xb v1.1)), (8, (xi v1.2)), (9, (xb v3.1)), (10, (xi v3.2))]
theorem zAi (k : Nat) (p0 : zd) (p1 : Int) (p2 : (SL (SL zh))) (v1 v3 : zt3) (r : Bool) (h : zRb k p0 p1 p2 v1 v3 = some r) : ev TE 3 (rgn TE 3 3) ⟨(z6x p0 p1 p2 v1 v3), ⟨[(zc 3 (za p0))], []⟩, []⟩ = some (.nor, zG p0 p1 p2 v1 v3 r) := by
 unfold zRb at h
 refine zn h (fun h201 g1 => ?_) (fun h201 g1 => ?_)
 ·exact zB (g := fun r => (Ex.nor, zG p0 p1 p2 v1 v3 r)) g1 (zqe [(3, 3, 3, .q (xb true))] [] (ob (o_b h201) ob0) (by kernel_rfl))
 ·refine zn g1 (fun h202 g2 => ?_) (fun h202 g2 => ?_)
  ·exact zB (g := fun r => (Ex.nor, zG p0 p1 p2 v1 v3 r)) g2 (zqe [(3, 3, 3, .q (xb false)), (3, 3, 8, .q (xb true))] [] (ob (o_b h201) (ob (o_b h202) ob0)) (by kernel_rfl))
  ·refine zk g2 (fun v203 h204 g3 => ?_)
   refine zk g3 (fun v205 h206 g4 => ?_)
   exact zB (g := fun r => (Ex.nor, zG p0 p1 p2 v1 v3 r)) g4 (zqe [(3, 3, 3, .q (xb false)), (3, 3, 8, .q (xb false)), (3, 3, 10, .c (di v203)), (3, 3, 12, .c (di v205))] [] (ob (o_b h201) (ob (o_b h202) (ob (zP k p0 _ h204) (ob (zfd k p0 _ h206) ob0)))) (by kernel_rfl))
noncomputable def zQy (p0 : zd) (p1 : Int) (p2 : (SL (SL zh))) (v1 : zt3) (v8 : zt8) (v3 : zt3) (v10 : zt8) (r : Bool) : TM := [(0, (.d (.agg (za p0)))), (1, (xi p1)), (2, (.d (dl (eL zi) p2.1 p2.2))), (zsp 3), (6, (xb false)), (7, (xb v1.1)), (8, (xi v8.2)), (9, (xb v3.1)), (10, (xi v10.2)), (44, (xb false)), (11, (xi v8.1)), (12, (xi v10.1)), (64, (xb r))]
noncomputable def zI (p0 : zd) (p1 : Int) (p2 : (SL (SL zh))) (v1 v3 : zt3) (v8 v10 : zt8) (r : Bool) : St := ⟨(zQy p0 p1 p2 v1 v8 v3 v10 r), ⟨[(zc 3 (za p0))], []⟩, []⟩
noncomputable def zDy (p0 : zd) (p1 : Int) (p2 : (SL (SL zh))) (v1 : zt3) (v8 : zt8) (v3 : zt3) (v10 : zt8) : TM := [(0, (.d (.agg (za p0)))), (1, (xi p1)), (2, (.d (dl (eL zi) p2.1 p2.2))), (zsp 3), (6, (xb false)), (7, (xb v1.1)), (8, (xi v8.2)), (9, (xb v3.1)), (10, (xi v10.2)), (44, (xb false)), (11, (xi v8.1)), (12, (xi v10.1))]
theorem zBi (k : Nat) (p0 : zd) (p1 : Int) (p2 : (SL (SL zh))) (v1 v3 : zt3) (v8 v10 : zt8) (r : Bool) (h : zPb k p0 p1 p2 v1 v3 v8 v10 = some r) : ev TE 3 (rgn TE 3 7) ⟨(zDy p0 p1 p2 v1 v8 v3 v10), ⟨[(zc 3 (za p0))], []⟩, []⟩ = some (.nor, zI p0 p1 p2 v1 v3 v8 v10 r) := by
 unfold zPb at h
 refine zn h (fun h301 g1 => ?_) (fun h301 g1 => ?_)
 ·exact zB (g := fun r => (Ex.nor, zI p0 p1 p2 v1 v3 v8 v10 r)) g1 (zqe [(3, 7, 3, .q (xb true))] [] (ob (o_b h301) ob0) (by kernel_rfl))
 ·exact zB (g := fun r => (Ex.nor, zI p0 p1 p2 v1 v3 v8 v10 r)) g1 (zqe [(3, 7, 3, .q (xb false))] [] (ob (o_b h301) ob0) (by kernel_rfl))
noncomputable def z7x (p0 : zd) (p1 : Int) (p2 : (SL (SL zh))) (v1 : zt3) (v15 : zt15) (v3 : zt3) (v17 : zt15) (v8 v10 : zt8) (r : Bool) : TM := [(0, (.d (.agg (za p0)))), (1, (xi p1)), (2, (.d (dl (eL zi) p2.1 p2.2))), (zsp 3), (6, (xb false)), (7, (xb v1.1)), (8, (xi v15.2)), (9, (xb v3.1)), (10, (xi v17.2)), (44, (xb false)), (11, (xi v8.1)), (12, (xi v10.1)), (64, (xb false)), (zsp 13), (zsp 14), (84, (xb r))]
noncomputable def zN (p0 : zd) (p1 : Int) (p2 : (SL (SL zh))) (v1 v3 : zt3) (v8 v10 : zt8) (v15 v17 : zt15) (r : Bool) : St := ⟨(z7x p0 p1 p2 v1 v15 v3 v17 v8 v10 r), ⟨[(zc 3 (za p0)), (13, (.cells [(xi v15.1.Low), (xi v15.1.High)])), (14, (.cells [(xi v17.1.Low), (xi v17.1.High)]))], []⟩, []⟩
noncomputable def zaz (p0 : zd) (p1 : Int) (p2 : (SL (SL zh))) (v1 : zt3) (v15 : zt15) (v3 : zt3) (v17 : zt15) (v8 v10 : zt8) : TM := [(0, (.d (.agg (za p0)))), (1, (xi p1)), (2, (.d (dl (eL zi) p2.1 p2.2))), (zsp 3), (6, (xb false)), (7, (xb v1.1)), (8, (xi v15.2)), (9, (xb v3.1)), (10, (xi v17.2)), (44, (xb false)), (11, (xi v8.1)), (12, (xi v10.1)), (64, (xb false)), (zsp 13), (zsp 14)]
theorem zCi (k : Nat) (p0 : zd) (p1 : Int) (p2 : (SL (SL zh))) (v1 v3 : zt3) (v8 v10 : zt8) (v15 v17 : zt15) (r : Bool) (h : zOb k p0 p1 p2 v1 v3 v8 v10 v15 v17 = some r) : ev TE 3 (rgn TE 3 11) ⟨(zaz p0 p1 p2 v1 v15 v3 v17 v8 v10), ⟨[(zc 3 (za p0)), (13, (.cells [(xi v15.1.Low), (xi v15.1.High)])), (14, (.cells [(xi v17.1.Low), (xi v17.1.High)]))], []⟩, []⟩ = some (.nor, zN p0 p1 p2 v1 v3 v8 v10 v15 v17 r) := by
 unfold zOb at h
 refine zn h (fun h401 g1 => ?_) (fun h401 g1 => ?_)
 ·exact zB (g := fun r => (Ex.nor, zN p0 p1 p2 v1 v3 v8 v10 v15 v17 r)) g1 (zqe [(3, 11, 3, .q (xb true))] [] (ob (o_b h401) ob0) (by kernel_rfl))
 ·exact zB (g := fun r => (Ex.nor, zN p0 p1 p2 v1 v3 v8 v10 v15 v17 r)) g1 (zqe [(3, 11, 3, .q (xb false))] [] (ob (o_b h401) ob0) (by kernel_rfl))
theorem zSj (k : Nat) (p0 : zd) (p1 : Int) (p2 : (SL (SL zh))) (r : Bool) (h : zMb k p0 p1 p2 = some r) : zA TE (ev TE) 3 [(.agg (za p0)), (di p1), (dl (eL zi) p2.1 p2.2)] = some (zU r) := by
 unfold zMb at h
 refine zk h (fun v1 h2 g1 => ?_)
 refine zk g1 (fun v3 h4 g2 => ?_)
 refine zk g2 (fun v5 h6 g3 => ?_)
 have y1 := fun (d : D) (P : List Prop) (V : Ovs) (C : Cuts) (q : All P) h => (zqc ([(3, 1, 3, .c (.tup [(db v1.1), (di v1.2)])), (3, 2, 3, .c (.tup [(db v3.1), (di v3.2)]))] ++ V) C (ob (zHl k p0 p1 p2 _ h2) (ob (zrg k p0 p1 p2 _ h4) (ob (zAi k p0 p1 p2 v1 v3 _ h6) q))) h : zA TE (ev TE) 3 [(.agg (za p0)), (di p1), (dl (eL zi) p2.1 p2.2)] = some d)
 refine zn g3 (fun h7 g4 => ?_) (fun h7 g4 => ?_)
 ·subst h7
  exact zy (g := zU) g4 (y1 _ _ [] [(3, 1000003, (.nor, zG p0 p1 p2 v1 v3 true))] ob0 (by kernel_rfl))
 ·subst h7
  refine zk g4 (fun v8 h9 g5 => ?_)
  refine zk g5 (fun v10 h11 g6 => ?_)
  refine zk g6 (fun v12 h13 g7 => ?_)
  have y2 := fun (d : _) (P : List Prop) (V : Ovs) (C : Cuts) (q : All P) h => y1 d _ ([(3, 5, 2, .c (.tup [(di v8.1), (di v8.2)])), (3, 6, 2, .c (.tup [(di v10.1), (di v10.2)]))] ++ V) C (ob (zDn k p0 p1 _ h9) (ob (zmm k p0 p1 _ h11) (ob (zBi k p0 p1 p2 v1 v3 v8 v10 _ h13) q))) h
  refine zn g7 (fun h14 g8 => ?_) (fun h14 g8 => ?_)
  ·subst h14
   exact zy (g := zU) g8 (y2 _ _ [] [(3, 1000003, (.nor, zG p0 p1 p2 v1 v3 false)), (3, 1000007, (.nor, zI p0 p1 p2 v1 v3 v8 v10 true))] ob0 (by kernel_rfl))
  ·subst h14
   refine zk g8 (fun v15 h16 g9 => ?_)
   refine zk g9 (fun v17 h18 g10 => ?_)
   refine zk g10 (fun v19 h20 g11 => ?_)
   have y3 := fun (d : _) (P : List Prop) (V : Ovs) (C : Cuts) (q : All P) h => y2 d _ ([(3, 9, 2, .c (.tup [(.agg [(di v15.1.Low), (di v15.1.High)]), (di v15.2)])), (3, 10, 2, .c (.tup [(.agg [(di v17.1.Low), (di v17.1.High)]), (di v17.2)]))] ++ V) C (ob (zFn k p0 p1 _ h16) (ob (zim k p0 p1 _ h18) (ob (zCi k p0 p1 p2 v1 v3 v8 v10 v15 v17 _ h20) q))) h
   refine zn g11 (fun h21 g12 => ?_) (fun h21 g12 => ?_)
   ·subst h21
    exact zy (g := zU) g12 (y3 _ _ [] [(3, 1000003, (.nor, zG p0 p1 p2 v1 v3 false)), (3, 1000007, (.nor, zI p0 p1 p2 v1 v3 v8 v10 false)), (3, 1000011, (.nor, zN p0 p1 p2 v1 v3 v8 v10 v15 v17 true))] ob0 (by kernel_rfl))
   ·subst h21
    refine zk g12 (fun v22 h23 g13 => ?_)
    have y4 := fun (d : _) (P : List Prop) (V : Ovs) (C : Cuts) (q : All P) h => y3 d _ ([(3, 13, 2, .c (.tup [(dl (eL zi) v22.1.1 v22.1.2), (di v22.2)]))] ++ V) C (ob (zGn k p0 p1 _ h23) q) h
    refine zn g13 (fun h24 g14 => ?_) (fun h24 g14 => ?_)
    ·exact zy (g := zU) g14 (y4 _ _ [(3, 14, 2, .q (xb true))] [(3, 1000003, (.nor, zG p0 p1 p2 v1 v3 false)), (3, 1000007, (.nor, zI p0 p1 p2 v1 v3 v8 v10 false)), (3, 1000011, (.nor, zN p0 p1 p2 v1 v3 v8 v10 v15 v17 false))] (ob (o_b h24) ob0) (by kernel_rfl))
    ·refine zn g14 (fun h25 g15 => ?_) (fun h25 g15 => ?_)
     ·refine zn g15 (fun h26 g16 => ?_) (fun h26 g16 => ?_)
      ·refine zk g16 (fun v27 h28 g17 => ?_)
       exact zy (g := zU) g17 (y4 _ _ [(3, 14, 2, .q (xb false)), (3, 16, 1, .q (xb true)), (3, 17, 1, .q (xi (v22.1.1.length : Int))), (3, 17, 3, .q (xb true)), (3, 17, 4, .c (db v27))] [(3, 1000003, (.nor, zG p0 p1 p2 v1 v3 false)), (3, 1000007, (.nor, zI p0 p1 p2 v1 v3 v8 v10 false)), (3, 1000011, (.nor, zN p0 p1 p2 v1 v3 v8 v10 v15 v17 false))] (ob (o_b h24) (ob (o_b h25) (ob (zr (eL zi) v22.1.1) (ob (o_b h26) (ob (z3g k _ h28) ob0))))) (by kernel_rfl))
      ·exact zy (g := zU) g16 (y4 _ _ [(3, 14, 2, .q (xb false)), (3, 16, 1, .q (xb true)), (3, 17, 1, .q (xi (v22.1.1.length : Int))), (3, 17, 3, .q (xb false))] [(3, 1000003, (.nor, zG p0 p1 p2 v1 v3 false)), (3, 1000007, (.nor, zI p0 p1 p2 v1 v3 v8 v10 false)), (3, 1000011, (.nor, zN p0 p1 p2 v1 v3 v8 v10 v15 v17 false))] (ob (o_b h24) (ob (o_b h25) (ob (zr (eL zi) v22.1.1) (ob (o_b h26) ob0)))) (by kernel_rfl))
     ·refine zk g15 (fun v26 h27 g16 => ?_)
      have y5 := fun (d : _) (P : List Prop) (V : Ovs) (C : Cuts) (q : All P) h => y4 d _ ([(3, 14, 2, .q (xb false)), (3, 16, 1, .q (xb false)), (3, 18, 3, .c (.tup [(db v26.1), (di v26.2)]))] ++ V) C (ob (o_b h24) (ob (o_b h25) (ob (zrg k p0 p1 v22.1 _ h27) q))) h
      refine zn g16 (fun h28 g17 => ?_) (fun h28 g17 => ?_)
      ·refine zk g17 (fun v29 h30 g18 => ?_)
       refine zn g18 (fun h31 g19 => ?_) (fun h31 g19 => ?_)
       ·refine zk g19 (fun v32 h33 g20 => ?_)
        exact zy (g := zU) g20 (y5 _ _ [(3, 19, 1, .q (xb true)), (3, 19, 4, .c (di v29)), (3, 19, 8, .q (xb true)), (3, 19, 9, .c (db v32))] [(3, 1000003, (.nor, zG p0 p1 p2 v1 v3 false)), (3, 1000007, (.nor, zI p0 p1 p2 v1 v3 v8 v10 false)), (3, 1000011, (.nor, zN p0 p1 p2 v1 v3 v8 v10 v15 v17 false))] (ob (o_b h28) (ob (zVh k p0 v22.1 _ h30) (ob (o_b h31) (ob (z3g k _ h33) ob0)))) (by kernel_rfl))
       ·exact zy (g := zU) g19 (y5 _ _ [(3, 19, 1, .q (xb true)), (3, 19, 4, .c (di v29)), (3, 19, 8, .q (xb false))] [(3, 1000003, (.nor, zG p0 p1 p2 v1 v3 false)), (3, 1000007, (.nor, zI p0 p1 p2 v1 v3 v8 v10 false)), (3, 1000011, (.nor, zN p0 p1 p2 v1 v3 v8 v10 v15 v17 false))] (ob (o_b h28) (ob (zVh k p0 v22.1 _ h30) (ob (o_b h31) ob0))) (by kernel_rfl))
      ·exact zy (g := zU) g17 (y5 _ _ [(3, 19, 1, .q (xb false))] [(3, 1000003, (.nor, zG p0 p1 p2 v1 v3 false)), (3, 1000007, (.nor, zI p0 p1 p2 v1 v3 v8 v10 false)), (3, 1000011, (.nor, zN p0 p1 p2 v1 v3 v8 v10 v15 v17 false))] (ob (o_b h28) ob0) (by kernel_rfl))
end Go.AM

namespace Go.AM
open Go
def Ok {α : Type} (o : Option α) (Q : α → Prop) : Prop := ∃ a, o = some a ∧ Q a
section
variable {α β : Type}
theorem Ok.pure {a : α} {Q : α → Prop} (h : Q a) : Ok (some a) Q := ⟨a, rfl, h⟩
theorem Ok.bind {o : Option α} {g : α → Option β} {P : α → Prop} {Q : β → Prop} (h : Ok o P) (hg : ∀ a, P a → Ok (g a) Q) : Ok (o.bind g) Q := by
 obtain ⟨a, rfl, ha⟩ := h
 exact hg a ha
theorem Ok.mono {o : Option α} {P Q : α → Prop} (h : Ok o P) (hq : ∀ a, P a → Q a) : Ok o Q := by
 obtain ⟨a, ha, hp⟩ := h
 exact ⟨a, ha, hq a hp⟩
theorem Ok.cond {b : Bool} {x y : Option α} {Q : α → Prop} (ht : b = true → Ok x Q) (hf : b = false → Ok y Q) : Ok (cond b x y) Q := by
 cases b
 ·exact hf rfl
 ·exact ht rfl
theorem Ok.eq {o : Option α} {a : α} (h : Ok o (· = a)) : o = some a := by
 obtain ⟨b, hb, rfl⟩ := h
 exact hb
theorem Ok.imp {o : Option α} {a : α} {Q : α → Prop} (h : Ok o Q) (ho : o = some a) : Q a := by
 obtain ⟨b, hb, hq⟩ := h
 rw [ho] at hb; cases hb; exact hq
theorem Ok.iter {S R : Type} {f : S → Option (S ⊕ R)} {Q : R → Prop} (I : Nat → S → Prop) (n : Nat)
  (h : ∀ j s, j ≤ n → I j s → Ok (f s) (fun x => match x with
   | .inl s' => j < n ∧ I (j + 1) s'
   | .inr r => Q r)) {k : Nat} {s : S} (h0 : I 0 s) (hk : n < k) : Ok (Go.AM.iter f k s) Q := by
 suffices ∀ m j s, j + m = n → I j s → ∀ k, m < k → Ok (Go.AM.iter f k s) Q from this n 0 s (by omega) h0 k hk
 intro m
 induction m with
 | zero =>
  intro j s hj hi k hk
  obtain ⟨k, rfl⟩ : ∃ k', k = k' + 1 := ⟨k - 1, by omega⟩
  obtain ⟨x, hx, hq⟩ := h j s (by omega) hi
  cases x with
  | inl s' => exact absurd hq.1 (by omega)
  | inr r => exact ⟨r, by simp [Go.AM.iter, hx], hq⟩
 | succ m ih =>
  intro j s hj hi k hk
  obtain ⟨k, rfl⟩ : ∃ k', k = k' + 1 := ⟨k - 1, by omega⟩
  obtain ⟨x, hx, hq⟩ := h j s (by omega) hi
  cases x with
  | inl s' =>
   obtain ⟨r, hr, hq'⟩ := ih (j + 1) s' (by omega) hq.2 k (by omega)
   exact ⟨r, by simp [Go.AM.iter, hx, hr], hq'⟩
  | inr r => exact ⟨r, by simp [Go.AM.iter, hx], hq⟩
def Goes {S R : Type} (I : S → Prop) (Q : R → Prop) : S ⊕ R → Prop
 | .inl s => I s
 | .inr r => Q r
theorem Ok.count {S R : Type} {f : S → Option (S ⊕ R)} {Q : R → Prop} (n : Nat) (I : Nat → S → Prop)
  (next : ∀ j s, j < n → I j s → Ok (f s) (Goes (I (j + 1)) Q))
  (last : ∀ s, I n s → Ok (f s) (Goes (fun _ => False) Q)) {k : Nat} {s : S} (h0 : I 0 s) (hk : n < k) : Ok (Go.AM.iter f k s) Q := by
 refine Ok.iter I n (fun j s hj hi => ?_) h0 hk
 by_cases h : j < n
 ·refine (next j s h hi).mono fun x hx => ?_
  cases x with
  | inl s' => exact ⟨h, hx⟩
  | inr r => exact hx
 ·obtain rfl : j = n := by omega
  refine (last s hi).mono fun x hx => ?_
  cases x with
  | inl s' => exact hx.elim
  | inr r => exact hx
end
theorem zeb {n : Int} (h1 : -9223372036854775808 ≤ n) (h2 : n ≤ 9223372036854775807) : w64 n = n := by
 have hd : w64 n = if n % 18446744073709551616 ≥ 9223372036854775808 then n % 18446744073709551616 - 18446744073709551616 else n % 18446744073709551616 := by
  show IntKind.wrap .i64 n = _
  have e : IntKind.wrap .i64 n = if (true && decide (n % 18446744073709551616 ≥ 9223372036854775808)) = true then n % 18446744073709551616 - 18446744073709551616 else n % 18446744073709551616 := rfl
  rw [e]
  simp
 rw [hd]
 split <;> omega
theorem zPu {α : Type} {l : List α} {i : Int} (h0 : 0 ≤ i) (h : i.toNat < l.length) : idx l i = some l[i.toNat] := by
 simp [idx, h0, List.getElem?_eq_getElem h]
theorem zLb {α : Type} {l : List α} {i : Nat} (h : i < l.length) : idx l (i : Int) = some l[i] := by
 simp [idx, List.getElem?_eq_getElem h]
theorem Ok.idx {α : Type} {l : List α} {i : Int} (h0 : 0 ≤ i) (h : i < l.length) : Ok (Go.AM.idx l i) (fun x => l[i.toNat]? = some x) :=
 ⟨l[i.toNat]'(by omega), zPu h0 (by omega), List.getElem?_eq_getElem (by omega)⟩
open Classical in
theorem zEs {κ ν : Type} {q : κ → κ → Bool} (hq : ∀ a b, q a b = true ↔ a = b) (k k' : κ) (v : ν) : ∀ m, zX q k' (mset q k v m) = if k' = k then some v else zX q k' m
 | [] => by
  simp only [mset, zX]
  by_cases h : k' = k
  ·rw [(hq k' k).2 h, if_pos h]; rfl
  ·have : q k' k = false := by cases hb : q k' k; rfl; exact absurd ((hq _ _).1 hb) h
   rw [this, if_neg h]; rfl
 | p :: t => by
  have ih := zEs hq k k' v t
  simp only [mset]
  cases hk : q k p.1 with
  | true =>
   have hk' := (hq _ _).1 hk
   simp only [cond_true, zX]
   by_cases h : k' = k
   ·rw [if_pos h, h, hk]; rfl
   ·have : q k' p.1 = false := by cases hb : q k' p.1; rfl; exact absurd ((hq _ _).1 hb) (by rw [← hk']; exact h)
    rw [this, if_neg h]; rfl
  | false =>
   simp only [cond_false, zX]
   cases hp : q k' p.1 with
   | true =>
    by_cases h : k' = k
    ·rw [h, hk] at hp; cases hp
    ·rw [if_neg h]; rfl
   | false => exact ih
end Go.AM
set_option linter.unusedVariables false
namespace Go.AM
open Go
theorem z3d (c x : Bool) : cond c (some x) (some false) = some (c && x) := by cases c <;> rfl
theorem zGb {j n : Nat} (h : j < n) (hn : n < 9223372036854775808) : w64 ((j : Int) + 1) = ((j + 1 : Nat) : Int) := by
 rw [zeb (by omega) (by omega)]; push_cast; rfl
theorem zVf {n : Nat} (hn : n < 9223372036854775808) : w64 ((n : Int) - 1) = (n : Int) - 1 := zeb (by omega) (by omega)
theorem zuc {α : Type} {j : Nat} {l : List α} (h : j < l.length) : decide ((j : Int) < (l.length : Int)) = true := by simp; omega
theorem zpd {α : Type} {l : List α} : decide ((l.length : Int) < (l.length : Int)) = false := by simp
theorem Ok.everyI {α : Type} {f : Bool × Int → Option ((Bool × Int) ⊕ (Bool × Int))} (l : List α) (p : Nat → α → Prop)
  (next : ∀ acc (j : Nat) (h : j < l.length), Ok (f (acc, (j : Int))) (fun x => ∃ r, x = .inl (r, ((j + 1 : Nat) : Int)) ∧ (r = true ↔ acc = true ∧ p j l[j])))
  (last : ∀ acc, f (acc, (l.length : Int)) = some (.inr (acc, (l.length : Int)))) {k : Nat} {acc : Bool} (hk : l.length < k) :
  Ok (Go.AM.iter f k (acc, 0)) (fun r => r.1 = true ↔ acc = true ∧ ∀ j (h : j < l.length), p j l[j]) := by
 refine Ok.count l.length (fun j s => s.2 = (j : Int) ∧ (s.1 = true ↔ acc = true ∧ ∀ i (h : i < l.length), i < j → p i l[i])) ?_ ?_ ⟨rfl, by simp⟩ hk
 ·rintro j ⟨a, i⟩ hj ⟨hi, ha⟩
  obtain rfl : i = (j : Int) := hi
  refine (next a j hj).mono ?_
  rintro x ⟨r, rfl, hr⟩
  refine ⟨rfl, hr.trans ?_⟩
  rw [ha]
  constructor
  ·rintro ⟨⟨h1, h2⟩, h3⟩
   refine ⟨h1, fun i h hij => ?_⟩
   by_cases e : i = j
   ·subst e; exact h3
   ·exact h2 i h (by omega)
  ·rintro ⟨h1, h2⟩
   exact ⟨⟨h1, fun i h hij => h2 i h (by omega)⟩, h2 j hj (by omega)⟩
 ·rintro ⟨a, i⟩ ⟨hi, ha⟩
  obtain rfl : i = (l.length : Int) := hi
  rw [last a]
  refine Ok.pure ?_
  show a = true ↔ _
  rw [ha]
  exact ⟨fun h => ⟨h.1, fun i hi => h.2 i hi hi⟩, fun h => ⟨h.1, fun i hi _ => h.2 i hi⟩⟩
def ex (f : Nat → Nat) : Nat → List Nat
 | 0 => []
 | m + 1 => List.replicate (f m) m ++ ex f m
def hi (f : Nat → Nat) (m : Nat) : Nat → List Nat
 | 0 => []
 | d + 1 => List.replicate (f (m + d)) (m + d) ++ hi f m d
theorem zMs (f : Nat → Nat) (m : Nat) : ∀ d, hi f m (d + 1) = hi f (m + 1) d ++ List.replicate (f m) m
 | 0 => by simp [hi]
 | d + 1 => by
  have ih := zMs f m d
  rw [hi, ih, hi]
  have : m + 1 + d = m + (d + 1) := by omega
  rw [this, List.append_assoc]
theorem z5o {f g : Nat → Nat} {m : Nat} : ∀ {d}, (∀ j, m ≤ j → j < m + d → f j = g j) → hi f m d = hi g m d
 | 0, _ => rfl
 | d + 1, h => by
  rw [hi, hi, h (m + d) (by omega) (by omega), z5o fun j h1 h2 => h j h1 (by omega)]
theorem zqs {f g : Nat → Nat} : ∀ {n}, (∀ j, j < n → f j = g j) → ex f n = ex g n
 | 0, _ => rfl
 | n + 1, h => by rw [ex, ex, h n (by omega), zqs fun j hj => h j (by omega)]
theorem zEt (f : Nat → Nat) : ∀ n, hi f 0 n = ex f n
 | 0 => rfl
 | n + 1 => by rw [hi, ex, zEt f n]; simp
theorem z7n {f : Nat → Nat} : ∀ {n}, ex f n = [] ↔ ∀ j, j < n → f j = 0
 | 0 => by simp [ex]
 | n + 1 => by
  rw [ex, List.append_eq_nil_iff, z7n, List.replicate_eq_nil_iff]
  constructor
  ·rintro ⟨h1, h2⟩ j hj
   by_cases e : j = n
   ·rw [e]; exact h1
   ·exact h2 j (by omega)
  ·intro h
   exact ⟨h n (by omega), fun j hj => h j (by omega)⟩
theorem z2u {f : Nat → Nat} {x : Nat} : ∀ {n}, x ∈ ex f n → x < n ∧ 0 < f x
 | 0, h => by simp [ex] at h
 | n + 1, h => by
  rw [ex, List.mem_append, List.mem_replicate] at h
  rcases h with ⟨h1, rfl⟩ | h
  ·exact ⟨by omega, by omega⟩
  ·have := z2u h
   exact ⟨by omega, this.2⟩
theorem zUl {f : Nat → Nat} {b : Nat} : ∀ {n}, (∀ j, j < n → f j ≤ b) → (ex f n).length ≤ b * n
 | 0, _ => by simp [ex]
 | n + 1, h => by
  have := zUl (n := n) fun j hj => h j (by omega)
  have := h n (by omega)
  rw [ex, List.length_append, List.length_replicate, Nat.mul_succ]
  omega
theorem z7v (r c m : Nat) (t : List Nat) : (List.replicate c m ++ t).drop r = List.replicate (c - r) m ++ t.drop (r - c) := by
 rw [List.drop_append, List.drop_replicate, List.length_replicate]
theorem zvw (r c m : Nat) (t : List Nat) : (List.replicate c m ++ t).take r = List.replicate (min r c) m ++ t.take (r - c) := by
 rw [List.take_append, List.take_replicate, List.length_replicate]
def topF (b : Nat → Nat) (far : Nat → Int) : Nat → Int
 | 0 => 0
 | j + 1 => if 0 < b j then far j else topF b far j
theorem zUq {b : Nat → Nat} {far : Nat → Int} {x : Nat} {t : List Nat} : ∀ {n}, ex b n = x :: t → topF b far n = far x
 | 0, h => by simp [ex] at h
 | n + 1, h => by
  rw [ex] at h
  rw [topF]
  by_cases hb : 0 < b n
  ·rw [if_pos hb]
   obtain ⟨c, hc⟩ : ∃ c, b n = c + 1 := ⟨b n - 1, by omega⟩
   rw [hc, List.replicate_succ, List.cons_append] at h
   injection h with h1 h2
   rw [h1]
  ·rw [if_neg hb]
   have : b n = 0 := by omega
   rw [this] at h
   exact zUq (by simpa using h)
def wk (C : Nat) (far : Nat → Int) : Nat → List Nat → Int
 | _, [] => 0
 | 0, x :: t => 2 * far x + wk C far (C - 1) t
 | r + 1, _ :: t => wk C far r t
theorem zIt (C : Nat) (far : Nat → Int) : ∀ (r : Nat) (l : List Nat), wk C far r l = wk C far 0 (l.drop r)
 | 0, _ => by simp
 | r + 1, [] => by simp [wk]
 | r + 1, x :: t => by rw [wk, List.drop_succ_cons, zIt C far r t]
theorem zTt {C : Nat} (hC : 0 < C) (far : Nat → Int) (x : Nat) (t : List Nat) : wk C far 0 (x :: t) = 2 * far x + wk C far 0 ((x :: t).drop C) := by
 rw [wk, zIt C far (C - 1) t]
 obtain ⟨c, rfl⟩ : ∃ c, C = c + 1 := ⟨C - 1, by omega⟩
 simp
theorem zlk {C : Nat} {far : Nat → Int} {b : Int} (hb : 0 ≤ b) : ∀ (l : List Nat) (r : Nat), (∀ x ∈ l, 0 ≤ far x ∧ far x ≤ b) → 0 ≤ wk C far r l ∧ wk C far r l ≤ 2 * b * l.length
 | [], r, _ => by cases r <;> simp [wk]
 | x :: t, 0, h => by
  have := zlk (C := C) hb t (C - 1) fun y hy => h y (by simp [hy])
  have hx := h x (by simp)
  rw [wk, List.length_cons]
  push_cast
  rw [Int.mul_add]
  omega
 | x :: t, r + 1, h => by
  have := zlk (C := C) hb t r fun y hy => h y (by simp [hy])
  rw [wk, List.length_cons]
  push_cast
  rw [Int.mul_add]
  omega
end Go.AM
set_option linter.unusedVariables false
namespace Go.AM
open Go
abbrev nF (f : zd) : Nat := f.Far.1.length
abbrev nS (f : zd) : Nat := f.Slips.1.length
def fr (f : zd) (i : Nat) : Int := (f.Far.1[i]?).getD 0
theorem zGy {f : zd} {i : Nat} (h : i < nF f) : f.Far.1[i] = fr f i := by
 unfold fr
 rw [List.getElem?_eq_getElem h]; rfl
theorem zVm {f : zd} {i : Nat} (h : i < nF f) : idx f.Far.1 (i : Int) = some (fr f i) := by rw [zLb h, zGy h]
def frB (f : zd) : Nat → Int
 | 0 => 0
 | i + 1 => fr f i
def sh (l : List zh) (i : Nat) : Int := ((l[i]?).map (·.Shelf)).getD 0
def shB (l : List zh) : Nat → Int
 | 0 => -1
 | i + 1 => sh l i
theorem zPg {l : List zh} {i : Nat} (h : i < l.length) : l[i].Shelf = sh l i := by
 unfold sh
 rw [List.getElem?_eq_getElem h]; rfl
def zNb (lo hi : Int) (s : zp) : Prop := lo ≤ s.Low ∧ s.Low ≤ s.High ∧ s.High ≤ hi
def zM (n : Nat) (l : List zh) : Prop := ∀ j (h : j < l.length), (shB l j + 1 ≤ l[j].Shelf ∧ l[j].Shelf ≤ (n : Int) - 1) ∧ (1 ≤ l[j].Many ∧ l[j].Many ≤ 20)
def zCd (n : Nat) (s : zl) : Prop := ((0 ≤ s.Until ∧ s.Until ≤ 100000) ∧ 0 < s.Lines.1.length) ∧ zM n s.Lines.1
structure Fine (f : zd) : Prop where
 nfar : 1 ≤ nF f ∧ nF f ≤ 12
 npick : f.Pick.1.length = nF f
 step : zNb 1 10 f.Step
 carry : 1 ≤ f.Carry ∧ f.Carry ≤ 20
 nslips : nS f ≤ 9
 far : ∀ i, i < nF f → frB f i ≤ fr f i ∧ fr f i ≤ 500
 pick : ∀ i (h : i < f.Pick.1.length), zNb 0 300 f.Pick.1[i]
 slips : ∀ i (h : i < nS f), zCd (nF f) f.Slips.1[i]
structure zec (f : zd) : Prop where
 far : nF f < 9223372036854775808
 pick : f.Pick.1.length < 9223372036854775808
 slips : nS f < 9223372036854775808
 lines : ∀ s ∈ f.Slips.1, s.Lines.1.length < 9223372036854775808
structure Fuel (k : Nat) (f : zd) : Prop where
 k0 : 5000 < k
 far : nF f < k
 pick : f.Pick.1.length < k
 slips : nS f < k
 lines : ∀ s ∈ f.Slips.1, s.Lines.1.length < k
theorem zsg (k : Nat) (a b c : Int) : ztb k a b c = some (decide (b ≤ a) && decide (a ≤ c)) := by
 simp only [ztb, z3d]
theorem zph (k : Nat) (a b c : Int) : z7 k a b c = some (decide (b ≤ a) && decide (a ≤ c)) := by
 simp only [z7, z3d]
theorem zrr (k : Nat) (s : zp) (a b : Int) : zXf k s a b = some (decide (a ≤ s.Low) && (decide (s.Low ≤ s.High) && decide (s.High ≤ b))) := by
 simp only [zXf, z3d]
theorem zEr (k : Nat) (s : zp) (a b : Int) : zdc k s a b = some (decide (a ≤ s.Low) && (decide (s.Low ≤ s.High) && decide (s.High ≤ b))) := by
 simp only [zdc, z3d]
theorem zBw (k : Nat) (f : zd) : Ok (zSf k f) (fun r => r = true ↔ (1 ≤ nF f ∧ nF f ≤ 12) ∧ f.Pick.1.length = nF f ∧ zNb 1 10 f.Step ∧ (1 ≤ f.Carry ∧ f.Carry ≤ 20) ∧ nS f ≤ 9) := by
 simp only [zSf, zsg, zrr, Option.bind_some, z3d]
 refine Ok.pure ?_
 simp only [Bool.and_eq_true, decide_eq_true_eq, beq_iff_eq, nF, nS, zNb]
 omega
theorem z6v {k : Nat} {f : zd} (hs : zec f) (hk : Fuel k f) (acc : Bool) : Ok (iter (fun s => zpe k f s.1 s.2.1 s.2.2) k (acc, 0, 0)) (fun r => r.1 = true ↔ acc = true ∧ ∀ i, i < nF f → frB f i ≤ fr f i ∧ fr f i ≤ 500) := by
 refine Ok.count (nF f) (fun j s => s.2.2 = (j : Int) ∧ s.2.1 = frB f j ∧ (s.1 = true ↔ acc = true ∧ ∀ i, i < j → frB f i ≤ fr f i ∧ fr f i ≤ 500)) ?_ ?_ ⟨rfl, rfl, by simp⟩ hk.far
 ·rintro j ⟨a, d, i⟩ hj ⟨hi, hd, ha⟩
  obtain rfl : i = (j : Int) := hi
  obtain rfl : d = frB f j := hd
  simp only [zpe, zhh, zuc hj, cond_true, zVm hj, zsg, Option.bind_some, z3d, zGb hj hs.far]
  refine Ok.pure ⟨rfl, rfl, ?_⟩
  simp only [Bool.and_eq_true, decide_eq_true_eq]
  have ha' : a = true ↔ acc = true ∧ ∀ i, i < j → frB f i ≤ fr f i ∧ fr f i ≤ 500 := ha
  rw [ha']
  constructor
  ·rintro ⟨⟨h1, h2⟩, h3⟩
   refine ⟨h1, fun i hij => ?_⟩
   by_cases e : i = j
   ·subst e; exact h3
   ·exact h2 i (by omega)
  ·rintro ⟨h1, h2⟩
   exact ⟨⟨h1, fun i hij => h2 i (by omega)⟩, h2 j (by omega)⟩
 ·rintro ⟨a, d, i⟩ ⟨hi, hd, ha⟩
  obtain rfl : i = (nF f : Int) := hi
  simp only [zpe, zpd, cond_false]
  exact Ok.pure ha
theorem zpw {k : Nat} {f : zd} (hs : zec f) (hk : Fuel k f) (v : Bool × Int × Int) (acc : Bool) : Ok (iter (fun s => zme k f v s.1 s.2) k (acc, 0)) (fun r => r.1 = true ↔ acc = true ∧ ∀ i (h : i < f.Pick.1.length), zNb 0 300 f.Pick.1[i]) := by
 refine Ok.everyI f.Pick.1 (fun _ s => zNb 0 300 s) (fun a j hj => ?_) (fun a => by simp [zme]) hk.pick
 simp only [zme, zfh, zuc hj, cond_true, zLb hj, zrr, Option.bind_some, z3d]
 refine Ok.pure ⟨_, by rw [zGb hj hs.pick], ?_⟩
 simp only [Bool.and_eq_true, decide_eq_true_eq, zNb]
theorem zmo {l : List zh} : ∀ {j}, j ≤ l.length → (∀ i (h : i < l.length), i < j → shB l i + 1 ≤ l[i].Shelf) → -1 ≤ shB l j
 | 0, _, _ => by simp [shB]
 | j + 1, hj, h => by
  have ih := zmo (j := j) (by omega) fun i hi hij => h i hi (by omega)
  have := h j (by omega) (by omega)
  rw [zPg (by omega)] at this
  simp only [shB]
  omega
theorem zrp {n : Nat} {l : List zh} (h : zM n l) : ∀ i, i < l.length → (i : Int) ≤ sh l i
 | 0, hi => by
  have := (h 0 hi).1.1
  rw [zPg hi] at this
  simpa [shB] using this
 | i + 1, hi => by
  have ih := zrp h i (by omega)
  have := (h (i + 1) hi).1.1
  rw [zPg hi] at this
  simp only [shB] at this
  push_cast
  omega
theorem zPc {n : Nat} {l : List zh} (h : zM n l) : l.length ≤ n := by
 cases hl : l.length with
 | zero => omega
 | succ m =>
  have h1 := zrp h m (by omega)
  have h2 := (h m (by omega)).1.2
  rw [zPg (by omega)] at h2
  omega
theorem zqv {k : Nat} {f : zd} (hs : zec f) (v3 : Bool × Int × Int) (v5 : Bool × Int) (i0 : Int) (s : zl) (hl : s.Lines.1.length < 9223372036854775808) (hlk : s.Lines.1.length < k) (acc : Bool) (hn : acc = true → nF f ≤ 12) :
  Ok (iter (fun t => zZd k f v3 v5 i0 s t.1 t.2.1 t.2.2) k (acc, (-1), 0)) (fun r => r.1 = true ↔ acc = true ∧ zM (nF f) s.Lines.1) := by
 let P := fun i (h : i < s.Lines.1.length) => (shB s.Lines.1 i + 1 ≤ s.Lines.1[i].Shelf ∧ s.Lines.1[i].Shelf ≤ (nF f : Int) - 1) ∧ (1 ≤ s.Lines.1[i].Many ∧ s.Lines.1[i].Many ≤ 20)
 refine Ok.count s.Lines.1.length (fun j t => t.2.2 = (j : Int) ∧ t.2.1 = shB s.Lines.1 j ∧ (t.1 = true ↔ acc = true ∧ ∀ i (h : i < s.Lines.1.length), i < j → P i h)) ?_ ?_ ⟨rfl, rfl, by simp⟩ hlk
 ·rintro j ⟨a, d, i⟩ hj ⟨hi, hd, ha⟩
  obtain rfl : i = (j : Int) := hi
  obtain rfl : d = shB s.Lines.1 j := hd
  simp only [zZd, zQg, zuc hj, cond_true, zLb hj, zsg, Option.bind_some, z3d, zGb hj hl, zVf hs.far]
  refine Ok.pure ⟨rfl, by rw [zPg hj]; rfl, ?_⟩
  simp only [Bool.and_eq_true, decide_eq_true_eq]
  cases a with
  | false =>
   constructor
   ·rintro ⟨h, _⟩; cases h
   ·rintro ⟨h1, h2⟩
    exact absurd (ha.2 ⟨h1, fun i h hij => h2 i h (by omega)⟩) (by simp)
  | true =>
   obtain ⟨h1, h2⟩ := ha.1 rfl
   have hw : w64 (shB s.Lines.1 j + 1) = shB s.Lines.1 j + 1 := by
    have hlow := zmo (l := s.Lines.1) (j := j) (by omega) fun i hi hij => (h2 i hi hij).1.1
    have hn := hn h1
    have hup : shB s.Lines.1 j ≤ 12 := by
     cases j with
     | zero => simp [shB]
     | succ j =>
      have := (h2 j (by omega) (by omega)).1.2
      rw [zPg (by omega)] at this
      simp only [shB]
      have : ((nF f : Nat) : Int) ≤ 12 := by exact_mod_cast hn
      omega
    exact zeb (by omega) (by omega)
   rw [hw]
   constructor
   ·rintro ⟨_, h3⟩
    refine ⟨h1, fun i h hij => ?_⟩
    by_cases e : i = j
    ·subst e; exact h3
    ·exact h2 i h (by omega)
   ·rintro ⟨_, h3⟩
    exact ⟨rfl, h3 j hj (by omega)⟩
 ·rintro ⟨a, d, i⟩ ⟨hi, hd, ha⟩
  obtain rfl : i = (s.Lines.1.length : Int) := hi
  simp only [zZd, zpd, cond_false]
  refine Ok.pure ?_
  show a = true ↔ _
  have ha' : a = true ↔ acc = true ∧ ∀ i (h : i < s.Lines.1.length), i < s.Lines.1.length → P i h := ha
  rw [ha']
  exact ⟨fun h => ⟨h.1, fun i hi => h.2 i hi hi⟩, fun h => ⟨h.1, fun i hi _ => h.2 i hi⟩⟩
theorem zTv {k : Nat} {f : zd} (hs : zec f) (hk : Fuel k f) (v3 : Bool × Int × Int) (v5 : Bool × Int) (acc : Bool) (hn : acc = true → nF f ≤ 12) : Ok (iter (fun s => zle k f v3 v5 s.1 s.2) k (acc, 0)) (fun r => r.1 = true ↔ acc = true ∧ ∀ i (h : i < nS f), zCd (nF f) f.Slips.1[i]) := by
 refine Ok.count (nS f) (fun j s => s.2 = (j : Int) ∧ (s.1 = true ↔ acc = true ∧ ∀ i (h : i < nS f), i < j → zCd (nF f) f.Slips.1[i])) ?_ ?_ ⟨rfl, by simp⟩ hk.slips
 ·rintro j ⟨a, i⟩ hj ⟨hi, ha⟩
  obtain rfl : i = (j : Int) := hi
  have hm := List.getElem_mem hj
  simp only [zle, zMg, zuc hj, cond_true, zLb hj, zsg, Option.bind_some, z3d]
  refine Ok.bind (zqv hs v3 v5 _ _ (hs.lines _ hm) (hk.lines _ hm) _ fun h => ?_) fun r hr => ?_
  ·simp only [Bool.and_eq_true] at h
   exact hn (ha.1 h.1).1
  ·refine Ok.pure ⟨by rw [zGb hj hs.slips], ?_⟩
   show r.1 = true ↔ _
   rw [hr]
   simp only [Bool.and_eq_true, decide_eq_true_eq]
   have ha' : a = true ↔ acc = true ∧ ∀ i (h : i < nS f), i < j → zCd (nF f) f.Slips.1[i] := ha
   rw [ha']
   constructor
   ·rintro ⟨⟨⟨h1, h5⟩, h2, h3⟩, h4⟩
    refine ⟨h1, fun i h hij => ?_⟩
    by_cases e : i = j
    ·subst e; exact ⟨⟨h2, by omega⟩, h4⟩
    ·exact h5 i h (by omega)
   ·rintro ⟨h1, h2⟩
    obtain ⟨⟨h3, h4⟩, h5⟩ := h2 j hj (by omega)
    exact ⟨⟨⟨h1, fun i h hij => h2 i h (by omega)⟩, h3, by omega⟩, h5⟩
 ·rintro ⟨a, i⟩ ⟨hi, ha⟩
  obtain rfl : i = (nS f : Int) := hi
  simp only [zle, zpd, cond_false]
  refine Ok.pure ?_
  show a = true ↔ _
  have ha' : a = true ↔ acc = true ∧ ∀ i (h : i < nS f), i < nS f → zCd (nF f) f.Slips.1[i] := ha
  rw [ha']
  exact ⟨fun h => ⟨h.1, fun i hi => h.2 i hi hi⟩, fun h => ⟨h.1, fun i hi _ => h.2 i hi⟩⟩
open Classical in
theorem zth {k : Nat} {f : zd} (hs : zec f) (hk : Fuel k f) : Ok (zcc k f) (fun r => r = if Fine f then 0 else 30) := by
 unfold zcc
 refine Ok.bind (zBw k f) fun v1 h1 => ?_
 refine Ok.bind (z6v hs hk v1) fun v3 h3 => ?_
 refine Ok.bind (zpw hs hk v3 v3.1) fun v5 h5 => ?_
 refine Ok.bind (zTv hs hk v3 v5 v5.1 fun h => ?_) fun v7 h7 => ?_
 ·exact (h1.1 (h3.1 (h5.1 h).1).1).1.2
 have fin : v7.1 = true ↔ Fine f := by
  rw [h7, h5, h3, h1]
  exact ⟨fun h => ⟨h.1.1.1.1, h.1.1.1.2.1, h.1.1.1.2.2.1, h.1.1.1.2.2.2.1, h.1.1.1.2.2.2.2, h.1.1.2, h.1.2, h.2⟩, fun h => ⟨⟨⟨⟨h.nfar, h.npick, h.step, h.carry, h.nslips⟩, h.far⟩, h.pick⟩, h.slips⟩⟩
 refine Ok.cond (fun hb => Ok.pure ?_) (fun hb => Ok.pure ?_)
 ·rw [if_neg]
  intro hF
  rw [fin.2 hF] at hb
  cases hb
 ·rw [if_pos (fin.1 (by simpa using hb))]
theorem zuv {f : zd} (h : Fine f) : ∀ i, i < nF f → 0 ≤ fr f i
 | 0, hi => by have := (h.far 0 hi).1; simpa [frB] using this
 | i + 1, hi => by
  have := (h.far (i + 1) hi).1
  have ih := zuv h i (by omega)
  simp only [frB] at this
  omega
end Go.AM
set_option linter.unusedVariables false
namespace Go.AM
open Go
theorem zbk (f g : Nat → Int) : ∀ n i, eqI f g i n = true ↔ ∀ j, i ≤ j → j < i + n → f j = g j
 | 0, i => by simp [eqI]; omega
 | n + 1, i => by
  simp only [eqI, Bool.and_eq_true, zbk f g n (i + 1), beq_iff_eq]
  constructor
  ·rintro ⟨h0, h⟩ j h1 h2
   by_cases hj : j = i
   ·rw [hj]; exact h0
   ·exact h j (by omega) (by omega)
  ·intro h
   exact ⟨h i (by omega) (by omega), fun j h1 h2 => h j (by omega) (by omega)⟩
def put1 (g : Nat → Nat) (x : zh) : Nat → Nat := fun j => if j = x.Shelf.toNat then x.Many.toNat else g j
def pc (l : List zh) : Nat → Nat := l.foldl put1 fun _ => 0
theorem zjo (l : List zh) (x : zh) : pc (l ++ [x]) = put1 (pc l) x := by simp [pc]
def slp (f : zd) (i : Nat) : zl := (f.Slips.1[i]?).getD ⟨([], .nil), 0⟩
theorem zNn {f : zd} {i : Nat} (h : i < nS f) : f.Slips.1[i] = slp f i := by
 unfold slp
 rw [List.getElem?_eq_getElem h]; rfl
theorem zak {f : zd} {i : Nat} (h : i < nS f) : idx f.Slips.1 (i : Int) = some (slp f i) := by rw [zLb h, zNn h]
theorem z9c {f : zd} (hF : Fine f) {i : Nat} (h : i < nS f) : zCd (nF f) (slp f i) := by
 have := hF.slips i h
 rwa [zNn h] at this
abbrev lns (f : zd) (i : Nat) : List zh := (slp f i).Lines.1
theorem zne {n : Nat} {l : List zh} (h : zM n l) {i : Nat} (hi : i < l.length) : 0 ≤ l[i].Shelf ∧ l[i].Shelf < n := by
 have h1 := zrp h i hi
 rw [← zPg hi] at h1
 have := (h i hi).1.2
 omega
theorem zCm {n : Nat} {l : List zh} (h : zM n l) : (∀ j, pc l j ≤ 20) ∧ ∀ j, n ≤ j → pc l j = 0 := by
 have key : ∀ m, m ≤ l.length → (∀ j, pc (l.take m) j ≤ 20) ∧ ∀ j, n ≤ j → pc (l.take m) j = 0 := by
  intro m
  induction m with
  | zero => intro _; simp [pc]
  | succ m ih =>
   intro hm
   obtain ⟨h1, h2⟩ := ih (by omega)
   rw [List.take_succ_eq_append_getElem (by omega), zjo]
   have hl := h m (by omega)
   have hs := zne h (i := m) (by omega)
   refine ⟨fun j => ?_, fun j hj => ?_⟩
   ·unfold put1
    split
    ·omega
    ·exact h1 j
   ·unfold put1
    rw [if_neg (by omega)]
    exact h2 j hj
 have := key l.length (Nat.le_refl _)
 rwa [List.take_length] at this
theorem z3n {k : Nat} {f : zd} (hs : zec f) (hk : Fuel k f) (hF : Fine f) {i : Nat} (hi : i < nS f) : Ok (zlc k ⟨f⟩ (i : Int)) (fun g => ∀ j, g j = ((pc (lns f i) j : Nat) : Int)) := by
 unfold zlc
 have hm := List.getElem_mem hi
 rw [zNn hi] at hm
 have hfine := z9c hF hi
 simp only [zak hi, Option.bind_some]
 refine Ok.bind (P := fun v : Int × (Nat → Int) => ∀ j, v.2 j = ((pc (lns f i) j : Nat) : Int)) ?_ fun v hv => Ok.pure hv
 refine Ok.count (lns f i).length (fun j s => s.1 = (j : Int) ∧ ∀ t, s.2 t = ((pc ((lns f i).take j) t : Nat) : Int)) ?_ ?_ ⟨rfl, by simp [pc]⟩ (hk.lines _ hm)
 ·rintro j ⟨a, g⟩ hj ⟨ha, hg⟩
  obtain rfl : a = (j : Int) := ha
  have hl : (shB (lns f i) j + 1 ≤ (lns f i)[j].Shelf ∧ _) ∧ (1 ≤ (lns f i)[j].Many ∧ (lns f i)[j].Many ≤ 20) := hfine.2 j hj
  have hsh : 0 ≤ (lns f i)[j].Shelf ∧ (lns f i)[j].Shelf < nF f := zne hfine.2 hj
  have hn := hF.nfar.2
  simp only [zSc, zuc hj, cond_true, zLb hj, Option.bind_some]
  have e : (decide (0 ≤ (lns f i)[j].Shelf) && decide ((lns f i)[j].Shelf < 12)) = true := by
   simp only [Bool.and_eq_true, decide_eq_true_eq]; omega
  rw [e, cond_true]
  refine Ok.pure ⟨zGb hj (hs.lines _ hm), fun t => ?_⟩
  rw [List.take_succ_eq_append_getElem hj, zjo]
  simp only [upd, put1]
  have hg' := hg t
  simp only at hg'
  split
  ·omega
  ·exact hg'
 ·rintro ⟨a, g⟩ ⟨ha, hg⟩
  obtain rfl : a = ((lns f i).length : Int) := ha
  simp only [zSc, zpd, cond_false]
  refine Ok.pure fun t => ?_
  have := hg t
  rwa [List.take_length] at this
def zO (f : zd) (i : Nat) : Int := wk f.Carry.toNat (fr f) 0 (ex (pc (lns f i)) (nF f))
theorem zat {f : zd} (hF : Fine f) {i : Nat} (h : i < nF f) : 0 ≤ fr f i ∧ fr f i ≤ 500 := ⟨zuv hF i h, (hF.far i h).2⟩
theorem zeq {f : zd} (hF : Fine f) {g : Nat → Nat} : ∀ x ∈ ex g (nF f), 0 ≤ fr f x ∧ fr f x ≤ 500 := fun x hx => zat hF (z2u hx).1
theorem z6h {f : zd} (hF : Fine f) {i : Nat} (hi : i < nS f) : 0 ≤ zO f i ∧ zO f i ≤ 240000 := by
 have h1 := zCm (z9c hF hi).2
 have h2 := zUl (f := pc (lns f i)) (b := 20) (n := nF f) fun j _ => h1.1 j
 have h3 := zlk (C := f.Carry.toNat) (b := 500) (by omega) (ex (pc (lns f i)) (nF f)) 0 (zeq hF)
 have h4 := hF.nfar.2
 unfold zO
 have : ((ex (pc (lns f i)) (nF f)).length : Int) ≤ 240 := by
  have : 20 * nF f ≤ 240 := by omega
  omega
 omega
theorem zsn (k : Nat) : z6e k = some fun _ => 0 := rfl
theorem zgs {k : Nat} {f : zd} (hk : Fuel k f) (hF : Fine f) (i : Int) (v1 : (SL Int) × Int × Int × (SL zp) × Int × (SL zl) × Int) (n : Int) {g : Nat → Int} {lf : Nat → Nat} (hg : ∀ t, t < 12 → g t = ((lf t : Nat) : Int)) (h20 : ∀ t, lf t ≤ 20) :
  Ok (iter (fun s => zVb k ⟨f⟩ i v1 n s.1 s.2.1 s.2.2.1 s.2.2.2) k (f.Carry, (nF f : Int) - 1, g, fun _ => 0)) (fun r => ∃ a b : Nat → Nat, (∀ t, t < 12 → r.2.2.1 t = ((a t : Nat) : Int)) ∧ (∀ t, t < 12 → r.2.2.2 t = ((b t : Nat) : Int)) ∧
   ex a (nF f) = (ex lf (nF f)).drop f.Carry.toNat ∧ ex b (nF f) = (ex lf (nF f)).take f.Carry.toNat ∧ (∀ t, nF f ≤ t → a t = lf t) ∧ (∀ t, a t ≤ lf t) ∧ ∀ t, nF f ≤ t → b t = 0) := by
 have hC := hF.carry
 refine Ok.count (nF f) (fun j s => ∃ m r : Nat, m + j = nF f ∧ s.2.1 = (m : Int) - 1 ∧ s.1 = (r : Int) ∧ r ≤ 20 ∧ ∃ a b : Nat → Nat, (∀ t, t < 12 → s.2.2.1 t = ((a t : Nat) : Int)) ∧ (∀ t, t < 12 → s.2.2.2 t = ((b t : Nat) : Int)) ∧
   (∀ t, t < m → a t = lf t ∧ b t = 0) ∧ (ex lf (nF f)).drop f.Carry.toNat = hi a m j ++ (ex lf m).drop r ∧ (ex lf (nF f)).take f.Carry.toNat = hi b m j ++ (ex lf m).take r ∧ (∀ t, nF f ≤ t → a t = lf t) ∧ (∀ t, a t ≤ lf t) ∧ ∀ t, nF f ≤ t → b t = 0) ?_ ?_ ?_ hk.far
 ·rintro j ⟨s1, s2, s3, s4⟩ hj ⟨m, r, hm, h2, h1, hr, a, b, ha, hb, hlow, hd, ht, hx, hle, hy⟩
  obtain ⟨m, rfl⟩ : ∃ m', m = m' + 1 := ⟨m - 1, by omega⟩
  have hn := hF.nfar.2
  obtain rfl : s2 = (m : Int) := by simp only at h2; omega
  obtain rfl : s1 = (r : Int) := h1
  simp only [zVb]
  have e1 : decide ((m : Int) ≥ 0) = true := by simp
  have e2 : decide ((m : Int) < 12) = true := by simp; omega
  have e3 : s3 m = ((lf m : Nat) : Int) := by
   have := ha m (by omega)
   simp only at this
   rw [this, (hlow m (by omega)).1]
  have e4 : (if s3 m < (r : Int) then s3 m else (r : Int)) = ((min r (lf m) : Nat) : Int) := by
   rw [e3]
   split <;> omega
  have hb20 := h20 m
  simp only [e1, e2, Bool.and_self, cond_true, Int.toNat_natCast, e4]
  rw [e3, zeb (by omega) (by omega), zeb (by omega) (by omega), zeb (by omega) (by omega)]
  refine Ok.pure ⟨m, r - min r (lf m), by omega, rfl, by show _ = _; omega, by omega, fun t => if t = m then lf m - r else a t, fun t => if t = m then min r (lf m) else b t, fun t ht => ?_, fun t ht => ?_, fun t ht => ?_, ?_, ?_, fun t ht => ?_, fun t => ?_, fun t ht => ?_⟩
  ·simp only [upd]
   split
   ·omega
   ·exact ha t ht
  ·simp only [upd]
   split
   ·rfl
   ·exact hb t ht
  ·dsimp only
   rw [if_neg (by omega), if_neg (by omega)]
   exact hlow t (by omega)
  ·rw [hd, zMs, ex, z7v, ← List.append_assoc]
   rw [if_pos rfl]
   have : r - min r (lf m) = r - lf m := by omega
   rw [this, z5o (g := a) (m := m + 1) (fun t h1 h2 => if_neg (by omega))]
  ·rw [ht, zMs, ex, zvw, ← List.append_assoc]
   rw [if_pos rfl]
   have : r - min r (lf m) = r - lf m := by omega
   rw [this, z5o (g := b) (m := m + 1) (fun t h1 h2 => if_neg (by omega))]
  ·dsimp only; rw [if_neg (by omega)]; exact hx t ht
  ·dsimp only
   split
   ·rename_i e; subst e; omega
   ·exact hle t
  ·dsimp only; rw [if_neg (by omega)]; exact hy t ht
 ·rintro ⟨s1, s2, s3, s4⟩ ⟨m, r, hm, h2, h1, hr, a, b, ha, hb, hlow, hd, ht, hx, hle, hy⟩
  obtain rfl : m = 0 := by omega
  obtain rfl : s2 = -1 := by simp only at h2; omega
  simp only [zVb]
  have e1 : decide ((-1 : Int) ≥ 0) = false := by decide
  rw [e1, cond_false]
  rw [zEt] at hd ht
  simp only [ex, List.drop_nil, List.take_nil, List.append_nil] at hd ht
  exact Ok.pure ⟨a, b, ha, hb, hd.symm, ht.symm, hx, hle, hy⟩
 ·refine ⟨nF f, f.Carry.toNat, by omega, rfl, by show f.Carry = _; omega, by omega, lf, fun _ => 0, hg, fun _ _ => rfl, fun t _ => ⟨rfl, rfl⟩, by simp [hi], by simp [hi], fun _ _ => rfl, fun _ => Nat.le_refl _, fun _ _ => rfl⟩
theorem z9v {k : Nat} {f : zd} (hs : zec f) (hk : Fuel k f) (hF : Fine f) (i : Int) (v1 : (SL Int) × Int × Int × (SL zp) × Int × (SL zl) × Int) (n : Int) (v : Int × Int × (Nat → Int) × (Nat → Int)) {b : Nat → Nat} (hb : ∀ t, t < 12 → v.2.2.2 t = ((b t : Nat) : Int)) :
  Ok (iter (fun s => ztc k ⟨f⟩ i v1 n v s.1 s.2) k (0, 0)) (fun r => r.1 = topF b (fr f) (nF f)) := by
 have hn := hF.nfar.2
 refine Ok.count (nF f) (fun j s => s.2 = (j : Int) ∧ s.1 = topF b (fr f) j) ?_ ?_ ⟨rfl, rfl⟩ hk.far
 ·rintro j ⟨s1, s2⟩ hj ⟨h2, h1⟩
  obtain rfl : s2 = (j : Int) := h2
  obtain rfl : s1 = _ := h1
  simp only [ztc, z8d, zuc hj, cond_true, Int.toNat_natCast]
  have e2 : (decide (0 ≤ (j : Int)) && decide ((j : Int) < 12)) = true := by simp; omega
  have e3 : decide (v.2.2.2 j > 0) = decide (0 < b j) := by
   rw [hb j (by omega)]
   simp
  rw [e2, cond_true, e3, zVm hj]
  simp only [Option.bind_some]
  cases hbj : decide (0 < b j) with
  | true =>
   simp only [cond_true, Option.bind_some]
   refine Ok.pure ⟨zGb hj hs.far, ?_⟩
   show fr f j = _
   rw [topF, if_pos (by simpa using hbj)]
  | false =>
   simp only [cond_false, Option.bind_some]
   refine Ok.pure ⟨zGb hj hs.far, ?_⟩
   show topF b (fr f) j = _
   rw [topF, if_neg (by simpa using hbj)]
 ·rintro ⟨s1, s2⟩ ⟨h2, h1⟩
  obtain rfl : s2 = (nF f : Int) := h2
  simp only [ztc, zpd, cond_false]
  exact Ok.pure h1
theorem zlp {k : Nat} {f : zd} (hs : zec f) (hk : Fuel k f) (hF : Fine f) {i : Nat} (hi : i < nS f) : Ok (zKc k ⟨f⟩ (i : Int)) (fun r => r = zO f i) := by
 unfold zKc zad
 simp only [Option.bind_some]
 refine Ok.bind (z3n hs hk hF hi) fun g hg => ?_
 have hpc := zCm (z9c hF hi).2
 have hW := z6h hF hi
 have hlen : (ex (pc (lns f i)) (nF f)).length ≤ 240 := by
  have := zUl (f := pc (lns f i)) (b := 20) (n := nF f) fun j _ => hpc.1 j
  have := hF.nfar.2
  omega
 have hC := hF.carry
 refine Ok.bind (P := fun v : (Nat → Int) × Int => v.2 = zO f i) ?_ fun v hv => Ok.pure hv
 refine Ok.iter (fun j s => ∃ lf : Nat → Nat, (∀ t, t < 12 → s.1 t = ((lf t : Nat) : Int)) ∧ (∀ t, lf t ≤ 20) ∧ (∀ t, nF f ≤ t → lf t = 0) ∧ 0 ≤ s.2 ∧ s.2 + wk f.Carry.toNat (fr f) 0 (ex lf (nF f)) = zO f i ∧ (ex lf (nF f)).length + j ≤ 240) 240 ?_ ⟨pc (lns f i), fun t _ => hg t, hpc.1, hpc.2, Int.le_refl _, by simp [zO], by omega⟩ (by have := hk.k0; omega)
 rintro j ⟨s1, s2⟩ hj ⟨lf, h1, h20, hz, h0, hw, hl⟩
 simp only [z9d, zsn, Option.bind_some]
 refine Ok.cond (fun hb => ?_) (fun hb => ?_)
 ·have hne : ex lf (nF f) ≠ [] := by
   intro he
   have hall := z7n.1 he
   have : eqI s1 (fun _ => 0) 0 12 = true := (zbk _ _ 12 0).2 fun t _ ht => by
    have := h1 t (by omega)
    simp only at this
    rw [this]
    by_cases e : t < nF f
    ·rw [hall t e]; rfl
    ·rw [hz t (by omega)]; rfl
   rw [this] at hb
   cases hb
  rw [zVf hs.far]
  refine Ok.bind (zgs hk hF _ _ _ h1 h20) fun v ⟨a, b, ha, hb', hd, ht, hx, hle, hy⟩ => ?_
  refine Ok.bind (z9v hs hk hF _ _ _ _ hb') fun w hw' => ?_
  rw [hw']
  obtain ⟨x, t, hxt⟩ : ∃ x t, ex lf (nF f) = x :: t := by
   cases h : ex lf (nF f) with
   | nil => exact absurd h hne
   | cons x t => exact ⟨x, t, rfl⟩
  have htop : topF b (fr f) (nF f) = fr f x := by
   obtain ⟨c, hc⟩ : ∃ c, f.Carry.toNat = c + 1 := ⟨f.Carry.toNat - 1, by omega⟩
   refine zUq (t := t.take c) ?_
   rw [ht, hxt, hc, List.take_succ_cons]
  have hfx : 0 ≤ fr f x ∧ fr f x ≤ 500 := zeq hF x (by rw [hxt]; simp)
  rw [htop]
  have hcons := zTt (C := f.Carry.toNat) (by omega) (fr f) x t
  rw [← hxt, ← hd] at hcons
  have hwa := zlk (C := f.Carry.toNat) (b := 500) (by omega) (ex a (nF f)) 0 (zeq hF)
  have hw : s2 + wk f.Carry.toNat (fr f) 0 (ex lf (nF f)) = zO f i := hw
  have h0 : 0 ≤ s2 := h0
  rw [zeb (n := 2 * fr f x) (by omega) (by omega), zeb (by omega) (by omega)]
  refine Ok.pure ⟨?_, a, ha, fun t => by have := hle t; have := h20 t; omega, fun t ht => by rw [hx t ht]; exact hz t ht, by show 0 ≤ s2 + _; omega, by show s2 + 2 * fr f x + _ = _; omega, ?_⟩
  ·rw [hxt] at hl; simp at hl; omega
  ·rw [hd, List.length_drop]
   rw [hxt] at hl ⊢
   simp only [List.length_cons] at hl ⊢
   omega
 ·refine Ok.pure ?_
  have hall : eqI s1 (fun _ => 0) 0 12 = true := by simpa using hb
  have hall := (zbk _ _ 12 0).1 hall
  have he : ex lf (nF f) = [] := z7n.2 fun t ht => by
   have hn := hF.nfar.2
   have e1 := h1 t (by omega)
   have e2 := hall t (by omega) (by omega)
   simp only at e1 e2
   rw [e1] at e2
   omega
  have hw : s2 + wk f.Carry.toNat (fr f) 0 (ex lf (nF f)) = zO f i := hw
  rw [he] at hw
  simp only [wk] at hw
  show s2 = _
  omega
end Go.AM
set_option linter.unusedVariables false
namespace Go.AM
open Go
def pk (f : zd) (i : Nat) : zp := (f.Pick.1[i]?).getD ⟨0, 0⟩
theorem z0r {f : zd} {i : Nat} (h : i < f.Pick.1.length) : f.Pick.1[i] = pk f i := by
 unfold pk
 rw [List.getElem?_eq_getElem h]; rfl
theorem zRm {f : zd} (hF : Fine f) {i : Nat} (h : i < nF f) : zNb 0 300 (pk f i) := by
 have hp : i < f.Pick.1.length := by rw [hF.npick]; exact h
 have := hF.pick i hp
 rwa [z0r hp] at this
theorem zYs {f : zd} (hF : Fine f) {n : Int} (h : 0 ≤ n ∧ n < nF f) : idx f.Pick.1 n = some (pk f n.toNat) := by
 have hp : n.toNat < f.Pick.1.length := by rw [hF.npick]; omega
 rw [zPu h.1 hp, z0r hp]
def pks (f : zd) (v : zp → Int) (l : List zh) : Int := (l.map fun x => x.Many * v (pk f x.Shelf.toNat)).sum
theorem zmk (f : zd) (v : zp → Int) (l : List zh) (x : zh) : pks f v (l ++ [x]) = pks f v l + x.Many * v (pk f x.Shelf.toNat) := by simp [pks, List.sum_append]
def z2b (f : zd) (i : Nat) (v : zp → Int) : Int := zO f i * v f.Step + pks f v (lns f i)
theorem z8i {a b x y : Int} (ha : 0 ≤ a) (hax : a ≤ x) (hb : 0 ≤ b) (hby : b ≤ y) : 0 ≤ a * b ∧ a * b ≤ x * y :=
 ⟨Int.mul_nonneg ha hb, Int.mul_le_mul hax hby hb (by omega)⟩
theorem zHm {f : zd} (hF : Fine f) {v : zp → Int} (hv : ∀ s, zNb 0 300 s → 0 ≤ v s ∧ v s ≤ 300) {l : List zh} (hl : zM (nF f) l) : ∀ j, j ≤ l.length → 0 ≤ pks f v (l.take j) ∧ pks f v (l.take j) ≤ 6000 * j
 | 0, _ => by simp [pks]
 | j + 1, hj => by
  have ih := zHm hF hv hl j (by omega)
  have h1 := zne hl (i := j) (by omega)
  have h2 := (hl j (by omega)).2
  have h3 := hv _ (zRm hF (i := l[j].Shelf.toNat) (by omega))
  have h4 := z8i (a := l[j].Many) (b := v (pk f l[j].Shelf.toNat)) (x := 20) (y := 300) (by omega) h2.2 h3.1 h3.2
  rw [List.take_succ_eq_append_getElem (by omega), zmk]
  push_cast
  omega
theorem z9p {f : zd} (hF : Fine f) {v : zp → Int} (hv : ∀ s, zNb 0 300 s → 0 ≤ v s ∧ v s ≤ 300) (hv' : 0 ≤ v f.Step ∧ v f.Step ≤ 10) {i : Nat} (hi : i < nS f) : (0 ≤ zO f i * v f.Step ∧ zO f i * v f.Step ≤ 2400000) ∧ 0 ≤ z2b f i v ∧ z2b f i v ≤ 2472000 := by
 have h1 := z6h hF hi
 have h2 := z8i h1.1 h1.2 hv'.1 hv'.2
 have h3 := zHm hF hv (z9c hF hi).2 (lns f i).length (Nat.le_refl _)
 have h4 := zPc (z9c hF hi).2
 have h5 := hF.nfar.2
 rw [List.take_length] at h3
 have h6 : ((lns f i).length : Int) ≤ 12 := by
  have : (lns f i).length ≤ nF f := h4
  omega
 unfold z2b
 omega
theorem zCq : ∀ s, zNb 0 300 s → 0 ≤ s.Low ∧ s.Low ≤ 300 := fun s h => ⟨h.1, by have := h.2; omega⟩
theorem zLn : ∀ s, zNb 0 300 s → 0 ≤ s.High ∧ s.High ≤ 300 := fun s h => ⟨by have := h.1; have := h.2.1; omega, h.2.2⟩
theorem zGs {f : zd} (hF : Fine f) : 0 ≤ f.Step.Low ∧ f.Step.Low ≤ 10 := by have := hF.step; unfold zNb at this; omega
theorem zxr {f : zd} (hF : Fine f) : 0 ≤ f.Step.High ∧ f.Step.High ≤ 10 := by have := hF.step; unfold zNb at this; omega
theorem zKv {k : Nat} {f : zd} (hs : zec f) (hk : Fuel k f) (hF : Fine f) {i : Nat} (hi : i < nS f) : Ok (zbd k ⟨f⟩ (i : Int)) (fun r => r = z2b f i (·.Low)) := by
 unfold zbd zJf
 have hm := List.getElem_mem hi
 rw [zNn hi] at hm
 have hfine := z9c hF hi
 have hin := z9p hF zCq (zGs hF) hi
 refine Ok.bind (P := fun r => r = z2b f i (·.Low)) (Ok.bind (zlp hs hk hF hi) fun st hst => ?_) fun r hr => Ok.pure hr
 subst hst
 simp only [zOc, Option.bind_some, zak hi]
 rw [zeb (by omega) (by omega)]
 refine Ok.bind (P := fun v : Int × Int => v.1 = z2b f i (·.Low)) ?_ fun v hv => Ok.pure hv
 refine Ok.count (lns f i).length (fun j s => s.2 = (j : Int) ∧ s.1 = zO f i * f.Step.Low + pks f (·.Low) ((lns f i).take j)) ?_ ?_ ⟨rfl, by simp [pks]⟩ (hk.lines _ hm)
 ·rintro j ⟨a, b⟩ hj ⟨hb, ha⟩
  obtain rfl : b = (j : Int) := hb
  obtain rfl : a = _ := ha
  have h1 := zne hfine.2 hj
  have h2 := (hfine.2 j hj).2
  have h3 := zCq _ (zRm hF (i := (lns f i)[j].Shelf.toNat) (by show (slp f i).Lines.1[j].Shelf.toNat < _; omega))
  have h4 := z8i (a := (lns f i)[j].Many) (b := (pk f (lns f i)[j].Shelf.toNat).Low) (x := 20) (y := 300) (by show 0 ≤ (slp f i).Lines.1[j].Many; omega) h2.2 h3.1 h3.2
  have h5 := zHm hF zCq hfine.2 j (Nat.le_of_lt hj)
  have h6 := zPc hfine.2
  have h7 := hF.nfar.2
  have h8 : (j : Int) ≤ 12 := by
   have : j < (slp f i).Lines.1.length := hj
   omega
  simp only [z7c, zuc hj, cond_true, zLb hj, Option.bind_some, zOc]
  rw [zYs hF h1]
  simp only [Option.bind_some]
  have h5' : 0 ≤ pks f (fun x => x.Low) (List.take j (lns f i)) ∧ pks f (fun x => x.Low) (List.take j (lns f i)) ≤ 6000 * j := h5
  rw [zeb (n := (lns f i)[j].Many * (pk f (lns f i)[j].Shelf.toNat).Low) (by omega) (by omega), zeb (by omega) (by omega)]
  refine Ok.pure ⟨zGb hj (hs.lines _ hm), ?_⟩
  rw [List.take_succ_eq_append_getElem hj, zmk]
  show _ + _ = _
  omega
 ·rintro ⟨a, b⟩ ⟨hb, ha⟩
  obtain rfl : b = ((lns f i).length : Int) := hb
  simp only [z7c, zpd, cond_false]
  rw [List.take_length] at ha
  exact Ok.pure ha
theorem zcx {k : Nat} {f : zd} (hs : zec f) (hk : Fuel k f) (hF : Fine f) {i : Nat} (hi : i < nS f) : Ok (znc k ⟨f⟩ (i : Int)) (fun r => r = z2b f i (·.High)) := by
 unfold znc zae
 have hm := List.getElem_mem hi
 rw [zNn hi] at hm
 have hfine := z9c hF hi
 have hin := z9p hF zLn (zxr hF) hi
 refine Ok.bind (P := fun r => r = z2b f i (·.High)) (Ok.bind (zlp hs hk hF hi) fun st hst => ?_) fun r hr => Ok.pure hr
 subst hst
 simp only [zZc, Option.bind_some, zak hi]
 rw [zeb (by omega) (by omega)]
 refine Ok.bind (P := fun v : Int × Int => v.1 = z2b f i (·.High)) ?_ fun v hv => Ok.pure hv
 refine Ok.count (lns f i).length (fun j s => s.2 = (j : Int) ∧ s.1 = zO f i * f.Step.High + pks f (·.High) ((lns f i).take j)) ?_ ?_ ⟨rfl, by simp [pks]⟩ (hk.lines _ hm)
 ·rintro j ⟨a, b⟩ hj ⟨hb, ha⟩
  obtain rfl : b = (j : Int) := hb
  obtain rfl : a = _ := ha
  have h1 := zne hfine.2 hj
  have h2 := (hfine.2 j hj).2
  have h3 := zLn _ (zRm hF (i := (lns f i)[j].Shelf.toNat) (by show (slp f i).Lines.1[j].Shelf.toNat < _; omega))
  have h4 := z8i (a := (lns f i)[j].Many) (b := (pk f (lns f i)[j].Shelf.toNat).High) (x := 20) (y := 300) (by show 0 ≤ (slp f i).Lines.1[j].Many; omega) h2.2 h3.1 h3.2
  have h5 := zHm hF zLn hfine.2 j (Nat.le_of_lt hj)
  have h6 := zPc hfine.2
  have h7 := hF.nfar.2
  have h8 : (j : Int) ≤ 12 := by
   have : j < (slp f i).Lines.1.length := hj
   omega
  simp only [zHc, zuc hj, cond_true, zLb hj, Option.bind_some, zZc]
  rw [zYs hF h1]
  simp only [Option.bind_some]
  have h5' : 0 ≤ pks f (fun x => x.High) (List.take j (lns f i)) ∧ pks f (fun x => x.High) (List.take j (lns f i)) ≤ 6000 * j := h5
  rw [zeb (n := (lns f i)[j].Many * (pk f (lns f i)[j].Shelf.toNat).High) (by omega) (by omega), zeb (by omega) (by omega)]
  refine Ok.pure ⟨zGb hj (hs.lines _ hm), ?_⟩
  rw [List.take_succ_eq_append_getElem hj, zmk]
  show _ + _ = _
  omega
 ·rintro ⟨a, b⟩ ⟨hb, ha⟩
  obtain rfl : b = ((lns f i).length : Int) := hb
  simp only [zHc, zpd, cond_false]
  rw [List.take_length] at ha
  exact Ok.pure ha
theorem zjj {f : zd} (hs : zec f) (k : Nat) (n : Int) : zub k ⟨f⟩ n = some (decide (0 ≤ n) && decide (n ≤ (nS f : Int) - 1)) := by
 simp only [zub, zsg, zVf hs.slips, Option.bind_some]
theorem zNv {k : Nat} {f : zd} (hs : zec f) (hk : Fuel k f) (hF : Fine f) {i : Nat} (hi : i < nS f) : zId k f (i : Int) = some (⟨z2b f i (·.Low), z2b f i (·.High)⟩, 0) := by
 obtain ⟨c, hc, hc'⟩ := zth hs hk
 rw [if_pos hF] at hc'
 subst hc'
 obtain ⟨a, e1, rfl⟩ := zKv hs hk hF hi
 obtain ⟨b, e2, rfl⟩ := zcx hs hk hF hi
 unfold zId
 rw [hc]
 have t : ((0 : Int) != 0) = false := by decide
 have t2 : (!(decide (0 ≤ (i : Int)) && decide ((i : Int) ≤ (nS f : Int) - 1))) = false := by simp; omega
 simp only [Option.bind_some, t, cond_false, zjj hs, t2, e1, e2]
end Go.AM
set_option linter.unusedVariables false
namespace Go.AM
open Go
theorem zJr {k : Nat} {f : zd} (hs : zec f) {l : SL zh} (hl : l.1.length < 9223372036854775808) (hlk : l.1.length < k) : Ok (zrc k f l) (fun r => r = true ↔ zM (nF f) l.1) := by
 unfold zrc
 let P := fun i (h : i < l.1.length) => (shB l.1 i + 1 ≤ l.1[i].Shelf ∧ l.1[i].Shelf ≤ (nF f : Int) - 1) ∧ (1 ≤ l.1[i].Many ∧ l.1[i].Many ≤ 20)
 have hfs : nF f < 9223372036854775808 := hs.far
 refine Ok.bind (Ok.count l.1.length (fun j t => t.2 = (j : Int) ∧ t.1 = shB l.1 j ∧ ∀ i (h : i < l.1.length), i < j → P i h) (Q := fun r : (Int × Int) ⊕ (Int × Int) => match r with
  | .inl _ => ¬ zM (nF f) l.1
  | .inr _ => zM (nF f) l.1) ?_ ?_ ⟨rfl, rfl, fun i _ h => absurd h (by omega)⟩ hlk) fun r hr => ?_
 ·rintro j ⟨d, i⟩ hj ⟨hi, hd, ha⟩
  obtain rfl : i = (j : Int) := hi
  obtain rfl : d = shB l.1 j := hd
  have hw : w64 (shB l.1 j + 1) = shB l.1 j + 1 := by
   have hlow := zmo (l := l.1) (j := j) (by omega) fun i hi hij => (ha i hi hij).1.1
   have hup : shB l.1 j ≤ (nF f : Int) - 1 := by
    cases j with
    | zero => simp only [shB]; omega
    | succ j =>
     have := (ha j (by omega) (by omega)).1.2
     rw [zPg (by omega)] at this
     simp only [shB]
     omega
   exact zeb (by omega) (by omega)
  have wn : w64 ((f.Far.1.length : Int) - 1) = (nF f : Int) - 1 := zVf hs.far
  have hJ : zxc k f l (shB l.1 j) (j : Int) = some (!((decide (shB l.1 j + 1 ≤ l.1[j].Shelf) && decide (l.1[j].Shelf ≤ (nF f : Int) - 1)) && (decide (1 ≤ l.1[j].Many) && decide (l.1[j].Many ≤ 20)))) := by
   simp only [zxc, zLb hj, Option.bind_some, zph, hw, wn]
   cases (decide (shB l.1 j + 1 ≤ l.1[j].Shelf) && decide (l.1[j].Shelf ≤ (nF f : Int) - 1)) <;> simp
  simp only [zIc, zuc hj, cond_true, hJ, Option.bind_some, zLb hj]
  refine Ok.cond (fun hc => Ok.pure ?_) fun hc => Ok.pure ⟨zGb hj hl, by rw [zPg hj]; rfl, fun i hi hij => ?_⟩
  ·intro hF
   have := hF j hj
   have e : ((decide (shB l.1 j + 1 ≤ l.1[j].Shelf) && decide (l.1[j].Shelf ≤ (nF f : Int) - 1)) && (decide (1 ≤ l.1[j].Many) && decide (l.1[j].Many ≤ 20))) = true := by
    simp only [Bool.and_eq_true, decide_eq_true_eq]; exact this
   rw [e] at hc
   cases hc
  ·by_cases e : i = j
   ·subst e
    simp only [Bool.not_eq_false', Bool.and_eq_true, decide_eq_true_eq] at hc
    exact hc
   ·exact ha i hi (by omega)
 ·rintro ⟨d, i⟩ ⟨hi, hd, ha⟩
  obtain rfl : i = (l.1.length : Int) := hi
  simp only [zIc, zpd, cond_false]
  exact Ok.pure fun i hi => ha i hi hi
 ·cases r with
  | inl z => exact Ok.pure ⟨fun h => (by cases h), fun h => absurd h hr⟩
  | inr z => exact Ok.pure ⟨fun _ => hr, fun _ => rfl⟩
theorem zmv (k : Nat) (f : zd) : Ok (zyc k f) (fun r => r = true ↔ (1 ≤ nF f ∧ nF f ≤ 12) ∧ f.Pick.1.length = nF f ∧ zNb 1 10 f.Step ∧ (1 ≤ f.Carry ∧ f.Carry ≤ 20) ∧ nS f ≤ 9) := by
 simp only [zyc, zph, zEr, Option.bind_some, z3d]
 refine Ok.pure ?_
 simp only [Bool.and_eq_true, decide_eq_true_eq, beq_iff_eq, zNb, nF, nS]
 omega
theorem zav {k : Nat} {f : zd} (hs : zec f) (hk : Fuel k f) (acc : Bool) (hp : acc = true → f.Pick.1.length = nF f) : Ok (iter (fun s => znb k f s.1 s.2.1 s.2.2) k (acc, 0, 0)) (fun r => r.1 = true ↔ acc = true ∧ ∀ i, i < nF f → (frB f i ≤ fr f i ∧ fr f i ≤ 500) ∧ zNb 0 300 (pk f i)) := by
 refine Ok.count (nF f) (fun j s => s.2.2 = (j : Int) ∧ s.2.1 = frB f j ∧ (s.1 = true ↔ acc = true ∧ ∀ i, i < j → (frB f i ≤ fr f i ∧ fr f i ≤ 500) ∧ zNb 0 300 (pk f i))) ?_ ?_ ⟨rfl, rfl, by simp⟩ hk.far
 ·rintro j ⟨a, d, i⟩ hj ⟨hi, hd, ha⟩
  obtain rfl : i = (j : Int) := hi
  obtain rfl : d = frB f j := hd
  have ha' : a = true ↔ acc = true ∧ ∀ i, i < j → (frB f i ≤ fr f i ∧ fr f i ≤ 500) ∧ zNb 0 300 (pk f i) := ha
  cases a with
  | false =>
   simp only [znb, zAb, cond_false, Option.bind_some]
   refine Ok.pure ⟨fun h => (by cases h), fun ⟨h1, h2⟩ => ?_⟩
   exact absurd (ha'.2 ⟨h1, fun i hi => h2 i (by omega)⟩) (by simp)
  | true =>
   obtain ⟨h1, h2⟩ := ha'.1 rfl
   have hpl := hp h1
   have hjp : j < f.Pick.1.length := by omega
   have ep : idx f.Pick.1 (j : Int) = some (pk f j) := by rw [zLb hjp, z0r hjp]
   simp only [znb, zAb, zed, zuc hj, cond_true, zVm hj, zph, ep, zEr, Option.bind_some, z3d, zGb hj hs.far]
   refine Ok.pure ⟨rfl, rfl, ?_⟩
   simp only [Bool.and_eq_true, decide_eq_true_eq]
   constructor
   ·intro h3
    refine ⟨h1, fun i hij => ?_⟩
    by_cases e : i = j
    ·subst e; exact ⟨h3.1, h3.2⟩
    ·exact h2 i (by omega)
   ·rintro ⟨h1, h2⟩
    have := h2 j (by omega)
    exact ⟨this.1, this.2⟩
 ·rintro ⟨a, d, i⟩ ⟨hi, hd, ha⟩
  obtain rfl : i = (nF f : Int) := hi
  cases a with
  | false =>
   simp only [znb, zAb, cond_false, Option.bind_some]
   exact Ok.pure ha
  | true =>
   simp only [znb, zAb, zpd, cond_true, cond_false, Option.bind_some]
   exact Ok.pure ha
theorem z3u {k : Nat} {f : zd} (hs : zec f) (hk : Fuel k f) (v3 : Bool × Int × Int) (acc : Bool) (hn : acc = true → nF f ≤ 12) : Ok (iter (fun s => zob k f v3 s.1 s.2) k (acc, 0)) (fun r => r.1 = true ↔ acc = true ∧ ∀ i (h : i < nS f), zCd (nF f) f.Slips.1[i]) := by
 refine Ok.count (nS f) (fun j s => s.2 = (j : Int) ∧ (s.1 = true ↔ acc = true ∧ ∀ i (h : i < nS f), i < j → zCd (nF f) f.Slips.1[i])) ?_ ?_ ⟨rfl, by simp⟩ hk.slips
 ·rintro j ⟨a, i⟩ hj ⟨hi, ha⟩
  obtain rfl : i = (j : Int) := hi
  have ha' : a = true ↔ acc = true ∧ ∀ i (h : i < nS f), i < j → zCd (nF f) f.Slips.1[i] := ha
  cases a with
  | false =>
   simp only [zob, zwb, cond_false, Option.bind_some]
   refine Ok.pure ⟨fun h => (by cases h), fun ⟨h1, h2⟩ => ?_⟩
   exact absurd (ha'.2 ⟨h1, fun i h _ => h2 i h⟩) (by simp)
  | true =>
   obtain ⟨h1, h2⟩ := ha'.1 rfl
   have hm := List.getElem_mem hj
   have h12 := hn h1
   have hJ : Ok (zkc k f v3 true (j : Int) f.Slips.1[j]) (fun r => r = true ↔ zCd (nF f) f.Slips.1[j]) := by
    simp only [zkc, zph, Option.bind_some]
    refine Ok.cond (fun hc => ?_) fun hc => Ok.pure ⟨fun h => (by cases h), fun h => ?_⟩
    ·simp only [Bool.and_eq_true, decide_eq_true_eq] at hc
     refine Ok.cond (fun hd => ?_) fun hd => Ok.pure ⟨fun h => (by cases h), fun h => ?_⟩
     ·simp only [Bool.and_eq_true, decide_eq_true_eq] at hd
      refine Ok.bind (zJr hs (hs.lines _ hm) (hk.lines _ hm)) fun r hr => Ok.pure ?_
      rw [hr]
      exact ⟨fun h => ⟨⟨hc, by omega⟩, h⟩, fun h => h.2⟩
     ·have hlen := zPc h.2
      have h3 := h.1.2
      have : (decide (1 ≤ (f.Slips.1[j].Lines.1.length : Int)) && decide ((f.Slips.1[j].Lines.1.length : Int) ≤ 12)) = true := by
       simp only [Bool.and_eq_true, decide_eq_true_eq]; omega
      rw [this] at hd
      cases hd
    ·have h3 := h.1.1
     have : (decide (0 ≤ f.Slips.1[j].Until) && decide (f.Slips.1[j].Until ≤ 100000)) = true := by
      simp only [Bool.and_eq_true, decide_eq_true_eq]; exact h3
     rw [this] at hc
     cases hc
   simp only [zob, zwb, zuc hj, cond_true, zLb hj, Option.bind_some]
   refine Ok.bind hJ fun r hr => Ok.pure ⟨zGb hj hs.slips, ?_⟩
   show r = true ↔ _
   rw [hr]
   constructor
   ·intro h3
    refine ⟨h1, fun i h hij => ?_⟩
    by_cases e : i = j
    ·subst e; exact h3
    ·exact h2 i h (by omega)
   ·rintro ⟨h1, h2⟩
    exact h2 j hj (by omega)
 ·rintro ⟨a, i⟩ ⟨hi, ha⟩
  obtain rfl : i = (nS f : Int) := hi
  have fin : a = true ↔ acc = true ∧ ∀ i (h : i < nS f), zCd (nF f) f.Slips.1[i] := by
   have ha' : a = true ↔ acc = true ∧ ∀ i (h : i < nS f), i < nS f → zCd (nF f) f.Slips.1[i] := ha
   rw [ha']
   exact ⟨fun h => ⟨h.1, fun i hi => h.2 i hi hi⟩, fun h => ⟨h.1, fun i hi _ => h.2 i hi⟩⟩
  cases a with
  | false =>
   simp only [zob, zwb, cond_false, Option.bind_some]
   exact Ok.pure fin
  | true =>
   simp only [zob, zwb, zpd, cond_true, cond_false, Option.bind_some]
   exact Ok.pure fin
open Classical in
theorem zNr {k : Nat} {f : zd} (hs : zec f) (hk : Fuel k f) : Ok (zwc k f) (fun r => r = if Fine f then 0 else 30) := by
 unfold zwc
 refine Ok.bind (zmv k f) fun v1 h1 => ?_
 refine Ok.bind (zav hs hk v1 fun h => (h1.1 h).2.1) fun v3 h3 => ?_
 refine Ok.bind (z3u hs hk v3 v3.1 fun h => (h1.1 (h3.1 h).1).1.2) fun v5 h5 => ?_
 have fin : v5.1 = true ↔ Fine f := by
  rw [h5, h3, h1]
  constructor
  ·rintro ⟨⟨h, h6⟩, h7⟩
   refine ⟨h.1, h.2.1, h.2.2.1, h.2.2.2.1, h.2.2.2.2, fun i hi => (h6 i hi).1, fun i hi => ?_, h7⟩
   have := (h6 i (by omega)).2
   rw [z0r hi]
   exact this
  ·intro h
   refine ⟨⟨⟨h.nfar, h.npick, h.step, h.carry, h.nslips⟩, fun i hi => ⟨h.far i hi, zRm h hi⟩⟩, h.slips⟩
 refine Ok.cond (fun hb => Ok.pure ?_) (fun hb => Ok.pure ?_)
 ·rw [if_neg]
  intro hF
  rw [fin.2 hF] at hb
  cases hb
 ·rw [if_pos (fin.1 (by simpa using hb))]
end Go.AM
set_option linter.unusedVariables false
namespace Go.AM
open Go
def rv (l : List zh) : List Nat := l.reverse.flatMap fun x => List.replicate x.Many.toNat x.Shelf.toNat
theorem zQt (l : List zh) (x : zh) : rv (l ++ [x]) = List.replicate x.Many.toNat x.Shelf.toNat ++ rv l := by
 simp [rv]
theorem zso {g : Nat → Nat} {s : Nat} : ∀ {N : Nat}, s ≤ N → (∀ j, s ≤ j → j < N → g j = 0) → ex g N = ex g s
 | 0, h, _ => by rw [show s = 0 by omega]
 | N + 1, h, hz => by
  by_cases e : s = N + 1
  ·rw [e]
  ·rw [ex, hz N (by omega) (by omega), List.replicate_zero, List.nil_append]
   exact zso (by omega) fun j h1 h2 => hz j h1 (by omega)
theorem z1q {n : Nat} {l : List zh} (h : zM n l) : ∀ m, m ≤ l.length → ∀ N : Nat, shB l m < (N : Int) → (∀ j, N ≤ j → pc (l.take m) j = 0) ∧ ex (pc (l.take m)) N = rv (l.take m)
 | 0, _, N, _ => by
  refine ⟨fun j _ => by simp [pc], ?_⟩
  rw [List.take_zero]
  have : ex (pc []) N = ex (pc []) 0 := zso (by omega) fun j _ _ => rfl
  rw [this]; rfl
 | m + 1, hm, N, hN => by
  have hlt : m < l.length := by omega
  have h1 := h m hlt
  have h2 := zne h hlt
  have hs : (l[m].Shelf.toNat : Int) = l[m].Shelf := by omega
  have hN' : l[m].Shelf < (N : Int) := by
   have : shB l (m + 1) = l[m].Shelf := (zPg hlt).symm
   omega
  obtain ⟨i1, i2⟩ := z1q h m (by omega) l[m].Shelf.toNat (by omega)
  rw [List.take_succ_eq_append_getElem hlt, zjo, zQt]
  have hz : ∀ j, l[m].Shelf.toNat + 1 ≤ j → put1 (pc (l.take m)) l[m] j = 0 := fun j hj => by
   unfold put1
   rw [if_neg (by omega)]
   exact i1 j (by omega)
  refine ⟨fun j hj => hz j (by omega), ?_⟩
  rw [zso (s := l[m].Shelf.toNat + 1) (by omega) fun j h3 _ => hz j h3, ex]
  congr 1
  ·unfold put1
   rw [if_pos (by omega)]
  ·rw [← i2]
   refine zqs fun j hj => ?_
   unfold put1
   rw [if_neg (by omega)]
theorem zNw {n : Nat} {l : List zh} (h : zM n l) : ex (pc l) n = rv l := by
 have h1 : shB l l.length < (n : Int) := by
  cases hl : l.length with
  | zero => simp only [shB]; omega
  | succ j =>
   have h2 := (h j (by omega)).1.2
   rw [zPg (by omega)] at h2
   simp only [shB]
   omega
 have := (z1q h l.length (Nat.le_refl _) n h1).2
 rwa [List.take_length] at this
theorem zjv (C : Nat) (far : Nat → Int) (r : Nat) : wk C far r [] = 0 := by cases r <;> rfl
theorem zBr {k : Nat} {f : zd} (hk : Fuel k f) (hF : Fine f) {i : Nat} (hi : i < nS f) : zvc k f (i : Int) = some (zO f i) := by
 refine Ok.eq ?_
 have hsl := z9c hF hi
 have hlf : zM (nF f) (lns f i) := hsl.2
 have hln := zPc hlf
 have h12 := hF.nfar.2
 have h0 := hk.k0
 have hC := hF.carry
 obtain ⟨C, hCe⟩ : ∃ C : Nat, f.Carry = (C : Int) := ⟨f.Carry.toNat, by omega⟩
 have hst := z6h hF hi
 have hex : zO f i = wk C (fr f) 0 (rv (lns f i)) := by
  unfold zO
  rw [zNw hlf, hCe, Int.toNat_natCast]
 have hfar : ∀ x ∈ rv (lns f i), 0 ≤ fr f x ∧ fr f x ≤ 500 := fun x hx => zeq hF x (by rw [zNw hlf]; exact hx)
 unfold zvc
 rw [zak hi]
 simp only [Option.bind_some]
 have w0 : w64 (((slp f i).Lines.1.length : Int) - 1) = ((lns f i).length : Int) - 1 := by
  show w64 (((lns f i).length : Int) - 1) = _
  exact zeb (by omega) (by omega)
 rw [w0]
 refine Ok.bind (P := fun r : Int × Int × Int => r.1 = zO f i) ?_ fun v hv => Ok.pure hv
 refine Ok.count (lns f i).length (fun j s => s.2.2 = ((lns f i).length : Int) - 1 - j ∧ ∃ r : Nat, s.2.1 = (r : Int) ∧ r ≤ 20 ∧ s.1 + wk C (fr f) r (rv ((lns f i).take ((lns f i).length - j))) = zO f i ∧ 0 ≤ s.1) ?_ ?_ ⟨by simp, 0, rfl, by omega, ?_, Int.le_refl _⟩ (by omega)
 ·rintro j ⟨n, r', i'⟩ hj ⟨hi', r, hr, hr20, hw, hn0⟩
  obtain rfl : i' = ((lns f i).length : Int) - 1 - j := hi'
  obtain rfl : r' = (r : Int) := hr
  have hw : n + wk C (fr f) r (rv ((lns f i).take ((lns f i).length - j))) = zO f i := hw
  have hn0 : 0 ≤ n := hn0
  obtain ⟨m, hm⟩ : ∃ m, (lns f i).length - j = m + 1 := ⟨(lns f i).length - j - 1, by omega⟩
  have hml : m < (lns f i).length := by omega
  obtain ⟨x, hx⟩ : ∃ x, x = (lns f i)[m] := ⟨_, rfl⟩
  have hmany := (hlf m hml).2
  have hsh := zne hlf hml
  rw [← hx] at hmany hsh
  have em : ((lns f i).length : Int) - 1 - j = (m : Int) := by omega
  have e1 : idx (slp f i).Lines.1 (m : Int) = some x := by rw [hx]; exact zLb hml
  have e2 : idx f.Far.1 x.Shelf = some (fr f x.Shelf.toNat) := by
   have := zVm (f := f) (i := x.Shelf.toNat) (by omega)
   rwa [Int.toNat_of_nonneg hsh.1] at this
  have hfx := zat hF (i := x.Shelf.toNat) (by omega)
  have c0 : decide ((m : Int) ≥ 0) = true := by simp
  have w1 : w64 ((m : Int) - 1) = (m : Int) - 1 := zeb (by omega) (by omega)
  rw [hm, List.take_succ_eq_append_getElem hml, ← hx, zQt] at hw
  simp only [zzc, em, c0, cond_true, w1]
  obtain ⟨M, hM⟩ : ∃ M : Nat, x.Many = (M : Int) := ⟨x.Many.toNat, by omega⟩
  rw [hM, Int.toNat_natCast] at hw
  have hrest : ∀ y ∈ rv ((lns f i).take m), 0 ≤ fr f y ∧ fr f y ≤ 500 := fun y hy => hfar y (by
   unfold rv at hy ⊢
   rw [List.mem_flatMap] at hy ⊢
   obtain ⟨z, hz1, hz2⟩ := hy
   exact ⟨z, by rw [List.mem_reverse] at hz1 ⊢; exact List.mem_of_mem_take hz1, hz2⟩)
  refine Ok.bind (P := fun t : Int × Int × Int => ∃ r : Nat, t.2.1 = (r : Int) ∧ r ≤ 20 ∧ t.1 + wk C (fr f) r (rv ((lns f i).take m)) = zO f i ∧ 0 ≤ t.1) ?_ fun t ht => ?_
  ·refine Ok.count M (fun a s => s.2.2 = (a : Int) ∧ ∃ r : Nat, s.2.1 = (r : Int) ∧ r ≤ 20 ∧ s.1 + wk C (fr f) r (List.replicate (M - a) x.Shelf.toNat ++ rv ((lns f i).take m)) = zO f i ∧ 0 ≤ s.1) ?_ ?_ ⟨rfl, r, rfl, hr20, by simpa using hw, hn0⟩ (by omega)
   ·rintro a ⟨u, r', a'⟩ ha ⟨ha', r, hr, hr20, hw, hu0⟩
    obtain rfl : a' = (a : Int) := ha'
    obtain rfl : r' = (r : Int) := hr
    have hw : u + wk C (fr f) r (List.replicate (M - a) x.Shelf.toNat ++ rv ((lns f i).take m)) = zO f i := hw
    have hu0 : 0 ≤ u := hu0
    have c1 : decide ((a : Int) < x.Many) = true := decide_eq_true (by omega)
    obtain ⟨b, hb⟩ : ∃ b, M - a = b + 1 := ⟨M - a - 1, by omega⟩
    have hb2 : M - (a + 1) = b := by omega
    rw [hb, List.replicate_succ, List.cons_append] at hw
    have hlow : ∀ q, 0 ≤ wk C (fr f) q (List.replicate b x.Shelf.toNat ++ rv ((lns f i).take m)) := fun q => (zlk (b := 500) (by omega) _ q fun y hy => by
     rcases List.mem_append.1 hy with h | h
     ·obtain ⟨_, rfl⟩ := List.mem_replicate.1 h; exact hfx
     ·exact hrest y h).1
    simp only [zDc, e1, Option.bind_some, c1, cond_true]
    cases r with
    | zero =>
     have c2 : (((0 : Nat) : Int) == 0) = true := by decide
     rw [wk] at hw
     have hl := hlow (C - 1)
     have wa : w64 (2 * fr f x.Shelf.toNat) = 2 * fr f x.Shelf.toNat := zeb (by omega) (by omega)
     have wb : w64 (u + 2 * fr f x.Shelf.toNat) = u + 2 * fr f x.Shelf.toNat := zeb (by omega) (by omega)
     have wc : w64 ((C : Int) - 1) = ((C - 1 : Nat) : Int) := by rw [zeb (by omega) (by omega)]; omega
     simp only [zAc, c2, cond_true, e1, Option.bind_some, e2, wa, wb, hCe, wc]
     refine Ok.pure ⟨zGb ha (by omega), C - 1, rfl, by omega, ?_, ?_⟩
     ·rw [hb2]
      show u + 2 * fr f x.Shelf.toNat + _ = _
      omega
     ·show 0 ≤ u + 2 * fr f x.Shelf.toNat
      omega
    | succ r =>
     have c2 : (((r + 1 : Nat) : Int) == 0) = false := by
      rw [beq_eq_false_iff_ne]; omega
     rw [wk] at hw
     have wc : w64 (((r + 1 : Nat) : Int) - 1) = (r : Int) := by rw [zeb (by omega) (by omega)]; omega
     simp only [zAc, c2, cond_false, Option.bind_some, wc]
     exact Ok.pure ⟨zGb ha (by omega), r, rfl, by omega, by rw [hb2]; exact hw, hu0⟩
   ·rintro ⟨u, r', a'⟩ ⟨ha', r, hr, hr20, hw, hu0⟩
    obtain rfl : a' = (M : Int) := ha'
    have c1 : decide ((M : Int) < x.Many) = false := decide_eq_false (by omega)
    simp only [zDc, e1, Option.bind_some, c1, cond_false]
    rw [Nat.sub_self, List.replicate_zero, List.nil_append] at hw
    exact Ok.pure ⟨r, hr, hr20, hw, hu0⟩
  ·obtain ⟨r, hr, hr20, hw, hu0⟩ := ht
   exact Ok.pure ⟨by show (m : Int) - 1 = _; push_cast; omega, r, hr, hr20, by rw [show (lns f i).length - (j + 1) = m by omega]; exact hw, hu0⟩
 ·rintro ⟨n, r', i'⟩ ⟨hi', r, hr, hr20, hw, hn0⟩
  obtain rfl : i' = ((lns f i).length : Int) - 1 - ((lns f i).length : Nat) := hi'
  have c0 : decide (((lns f i).length : Int) - 1 - ((lns f i).length : Nat) ≥ 0) = false := decide_eq_false (by omega)
  simp only [zzc, c0, cond_false]
  rw [Nat.sub_self, List.take_zero] at hw
  have : rv [] = [] := rfl
  rw [this, zjv] at hw
  exact Ok.pure (by show n = _; have hw : n + 0 = zO f i := hw; omega)
 ·rw [hex, Nat.sub_zero, List.take_length]
  show (0 : Int) + _ = _
  omega
theorem zlv {k : Nat} {f : zd} (hk : Fuel k f) (hF : Fine f) {i : Nat} (hi : i < nS f) : z5c k f (i : Int) = some ⟨z2b f i (·.Low), z2b f i (·.High)⟩ := by
 refine Ok.eq ?_
 have hsl := z9c hF hi
 have hlf : zM (nF f) (lns f i) := hsl.2
 have hln := zPc hlf
 have h12 := hF.nfar.2
 have h0 := hk.k0
 have hl := zGs hF
 have hh := zxr hF
 have hst := z6h hF hi
 have b1 := z8i hst.1 hst.2 hl.1 hl.2
 have b2 := z8i hst.1 hst.2 hh.1 hh.2
 have w1 : w64 (zO f i * f.Step.Low) = zO f i * f.Step.Low := zeb (by omega) (by omega)
 have w2 : w64 (zO f i * f.Step.High) = zO f i * f.Step.High := zeb (by omega) (by omega)
 unfold z5c
 rw [zBr hk hF hi]
 have to_eq : ∀ a b, z8 k a b = some ⟨a, b⟩ := fun _ _ => rfl
 simp only [Option.bind_some, to_eq, w1, w2, zak hi]
 refine Ok.bind (P := fun r : Int × Int × Int => r.2.1 = z2b f i (·.Low) ∧ r.2.2 = z2b f i (·.High)) ?_ fun v hv => Ok.pure (by rw [hv.1, hv.2])
 refine Ok.count (lns f i).length (fun j s => s.1 = (j : Int) ∧ s.2.1 = zO f i * f.Step.Low + pks f (·.Low) ((lns f i).take j) ∧ s.2.2 = zO f i * f.Step.High + pks f (·.High) ((lns f i).take j)) ?_ ?_ ⟨rfl, by simp [pks], by simp [pks]⟩ (by omega)
 ·rintro j ⟨j', lo, hi2⟩ hj ⟨hj', hlo, hhi⟩
  obtain rfl : j' = (j : Int) := hj'
  obtain rfl : lo = _ := hlo
  obtain rfl : hi2 = _ := hhi
  obtain ⟨x, hx⟩ : ∃ x, x = (lns f i)[j] := ⟨_, rfl⟩
  have hmany := (hlf j hj).2
  have hsh := zne hlf hj
  rw [← hx] at hmany hsh
  have e1 : idx (slp f i).Lines.1 (j : Int) = some x := by rw [hx]; exact zLb hj
  have e2 : idx f.Pick.1 x.Shelf = some (pk f x.Shelf.toNat) := zYs hF hsh
  have hpk := zRm hF (i := x.Shelf.toNat) (by omega)
  have hp0 := zHm hF (v := (·.Low)) zCq hlf j (by omega)
  have hp1 := zHm hF (v := (·.High)) zLn hlf j (by omega)
  have hpl := zCq _ hpk
  have hph := zLn _ hpk
  have m1 := z8i (a := x.Many) (x := 20) (by omega) hmany.2 hpl.1 hpl.2
  have m2 := z8i (a := x.Many) (x := 20) (by omega) hmany.2 hph.1 hph.2
  have s1 := zmk f (·.Low) ((lns f i).take j) x
  have s2 := zmk f (·.High) ((lns f i).take j) x
  have et : (lns f i).take (j + 1) = (lns f i).take j ++ [x] := by rw [List.take_succ_eq_append_getElem hj, hx]
  have c0 : decide ((j : Int) < ((slp f i).Lines.1.length : Int)) = true := zuc hj
  have wa : w64 (x.Many * (pk f x.Shelf.toNat).Low) = x.Many * (pk f x.Shelf.toNat).Low := zeb (by omega) (by omega)
  have wb : w64 (x.Many * (pk f x.Shelf.toNat).High) = x.Many * (pk f x.Shelf.toNat).High := zeb (by omega) (by omega)
  have wc : w64 (zO f i * f.Step.Low + pks f (·.Low) ((lns f i).take j) + x.Many * (pk f x.Shelf.toNat).Low) = zO f i * f.Step.Low + pks f (·.Low) ((lns f i).take (j + 1)) := by
   rw [et, s1, ← Int.add_assoc]; exact zeb (by omega) (by omega)
  have wd : w64 (zO f i * f.Step.High + pks f (·.High) ((lns f i).take j) + x.Many * (pk f x.Shelf.toNat).High) = zO f i * f.Step.High + pks f (·.High) ((lns f i).take (j + 1)) := by
   rw [et, s2, ← Int.add_assoc]; exact zeb (by omega) (by omega)
  simp only [zFc, c0, cond_true, e1, Option.bind_some, e2, wa, wb, wc, wd, to_eq]
  exact Ok.pure ⟨zGb hj (by omega), rfl, rfl⟩
 ·rintro ⟨j', lo, hi2⟩ ⟨hj', hlo, hhi⟩
  obtain rfl : j' = ((lns f i).length : Int) := hj'
  have c0 : decide (((lns f i).length : Int) < ((slp f i).Lines.1.length : Int)) = false := zpd
  simp only [zFc, c0, cond_false]
  rw [List.take_length] at hlo hhi
  exact Ok.pure ⟨hlo, hhi⟩
end Go.AM
set_option linter.unusedVariables false
namespace Go.AM
open Go
section
variable (T U : Nat → Int)
def InT : Int → List Nat → Prop
 | _, [] => True
 | now, x :: t => now + T x ≤ U x ∧ InT (now + T x) t
def lsum (u : Int) : List Nat → Int
 | [] => 0
 | x :: t => (if U x ≤ u then T x else 0) + lsum u t
def zIl (l : List Nat) : Prop := ∀ x ∈ l, lsum T U (U x) l ≤ U x
def CanL (p : Nat) (l : List Nat) : Prop := ∃ g : Nat → Nat, (∀ i ∈ l, g i < p) ∧ ∀ q, zIl T U (l.filter fun i => g i == q)
variable {T U} {u : Int}
theorem zkw (hT : ∀ i, 0 ≤ T i) {l l' : List Nat} (h : l.Sublist l') : lsum T U u l ≤ lsum T U u l' := by
 induction h with
 | slnil => exact Int.le_refl _
 | cons x _ ih =>
  have := hT x
  simp only [lsum]
  split <;> omega
 | cons_cons x _ ih => simp only [lsum]; omega
theorem zIl.sub (hT : ∀ i, 0 ≤ T i) {l l' : List Nat} (h : l.Sublist l') (hf : zIl T U l') : zIl T U l := fun x hx => by
 have := hf x (h.subset hx)
 have := zkw (U := U) (u := U x) hT h
 omega
theorem zIl.nil : zIl T U [] := fun x hx => by cases hx
theorem InT.low (hT : ∀ i, 0 ≤ T i) : ∀ {l : List Nat} {now : Int}, InT T U now l → ∀ u, (∃ x ∈ l, U x ≤ u) → now + lsum T U u l ≤ u
 | [], _, _, u, ⟨x, hx, _⟩ => by cases hx
 | x :: t, now, h, u, hex => by
  obtain ⟨h1, h2⟩ := h
  have hTx := hT x
  simp only [lsum]
  by_cases ht : ∃ y ∈ t, U y ≤ u
  ·have := InT.low hT h2 u ht
   split <;> omega
  ·have hx : U x ≤ u := by
    obtain ⟨y, hy, hyu⟩ := hex
    rcases List.mem_cons.1 hy with rfl | hy
    ·exact hyu
    ·exact absurd ⟨y, hy, hyu⟩ ht
   have h0 : lsum T U u t = 0 := by
    have : ∀ l : List Nat, (¬ ∃ y ∈ l, U y ≤ u) → lsum T U u l = 0 := by
     intro l
     induction l with
     | nil => intro _; rfl
     | cons a l ih =>
      intro h
      simp only [lsum]
      rw [if_neg (fun e => h ⟨a, by simp, e⟩), ih fun ⟨y, hy, e⟩ => h ⟨y, by simp [hy], e⟩]
      omega
    exact this t ht
   rw [if_pos hx, h0]
   omega
theorem CanL.sub (hT : ∀ i, 0 ≤ T i) {p : Nat} {l l' : List Nat} (h : l.Sublist l') : CanL T U p l' → CanL T U p l := fun ⟨g, h1, h2⟩ =>
 ⟨g, fun i hi => h1 i (h.subset hi), fun q => (h2 q).sub hT (h.filter _)⟩
theorem CanL.more {p q : Nat} (hpq : p ≤ q) {l : List Nat} : CanL T U p l → CanL T U q l := fun ⟨g, h1, h2⟩ =>
 ⟨g, fun i hi => by have := h1 i hi; omega, h2⟩
theorem CanL.nil (p : Nat) : CanL T U p [] := ⟨fun _ => 0, fun i hi => (by cases hi), fun q => zIl.nil⟩
theorem CanL.zero {l : List Nat} : CanL T U 0 l ↔ l = [] := by
 constructor
 ·rintro ⟨g, h1, _⟩
  cases l with
  | nil => rfl
  | cons x t => exact absurd (h1 x (by simp)) (by omega)
 ·rintro rfl; exact .nil 0
theorem CanL.step {p : Nat} {l : List Nat} {a : Nat} (ha : a ∈ l) : CanL T U (p + 1) l ↔ ∃ sub : Nat → Bool, sub a = true ∧ zIl T U (l.filter sub) ∧ CanL T U p (l.filter fun i => !sub i) := by
 constructor
 ·rintro ⟨g, h1, h2⟩
  refine ⟨fun i => g i == g a, by simp, h2 _, fun i => if g i = p then g a else g i, fun i hi => ?_, fun q => ?_⟩
  ·have hi' := List.mem_filter.1 hi
   have hlt := h1 i hi'.1
   have hne : g i ≠ g a := by simpa using hi'.2
   dsimp only
   split
   ·have := h1 a ha; omega
   ·omega
  ·by_cases hq : q = g a
   ·subst hq
    have e : ((l.filter fun i => !(g i == g a)).filter fun i => (if g i = p then g a else g i) == g a) = (l.filter fun i => g i == p).filter fun i => !(g i == g a) := by
     rw [List.filter_filter, List.filter_filter]
     refine List.filter_congr fun i _ => ?_
     by_cases h : g i = g a
     ·simp [h]
     ·by_cases h' : g i = p <;> simp [h, h']
    rw [e]
    by_cases hp : g a = p
    ·have : (l.filter fun i => g i == p).filter (fun i => !(g i == g a)) = [] := by
      rw [List.filter_filter]
      refine List.filter_eq_nil_iff.2 fun i _ => ?_
      rw [hp]; simp
     rw [this]
     exact .nil
    ·have : (l.filter fun i => g i == p).filter (fun i => !(g i == g a)) = l.filter fun i => g i == p := by
      rw [List.filter_filter]
      refine List.filter_congr fun i _ => ?_
      by_cases h : g i = p
      ·have : ¬ p = g a := fun e => hp e.symm
       simp [h, this]
      ·simp [h]
     rw [this]
     exact h2 p
   ·by_cases hqp : q = p
    ·have : ((l.filter fun i => !(g i == g a)).filter fun i => (if g i = p then g a else g i) == q) = [] := by
      rw [List.filter_filter]
      refine List.filter_eq_nil_iff.2 fun i _ => ?_
      subst hqp
      by_cases h : g i = q
      ·have : ¬ g a = q := fun e => hq e.symm
       simp [h, this]
      ·simp [h]
     rw [this]
     exact .nil
    ·have : ((l.filter fun i => !(g i == g a)).filter fun i => (if g i = p then g a else g i) == q) = l.filter fun i => g i == q := by
      rw [List.filter_filter]
      refine List.filter_congr fun i _ => ?_
      by_cases h : g i = p
      ·have e1 : (g a == q) = false := by simp; omega
       have e2 : (p == q) = false := by simp; omega
       simp [h, e1, e2]
      ·by_cases h' : g i = q
       ·simp [h', hqp, hq]
       ·simp [h, h']
     rw [this]
     exact h2 q
 ·rintro ⟨sub, hsa, hf, g, h1, h2⟩
  refine ⟨fun i => if sub i then p else g i, fun i hi => ?_, fun q => ?_⟩
  ·dsimp only
   cases hs : sub i with
   | true => simp
   | false =>
    have := h1 i (List.mem_filter.2 ⟨hi, by simp [hs]⟩)
    simp; omega
  ·by_cases hq : q = p
   ·have : (l.filter fun i => (if sub i = true then p else g i) == q) = l.filter sub := by
     refine List.filter_congr fun i hi => ?_
     cases hs : sub i with
     | true => simp [hq]
     | false =>
      have := h1 i (List.mem_filter.2 ⟨hi, by simp [hs]⟩)
      simp; omega
    rw [this]
    exact hf
   ·have : (l.filter fun i => (if sub i = true then p else g i) == q) = (l.filter fun i => !sub i).filter fun i => g i == q := by
     rw [List.filter_filter]
     refine List.filter_congr fun i hi => ?_
     cases hs : sub i with
     | true => simp; omega
     | false => simp
    rw [this]
    exact h2 q
end
end Go.AM
set_option linter.unusedVariables false
namespace Go.AM
open Go
abbrev TT (f : zd) (i : Nat) : Int := z2b f i (·.High)
abbrev UU (f : zd) (i : Nat) : Int := (slp f i).Until
def mem (n S : Nat) : List Nat := (List.range n).filter fun i => S.testBit i
def cst (q : List Nat) : List Int := q.map fun i : Nat => (i : Int)
end Go.AM
set_option linter.unusedVariables false
namespace Go.AM
open Go
def low (S : Nat) : Nat := ((List.range 9).find? fun i => S.testBit i).getD 0
section
variable {T U : Nat → Int}
end
def Ros (f : zd) (p S : Nat) (rows : List (SL Int)) : Prop := rows.length = p ∧ ∃ qs : List (List Nat), rows.map (·.1) = qs.map cst ∧ qs.flatten.Perm (mem (nS f) S) ∧ ∀ q ∈ qs, InT (TT f) (UU f) 0 q
abbrev Can (f : zd) (p S : Nat) : Prop := CanL (TT f) (UU f) p (mem (nS f) S)
def zTw (f : zd) (p S : Nat) (l : SL (SL Int)) : Prop := (l.2 = .nil → ¬ Can f p S) ∧ (l.2 ≠ .nil → Can f p S ∧ Ros f p S l.1)
abbrev Memo := List (zq × SL (SL Int))
def zzs (f : zd) (u : Memo) : Prop := ∀ p S : Nat, S < 2 ^ nS f → ∀ l, zX zu ⟨(S : Int), (p : Int)⟩ u = some l → zTw f p S l
theorem zst (a b : zq) : zu a b = true ↔ a = b := by
 cases a; cases b
 simp [zu]
theorem zzs.set {f : zd} {u : Memo} (h : zzs f u) {p S : Nat} {l : SL (SL Int)} (hl : zTw f p S l) : zzs f (mset zu ⟨(S : Int), (p : Int)⟩ l u) := by
 intro p' S' hS' l' h'
 rw [zEs zst] at h'
 split at h'
 ·rename_i e
  simp only [zq.mk.injEq] at e
  obtain ⟨e1, e2⟩ := e
  obtain rfl : S' = S := by omega
  obtain rfl : p' = p := by omega
  simp only [Option.some.injEq] at h'
  subst h'
  exact hl
 ·exact h p' S' hS' l' h'
end Go.AM
namespace Go.AM
open Go
section
variable {α β : Type}
theorem zdt {n : Nat} (h : n ≤ 1000000) : decide (n ≤ LIM) = true := decide_eq_true (by show _ ≤ 4398046511104; omega)
end
end Go.AM
namespace Go.AM
open Go
section
variable {α β : Type}
theorem zct : ∀ {l l' : List Int}, l.Pairwise (· < ·) → l'.Pairwise (· < ·) → (∀ x, x ∈ l ↔ x ∈ l') → l = l'
 | [], [], _, _, _ => rfl
 | [], b :: t, _, _, h => by have := (h b).2 (.head _); cases this
 | a :: t, [], _, _, h => by have := (h a).1 (.head _); cases this
 | a :: t, b :: t', h1, h2, h => by
  obtain ⟨h3, h4⟩ := List.pairwise_cons.1 h1
  obtain ⟨h5, h6⟩ := List.pairwise_cons.1 h2
  have hab : a = b := by
   have ha := (h a).1 (.head _)
   have hb := (h b).2 (.head _)
   cases ha with
   | head => rfl
   | tail _ ha =>
    cases hb with
    | head => rfl
    | tail _ hb =>
     have := h5 a ha
     have := h3 b hb
     omega
  subst hab
  rw [zct h4 h6 fun x => ?_]
  have hx := h x
  constructor
  ·intro hm
   have := h3 x hm
   cases hx.1 (.tail _ hm) with
   | head => omega
   | tail _ h => exact h
  ·intro hm
   have := h5 x hm
   cases hx.2 (.tail _ hm) with
   | head => omega
   | tail _ h => exact h
end
end Go.AM
set_option linter.unusedVariables false
namespace Go.AM
open Go
structure zHu (S n : Nat) (l : List Int) : Prop where
 climbs : l.Pairwise (· < ·)
 mem : ∀ x, x ∈ l ↔ ∃ i : Nat, x = (i : Int) ∧ i < n ∧ S.testBit i = true
 len : l.length ≤ n
theorem zHu.eq {S n : Nat} {l l' : List Int} (h : zHu S n l) (h' : zHu S n l') : l = l' := zct h.climbs h'.climbs fun x => (h.mem x).trans (h'.mem x).symm
abbrev zJw (l : List Nat) : Prop := l.Pairwise (· < ·)
def ltL (a c : List Nat) : Prop := ∃ x, x ∈ a ∧ x ∉ c ∧ ∀ y, y < x → (y ∈ a ↔ y ∈ c)
theorem z2w {a c : List Nat} (h : ltL a c) (g : ltL c a) : False := by
 obtain ⟨x, h1, h2, h3⟩ := h
 obtain ⟨y, g1, g2, g3⟩ := g
 rcases Nat.lt_trichotomy x y with h4 | h4 | h4
 ·exact h2 ((g3 x h4).2 h1)
 ·subst h4; exact h2 g1
 ·exact g2 ((h3 y h4).2 g1)
def leS (a c : List Nat) : Prop := a.length < c.length ∨ (a.length = c.length ∧ (a = c ∨ ltL a c))
theorem z0v {a c : List Nat} (h : leS a c) (g : leS c a) : a = c := by
 rcases h with h | ⟨h, h'⟩ <;> rcases g with g | ⟨g, g'⟩
 ·omega
 ·omega
 ·omega
 ·rcases h' with rfl | h'
  ·rfl
  ·rcases g' with rfl | g'
   ·rfl
   ·exact (z2w h' g').elim
structure Best (n : Nat) (P : List Nat → Prop) (l : List Nat) : Prop where
 climb : zJw l
 lt : ∀ i ∈ l, i < n
 ok : P l
 least : ∀ l', zJw l' → (∀ i ∈ l', i < n) → P l' → leS l l'
theorem Best.eq {n : Nat} {P : List Nat → Prop} {l l' : List Nat} (h : Best n P l) (g : Best n P l') : l = l' := z0v (h.least l' g.climb g.lt g.ok) (g.least l h.climb h.lt h.ok)
end Go.AM
set_option linter.unusedVariables false
namespace Go.AM
open Go
theorem ztp {k : Nat} {f : zd} (hs : zec f) (hk : Fuel k f) (b : Bool) : (¬ Fine f → zEb k f b = some 30) ∧ (Fine f → zEb k f b = some (if b = true then 0 else 31)) := by
 unfold zEb
 obtain ⟨c, hc, hc'⟩ := zNr hs hk
 rw [hc]
 refine ⟨fun hF => ?_, fun hF => ?_⟩
 ·rw [if_neg hF] at hc'
  subst hc'
  rfl
 ·rw [if_pos hF] at hc'
  subst hc'
  cases b <;> rfl
end Go.AM
set_option linter.unusedVariables false
namespace Go.AM
open Go
def am : List zh → Nat → Int
 | [], _ => 0
 | x :: t, s => (if x.Shelf = (s : Int) then x.Many else 0) + am t s
theorem zDl : ∀ (a b : List zh) (s : Nat), am (a ++ b) s = am a s + am b s
 | [], b, s => by simp [am]
 | x :: a, b, s => by simp only [List.cons_append, am, zDl a b s]; omega
theorem zSi (l : List zh) (x : zh) (s : Nat) : am (l ++ [x]) s = am l s + if x.Shelf = (s : Int) then x.Many else 0 := by
 rw [zDl]; simp [am]
def zgb : List zh → Int
 | [] => 0
 | x :: t => x.Many + zgb t
theorem zhl : ∀ (a b : List zh), zgb (a ++ b) = zgb a + zgb b
 | [], b => by simp [zgb]
 | x :: a, b => by simp only [List.cons_append, zgb, zhl a b]; omega
theorem zcq (l : List zh) (x : zh) : zgb (l ++ [x]) = zgb l + x.Many := by
 rw [zhl]; simp [zgb]
def z2p (l : List zh) : Prop := ∀ x ∈ l, 1 ≤ x.Many ∧ x.Many ≤ 20
theorem zIf {n : Nat} {l : List zh} (h : zM n l) : z2p l := fun x hx => by
 obtain ⟨i, hi, rfl⟩ := List.getElem_of_mem hx
 exact (h i hi).2
theorem zko : ∀ {l : List zh}, z2p l → ∀ s, 0 ≤ am l s ∧ am l s ≤ 20 * l.length
 | [], _, s => by simp [am]
 | x :: t, h, s => by
  have h1 := zko (l := t) (fun y hy => h y (by simp [hy])) s
  have h2 := h x (by simp)
  have e : (20 * ((x :: t).length : Int)) = 20 * (t.length : Int) + 20 := by rw [List.length_cons]; push_cast; omega
  simp only [am]
  split <;> omega
theorem zpn : ∀ {l : List zh}, z2p l → (l.length : Int) ≤ zgb l ∧ zgb l ≤ 20 * l.length
 | [], _ => by simp [zgb]
 | x :: t, h => by
  have h1 := zpn (l := t) (fun y hy => h y (by simp [hy]))
  have h2 := h x (by simp)
  have e : ((x :: t).length : Int) = (t.length : Int) + 1 := by rw [List.length_cons]; push_cast; rfl
  simp only [zgb]
  omega
def tot : List (List zh) → Nat → Int
 | [], _ => 0
 | t :: ts, s => am t s + tot ts s
theorem zNq : ∀ (a b : List (List zh)) (s : Nat), tot (a ++ b) s = tot a s + tot b s
 | [], b, s => by simp [tot]
 | x :: a, b, s => by simp only [List.cons_append, tot, zNq a b s]; omega
theorem zop (a : List (List zh)) (t : List zh) (s : Nat) : tot (a ++ [t]) s = tot a s + am t s := by
 rw [zNq]; simp [tot]
def zwd (f : zd) (t : List zh) : Prop := t ≠ [] ∧ zM (nF f) t ∧ zgb t ≤ f.Carry
theorem zwd.am {f : zd} (hF : Fine f) {t : List zh} (h : zM (nF f) t) (s : Nat) : 0 ≤ am t s ∧ am t s ≤ 240 := by
 have h1 := zko (zIf h) s
 have h2 := zPc h
 have h3 := hF.nfar
 omega
theorem zIq {f : zd} (hF : Fine f) : ∀ {ts : List (List zh)}, (∀ t ∈ ts, zwd f t) → ∀ s, 0 ≤ tot ts s ∧ tot ts s ≤ 240 * ts.length
 | [], _, s => by simp [tot]
 | t :: ts, h, s => by
  have h1 := zIq hF (ts := ts) (fun y hy => h y (by simp [hy])) s
  have h2 := zwd.am hF (h t (by simp)).2.1 s
  have e : (240 * ((t :: ts).length : Int)) = 240 * (ts.length : Int) + 240 := by rw [List.length_cons]; push_cast; omega
  simp only [tot]
  omega
def zXm (f : zd) (i : Nat) (ts : List (List zh)) : Prop := (∀ t ∈ ts, zwd f t) ∧ ∀ s, s < nF f → tot ts s = ((pc (lns f i) s : Nat) : Int)
theorem zjq {n : Nat} {l : List zh} (h : zM n l) : ∀ m, m ≤ l.length → ∀ s, am (l.take m) s = ((pc (l.take m) s : Nat) : Int)
 | 0, _, s => by simp [am, pc]
 | m + 1, hm, s => by
  have hlt : m < l.length := by omega
  have h1 := h m hlt
  have h2 := zne h hlt
  have ih := zjq h m (by omega) s
  have hz := (z1q h m (by omega) l[m].Shelf.toNat (by omega)).1
  rw [List.take_succ_eq_append_getElem hlt, zSi, zjo, ih]
  unfold put1
  by_cases e : l[m].Shelf = (s : Int)
  ·rw [if_pos e, if_pos (by omega), hz s (by omega)]
   omega
  ·rw [if_neg e, if_neg (by omega)]
   omega
theorem zOw {n : Nat} {l : List zh} (h : zM n l) (s : Nat) : am l s = ((pc l s : Nat) : Int) := by
 have := zjq h l.length (Nat.le_refl _) s
 rwa [List.take_length] at this
def zwq (k : Nat) (R : List (SL zh)) : Prop := (R.length < k ∧ R.length ≤ 10000000000000) ∧ ∀ l ∈ R, l.1.length < k ∧ l.1.length < 9223372036854775808
def zMc (f : zd) (g : Nat → Int) (left : List Int) : Prop := left.length = nF f ∧ ∀ s, s < nF f → left[s]? = some (g s)
theorem zMc.idx {f : zd} {g : Nat → Int} {left : List Int} (h : zMc f g left) {s : Nat} (hs : s < nF f) : idx left (s : Int) = some (g s) := by
 simpa [Go.AM.idx] using h.2 s hs
theorem zMc.set {f : zd} {g : Nat → Int} {left : List Int} (h : zMc f g left) {s : Nat} (hs : s < nF f) {v : Int} {g' : Nat → Int} (h1 : g' s = v) (h2 : ∀ x, x ≠ s → g' x = g x) : zMc f g' (left.set s v) := by
 refine ⟨by rw [List.length_set]; exact h.1, fun x hx => ?_⟩
 by_cases e : x = s
 ·subst e
  rw [List.getElem?_set_self (by rw [h.1]; exact hs), h1]
 ·rw [List.getElem?_set_ne (fun h => e h.symm), h.2 x hx, h2 x e]
theorem zot {k : Nat} {f : zd} (hk : Fuel k f) (hF : Fine f) {i : Nat} (hi : i < nS f) (p2 : SL (SL zh)) (v3 : Int) {left : List Int} (hl : zMc f (fun _ => 0) left) :
  Ok (iter (fun s => zFb k f (i : Int) p2 v3 (slp f i) s.1 s.2) k (0, left)) (fun r => zMc f (fun s => ((pc (lns f i) s : Nat) : Int)) r.2) := by
 have hlf : zM (nF f) (lns f i) := (z9c hF hi).2
 have hln := zPc hlf
 have h12 := hF.nfar
 have h0 := hk.k0
 refine Ok.count (lns f i).length (fun j s => s.1 = (j : Int) ∧ zMc f (fun s => am ((lns f i).take j) s) s.2) ?_ ?_ ⟨rfl, by simpa [am] using hl⟩ (by omega)
 ·rintro j ⟨j', m⟩ hj ⟨hj', hm⟩
  obtain rfl : j' = (j : Int) := hj'
  obtain ⟨x, hx⟩ : ∃ x, x = (lns f i)[j] := ⟨_, rfl⟩
  have hmany := (hlf j hj).2
  have hsh := zne hlf hj
  rw [← hx] at hmany hsh
  obtain ⟨s, hs⟩ : ∃ s : Nat, x.Shelf = (s : Int) := ⟨x.Shelf.toNat, by omega⟩
  have hsn : s < nF f := by omega
  have c0 : decide ((j : Int) < ((slp f i).Lines.1.length : Int)) = true := zuc hj
  have e1 : idx (slp f i).Lines.1 (j : Int) = some x := by rw [hx]; exact zLb hj
  have hm : zMc f (fun s => am ((lns f i).take j) s) m := hm
  have hb := zko (l := (lns f i).take j) (fun x hx => zIf hlf x (List.mem_of_mem_take hx)) s
  have hlt : ((lns f i).take j).length ≤ 12 := by rw [List.length_take]; omega
  have w1 : w64 (am ((lns f i).take j) s + x.Many) = am ((lns f i).take j) s + x.Many := zeb (by omega) (by omega)
  simp only [zFb, c0, cond_true, e1, Option.bind_some, hs, hm.idx hsn, w1, Int.toNat_natCast]
  refine Ok.pure ⟨zGb hj (by omega), hm.set hsn ?_ fun y hy => ?_⟩
  ·show am ((lns f i).take (j + 1)) s = _
   rw [List.take_succ_eq_append_getElem hj, ← hx, zSi, if_pos hs]
  ·show am ((lns f i).take (j + 1)) y = _
   rw [List.take_succ_eq_append_getElem hj, ← hx, zSi, if_neg (by omega)]
   omega
 ·rintro ⟨j', m⟩ ⟨hj', hm⟩
  obtain rfl : j' = ((lns f i).length : Int) := hj'
  have c0 : decide (((lns f i).length : Int) < ((slp f i).Lines.1.length : Int)) = false := zpd
  simp only [zFb, c0, cond_false]
  have hm : zMc f (fun s => am ((lns f i).take (lns f i).length) s) m := hm
  rw [List.take_length] at hm
  have e : (fun s => am (lns f i) s) = fun s => ((pc (lns f i) s : Nat) : Int) := funext fun s => zOw hlf s
  rw [e] at hm
  exact Ok.pure hm
theorem zlt {k : Nat} {f : zd} (hk : Fuel k f) (hF : Fine f) (i : Int) {p2 : SL (SL zh)} (v3 : Int) (v7 : zl) (v9 : Int × List Int) {j : Nat} (hj : j < p2.1.length) (hlf : zM (nF f) p2.1[j].1) {g : Nat → Int} (hg : ∀ s, -3000000000000000 ≤ g s ∧ g s ≤ 20) {left : List Int} (hl : zMc f g left) :
  Ok (iter (fun s => zHb k f i p2 v3 v7 v9 (j : Int) s.1 s.2.1 s.2.2) k (0, 0, left)) (fun r => r.1 = zgb p2.1[j].1 ∧ zMc f (fun s => g s - am p2.1[j].1 s) r.2.2) := by
 have h12 := hF.nfar
 have h0 := hk.k0
 have e0 : idx p2.1 (j : Int) = some p2.1[j] := zLb hj
 obtain ⟨t, ht⟩ : ∃ t, t = p2.1[j] := ⟨_, rfl⟩
 rw [← ht] at hlf e0 ⊢
 have hln := zPc hlf
 have hman : ∀ a, z2p (t.1.take a) := fun a x hx => zIf hlf x (List.mem_of_mem_take hx)
 refine Ok.count t.1.length (fun a s => s.2.1 = (a : Int) ∧ s.1 = zgb (t.1.take a) ∧ zMc f (fun s => g s - am (t.1.take a) s) s.2.2) ?_ ?_ ⟨rfl, rfl, by simpa [am] using hl⟩ (by omega)
 ·rintro a ⟨ld, a', m⟩ ha ⟨ha', hld, hm⟩
  obtain rfl : a' = (a : Int) := ha'
  obtain rfl : ld = zgb (t.1.take a) := hld
  have hm : zMc f (fun s => g s - am (t.1.take a) s) m := hm
  obtain ⟨x, hx⟩ : ∃ x, x = t.1[a] := ⟨_, rfl⟩
  have hmany := (hlf a ha).2
  have hsh := zne hlf ha
  rw [← hx] at hmany hsh
  obtain ⟨s, hs⟩ : ∃ s : Nat, x.Shelf = (s : Int) := ⟨x.Shelf.toNat, by omega⟩
  have hsn : s < nF f := by omega
  have e1 : idx t.1 (a : Int) = some x := by rw [hx]; exact zLb ha
  have hb := zko (hman a) s
  have hb2 := zpn (hman a)
  have hlt : (t.1.take a).length ≤ 12 := by rw [List.length_take]; omega
  have hgs := hg s
  have w1 : w64 (zgb (t.1.take a) + x.Many) = zgb (t.1.take (a + 1)) := by
   rw [List.take_succ_eq_append_getElem ha, ← hx, zcq]; exact zeb (by omega) (by omega)
  have w2 : w64 (g s - am (t.1.take a) s - x.Many) = g s - am (t.1.take a) s - x.Many := zeb (by omega) (by omega)
  have ei := hm.idx hsn
  simp only [zHb, e0, Option.bind_some, zuc ha, cond_true, e1, hs, ei, w1, w2, Int.toNat_natCast]
  refine Ok.pure ⟨zGb ha (by omega), rfl, hm.set hsn ?_ fun y hy => ?_⟩
  ·show g s - am (t.1.take (a + 1)) s = _
   rw [List.take_succ_eq_append_getElem ha, ← hx, zSi, if_pos hs]
   omega
  ·show g y - am (t.1.take (a + 1)) y = _
   rw [List.take_succ_eq_append_getElem ha, ← hx, zSi, if_neg (by omega)]
   omega
 ·rintro ⟨ld, a', m⟩ ⟨ha', hld, hm⟩
  obtain rfl : a' = (t.1.length : Int) := ha'
  simp only [zHb, e0, Option.bind_some, zpd, cond_false]
  have hm : zMc f (fun s => g s - am (t.1.take t.1.length) s) m := hm
  have hld : ld = zgb (t.1.take t.1.length) := hld
  rw [List.take_length] at hm hld
  exact Ok.pure ⟨hld, hm⟩
def zPp (f : zd) (n : Int) (R : List (SL zh)) (r : Bool × Int) : Prop :=
 (¬ Fine f ∧ r = (false, 30)) ∨ (Fine f ∧ ¬ (0 ≤ n ∧ n < (nS f : Int)) ∧ r = (false, 31)) ∨ (Fine f ∧ ∃ i : Nat, i < nS f ∧ n = (i : Int) ∧ r.2 = 0 ∧ (r.1 = true ↔ zXm f i (R.map (·.1))))
theorem zjf (f : zd) (n : Int) : (decide (0 ≤ n) && decide (n ≤ (nS f : Int) - 1)) = true ↔ 0 ≤ n ∧ n < (nS f : Int) := by
 simp only [Bool.and_eq_true, decide_eq_true_eq]
 omega
theorem zFo {k : Nat} {f : zd} (hs : zec f) (hk : Fuel k f) (n : Int) {p2 : SL (SL zh)} (hR : zwq k p2.1) : Ok (z3b k f n p2) (zPp f n p2.1) := by
 unfold z3b
 have wn : w64 ((f.Slips.1.length : Int) - 1) = (nS f : Int) - 1 := zVf hs.slips
 obtain ⟨a1, a2⟩ := ztp hs hk (decide (0 ≤ n) && decide (n ≤ (nS f : Int) - 1))
 simp only [zzb, zph, Option.bind_some, wn]
 by_cases hF : Fine f
 ·rw [a2 hF]
  by_cases hn : 0 ≤ n ∧ n < (nS f : Int)
  ·rw [(zjf f n).2 hn]
   obtain ⟨i, rfl⟩ : ∃ i : Nat, n = (i : Int) := ⟨n.toNat, by omega⟩
   have hi : i < nS f := by omega
   have h12 := hF.nfar
   have h0 := hk.k0
   have hlf : zM (nF f) (lns f i) := (z9c hF hi).2
   have hpc := zCm hlf
   have t : ((0 : Int) != 0) = false := by decide
   have c0 : (decide (0 ≤ (f.Far.1.length : Int)) && decide ((f.Far.1.length : Int) ≤ (LIM : Int))) = true := by
    have h2 : decide (nF f ≤ LIM) = true := zdt (by omega)
    have h3 : nF f ≤ LIM := by simpa using h2
    simp only [Bool.and_eq_true, decide_eq_true_eq]
    exact ⟨by omega, by have : f.Far.1.length = nF f := rfl; omega⟩
   simp only [if_true, t, cond_false, c0, cond_true, zak hi, Option.bind_some]
   have hl0 : zMc f (fun _ => 0) (List.replicate (f.Far.1.length : Int).toNat (0 : Int)) := ⟨by rw [List.length_replicate]; rfl, fun s hs => by
    rw [List.getElem?_replicate, if_pos (by rw [Int.toNat_natCast]; exact hs)]⟩
   refine Ok.bind (zot hk hF hi p2 0 hl0) fun v9 h9 => ?_
   have map_take : ∀ j, (p2.1.take j).map (·.1) = (p2.1.map (·.1)).take j := fun j => List.map_take
   refine Ok.bind (Ok.count p2.1.length (fun j s => s.1 = (j : Int) ∧ (∀ t ∈ (p2.1.take j).map (·.1), zwd f t) ∧ zMc f (fun s => ((pc (lns f i) s : Nat) : Int) - tot ((p2.1.take j).map (·.1)) s) s.2) (Q := fun r : (Int × List Int) ⊕ ((Int × Int × Int × List Int) ⊕ (Int × List Int)) => match r with
    | .inl _ => ¬ ∀ t ∈ p2.1.map (·.1), zwd f t
    | .inr (.inl _) => ¬ ∀ t ∈ p2.1.map (·.1), zwd f t
    | .inr (.inr z) => (∀ t ∈ p2.1.map (·.1), zwd f t) ∧ zMc f (fun s => ((pc (lns f i) s : Nat) : Int) - tot (p2.1.map (·.1)) s) z.2) ?_ ?_ ⟨rfl, fun t ht => by simp at ht, by simpa [tot] using h9⟩ hR.1.1) fun r hr => ?_
   ·rintro j ⟨j', left⟩ hj ⟨hj', hall, hl⟩
    obtain rfl : j' = (j : Int) := hj'
    have hl : zMc f (fun s => ((pc (lns f i) s : Nat) : Int) - tot ((p2.1.take j).map (·.1)) s) left := hl
    have hmem : p2.1[j].1 ∈ p2.1.map (·.1) := List.mem_map.2 ⟨_, List.getElem_mem hj, rfl⟩
    have hrow := hR.2 _ (List.getElem_mem hj)
    have hJ : Ok (z8b k f (i : Int) p2 0 (slp f i) v9 (j : Int) left) (fun r => r = false ↔ p2.1[j].1 ≠ [] ∧ zM (nF f) p2.1[j].1) := by
     simp only [z8b, zLb hj, Option.bind_some]
     refine Ok.cond (fun hc => Ok.pure ⟨fun h => (by cases h), fun h => ?_⟩) fun hc => ?_
     ·have : p2.1[j].1.length = 0 := by have := eq_of_beq hc; omega
      exact absurd (List.length_eq_zero_iff.1 this) h.1
     ·refine Ok.bind (zJr hs hrow.2 hrow.1) fun r hr => Ok.pure ?_
      have hne : p2.1[j].1 ≠ [] := fun e => by rw [e] at hc; simp at hc
      constructor
      ·intro h
       exact ⟨hne, hr.1 (by simpa using h)⟩
      ·rintro ⟨_, h⟩
       rw [hr.2 h]; rfl
    simp only [z4b, zuc hj, cond_true]
    refine Ok.bind hJ fun b hb => ?_
    cases b with
    | true =>
     refine Ok.pure fun h => ?_
     have := h _ hmem
     have h2 := hb.2 ⟨this.1, this.2.1⟩
     cases h2
    | false =>
     obtain ⟨hne, hlf2⟩ := hb.1 rfl
     simp only [cond_false]
     have hti := zIq hF hall
     have hlen : ((p2.1.take j).map (·.1)).length ≤ 10000000000000 := by rw [List.length_map, List.length_take]; have := hR.1.2; omega
     refine Ok.bind (zlt hk hF (i : Int) 0 (slp f i) v9 hj hlf2 (g := fun s => ((pc (lns f i) s : Nat) : Int) - tot ((p2.1.take j).map (·.1)) s) (fun s => by
      have h1 := hti s
      have h2 := hpc.1 s
      show -3000000000000000 ≤ ((pc (lns f i) s : Nat) : Int) - tot ((p2.1.take j).map (·.1)) s ∧ _
      omega) hl) fun w ⟨hw1, hw2⟩ => ?_
     rw [hw1]
     refine Ok.cond (fun hc => Ok.pure fun h => ?_) fun hc => Ok.pure ⟨zGb hj (by have := hR.1.2; omega), ?_, ?_⟩
     ·have := (h _ hmem).2.2
      have hc : zgb p2.1[j].1 > f.Carry := by simpa using hc
      omega
     ·intro t ht
      rw [List.take_succ_eq_append_getElem hj, List.map_append] at ht
      rcases List.mem_append.1 ht with h | h
      ·exact hall t h
      ·obtain rfl : t = p2.1[j].1 := by simpa using h
       have hc : ¬ zgb p2.1[j].1 > f.Carry := by simpa using hc
       exact ⟨hne, hlf2, by omega⟩
     ·have e : (fun s => ((pc (lns f i) s : Nat) : Int) - tot ((p2.1.take (j + 1)).map (·.1)) s) = fun s => ((pc (lns f i) s : Nat) : Int) - tot ((p2.1.take j).map (·.1)) s - am p2.1[j].1 s := funext fun s => by
       rw [List.take_succ_eq_append_getElem hj, List.map_append]
       show _ - tot (_ ++ [p2.1[j].1]) s = _
       rw [zop]
       omega
      rw [e]
      exact hw2
   ·rintro ⟨j', left⟩ ⟨hj', hall, hl⟩
    obtain rfl : j' = (p2.1.length : Int) := hj'
    simp only [z4b, zpd, cond_false]
    have hl : zMc f (fun s => ((pc (lns f i) s : Nat) : Int) - tot ((p2.1.take p2.1.length).map (·.1)) s) left := hl
    rw [List.take_length] at hl hall
    exact Ok.pure ⟨hall, hl⟩
   ·cases r with
    | inl z => exact Ok.pure (.inr (.inr ⟨hF, i, hi, rfl, rfl, ⟨fun h => (by cases h), fun h => absurd h.1 hr⟩⟩))
    | inr r =>
     cases r with
     | inl z => exact Ok.pure (.inr (.inr ⟨hF, i, hi, rfl, rfl, ⟨fun h => (by cases h), fun h => absurd h.1 hr⟩⟩))
     | inr z =>
      obtain ⟨hall, hl⟩ := hr
      simp only [Sum.elim_inr]
      refine Ok.bind (Ok.count (nF f) (fun j s => s = (j : Int) ∧ ∀ s, s < j → tot (p2.1.map (·.1)) s = ((pc (lns f i) s : Nat) : Int)) (Q := fun r : Int ⊕ Int => match r with
       | .inl _ => ¬ ∀ s, s < nF f → tot (p2.1.map (·.1)) s = ((pc (lns f i) s : Nat) : Int)
       | .inr _ => ∀ s, s < nF f → tot (p2.1.map (·.1)) s = ((pc (lns f i) s : Nat) : Int)) ?_ ?_ ⟨rfl, fun s h => absurd h (by omega)⟩ hk.far) fun r hr => ?_
      ·rintro j s hj ⟨rfl, hz⟩
       have c1 : decide ((j : Int) < (z.2.length : Int)) = true := by rw [hl.1]; exact decide_eq_true (by omega)
       simp only [z5b, c1, cond_true, hl.idx hj, Option.bind_some]
       refine Ok.cond (fun hc => Ok.pure fun h => ?_) fun hc => Ok.pure ⟨zGb hj hs.far, fun s hs' => ?_⟩
       ·have := h j hj
        rw [this] at hc
        simp at hc
       ·by_cases e : s = j
        ·subst e
         have : ((pc (lns f i) s : Nat) : Int) - tot (p2.1.map (·.1)) s = 0 := by simpa using hc
         omega
        ·exact hz s (by omega)
      ·rintro s ⟨rfl, hz⟩
       have c1 : decide ((nF f : Int) < (z.2.length : Int)) = false := by rw [hl.1]; exact decide_eq_false (by omega)
       simp only [z5b, c1, cond_false]
       exact Ok.pure hz
      ·cases r with
       | inl w => exact Ok.pure (.inr (.inr ⟨hF, i, hi, rfl, rfl, ⟨fun h => (by cases h), fun h => absurd h.2 hr⟩⟩))
       | inr w => exact Ok.pure (.inr (.inr ⟨hF, i, hi, rfl, rfl, ⟨fun _ => ⟨hall, hr⟩, fun _ => rfl⟩⟩))
  ·have e : (decide (0 ≤ n) && decide (n ≤ (nS f : Int) - 1)) = false := by
    cases hd : (decide (0 ≤ n) && decide (n ≤ (nS f : Int) - 1)) with
    | false => rfl
    | true => exact absurd ((zjf f n).1 hd) hn
   rw [e]
   exact Ok.pure (.inr (.inl ⟨hF, hn, rfl⟩))
 ·rw [a1 hF]
  exact Ok.pure (.inl ⟨hF, rfl⟩)
end Go.AM
set_option linter.unusedVariables false
namespace Go.AM
open Go
def z0s (n : Nat) (l : List zh) (i : Nat) (h : i < l.length) : Prop := (shB l i + 1 ≤ l[i].Shelf ∧ l[i].Shelf ≤ (n : Int) - 1) ∧ (1 ≤ l[i].Many ∧ l[i].Many ≤ 20)
theorem zrw (l : List zh) (a : Nat) : ∀ {j}, j ≤ a → shB (l.take a) j = shB l j
 | 0, _ => rfl
 | j + 1, h => by
  show sh (l.take a) j = sh l j
  unfold sh
  rw [List.getElem?_take, if_pos (by omega)]
theorem zzu {n : Nat} {l : List zh} {a : Nat} (h : ∀ i (hi : i < l.length), i < a → z0s n l i hi) : zM n (l.take a) := fun j hj => by
 have hj2 : j < a ∧ j < l.length := by rw [List.length_take] at hj; omega
 have := h j hj2.2 hj2.1
 rw [zrw l a (by omega), List.getElem_take]
 exact this
theorem zix {n : Nat} {l : List zh} (h : zM n l) {s : Nat} (hs : n ≤ s) : am l s = 0 := by
 rw [zOw h, (zCm h).2 s hs]
 rfl
theorem zpx {n : Nat} {l : List zh} (h : zM n l) (a s : Nat) : am (l.take a) s ≤ am l s := by
 have h1 : am l s = am (l.take a) s + am (l.drop a) s := by rw [← zDl, List.take_append_drop]
 have h2 := (zko (l := l.drop a) (fun x hx => zIf h x (List.mem_of_mem_drop hx)) s).1
 omega
theorem zzr : ∀ (L : List (List zh)) {j : Nat} (h : j < L.length) (x : Nat), tot L x = tot (L.take j) x + am L[j] x + tot (L.drop (j + 1)) x
 | t :: ts, 0, _, x => by simp [tot]
 | t :: ts, j + 1, h, x => by
  have := zzr ts (j := j) (by simpa using h) x
  simp only [List.take_succ_cons, List.drop_succ_cons, List.getElem_cons_succ, tot]
  omega
theorem zuu {k : Nat} {f : zd} (hs : zec f) (hk : Fuel k f) (hF : Fine f) (i : Int) (p2 : SL (SL zh)) (s1 : Int) {t : SL zh} (hrow : t.1.length < k ∧ t.1.length < 9223372036854775808) {left0 : Nat → Int} (h20 : ∀ s, s < nF f → 0 ≤ left0 s ∧ left0 s ≤ 20) :
  Ok (iter (fun s => zAd k f i p2 s1 t s.1 s.2.1 s.2.2.1 s.2.2.2) k ((-1), 0, 0, left0)) (fun r => match r with
   | .inl _ => ¬ (zM (nF f) t.1 ∧ ∀ s, s < nF f → am t.1 s ≤ left0 s)
   | .inr z => zM (nF f) t.1 ∧ z.2.1 = zgb t.1 ∧ (∀ s, s < 12 → z.2.2.2 s = left0 s - am t.1 s) ∧ ∀ s, s < nF f → 0 ≤ z.2.2.2 s) := by
 have h12 := hF.nfar
 have h0 := hk.k0
 refine Ok.count t.1.length (fun a s => s.2.2.1 = (a : Int) ∧ s.1 = shB t.1 a ∧ s.2.1 = zgb (t.1.take a) ∧ (∀ x, x < 12 → s.2.2.2 x = left0 x - am (t.1.take a) x) ∧ (∀ x, x < nF f → 0 ≤ s.2.2.2 x) ∧ ∀ i (hi : i < t.1.length), i < a → z0s (nF f) t.1 i hi) ?_ ?_ ⟨rfl, rfl, rfl, fun x _ => by simp [am], fun x hx => (h20 x hx).1, fun i _ h => absurd h (by omega)⟩ hrow.1
 ·rintro a ⟨last, all, a', left⟩ ha ⟨ha', hlast, hall, hleft, hpos, hP⟩
  obtain rfl : a' = (a : Int) := ha'
  obtain rfl : last = shB t.1 a := hlast
  obtain rfl : all = zgb (t.1.take a) := hall
  have hleft : ∀ x, x < 12 → left x = left0 x - am (t.1.take a) x := hleft
  have hpos : ∀ x, x < nF f → 0 ≤ left x := hpos
  have hlt := zzu hP
  have hlen : a ≤ 12 := by
   have h1 := zPc hlt
   rw [List.length_take] at h1
   omega
  obtain ⟨x, hx⟩ : ∃ x, x = t.1[a] := ⟨_, rfl⟩
  have hlow := zmo (l := t.1) (j := a) (by omega) fun i hi hij => (hP i hi hij).1.1
  have hup : shB t.1 a ≤ (nF f : Int) - 1 := by
   cases a with
   | zero => simp only [shB]; omega
   | succ j =>
    have := (hP j (by omega) (by omega)).1.2
    rw [zPg (by omega)] at this
    simp only [shB]
    omega
  have w0 : w64 (shB t.1 a + 1) = shB t.1 a + 1 := zeb (by omega) (by omega)
  have wn : w64 ((f.Far.1.length : Int) - 1) = (nF f : Int) - 1 := zVf hs.far
  have e1 : idx t.1 (a : Int) = some x := by rw [hx]; exact zLb ha
  have hb2 := zpn (zIf hlt)
  have hll : (t.1.take a).length ≤ 12 := by rw [List.length_take]; omega
  simp only [zAd, zuc ha, cond_true, e1, Option.bind_some, zgg, zsg, w0, wn]
  by_cases hc1 : shB t.1 a + 1 ≤ x.Shelf ∧ x.Shelf ≤ (nF f : Int) - 1
  ·have d1 : (decide (shB t.1 a + 1 ≤ x.Shelf) && decide (x.Shelf ≤ (nF f : Int) - 1)) = true := by
    simp only [Bool.and_eq_true, decide_eq_true_eq]; exact hc1
   obtain ⟨s, hse⟩ : ∃ s : Nat, x.Shelf = (s : Int) := ⟨x.Shelf.toNat, by omega⟩
   have hsn : s < nF f := by omega
   have d2 : (decide (0 ≤ x.Shelf) && decide (x.Shelf < 12)) = true := by
    simp only [Bool.and_eq_true, decide_eq_true_eq]; omega
   have hls := hleft s (by omega)
   have hps := hpos s hsn
   have hb := zko (zIf hlt) s
   have h20s := h20 s hsn
   rw [d1, d2]
   simp only [Bool.not_true, cond_false, cond_true, Option.bind_some, hse, Int.toNat_natCast]
   by_cases hc2 : 1 ≤ x.Many ∧ x.Many ≤ left s
   ·have d3 : (decide (1 ≤ x.Many) && decide (x.Many ≤ left s)) = true := by
     simp only [Bool.and_eq_true, decide_eq_true_eq]; exact hc2
    have w1 : w64 (zgb (t.1.take a) + x.Many) = zgb (t.1.take (a + 1)) := by
     rw [List.take_succ_eq_append_getElem ha, ← hx, zcq]; exact zeb (by omega) (by omega)
    have w2 : w64 (left s - x.Many) = left s - x.Many := zeb (by omega) (by omega)
    rw [d3, w1, w2]
    simp only [Bool.not_true, cond_false]
    refine Ok.pure ⟨zGb ha hrow.2, ?_, rfl, fun y hy => ?_, fun y hy => ?_, fun i hi hia => ?_⟩
    ·show (s : Int) = sh t.1 a
     rw [← zPg ha, ← hx, hse]
    ·show upd left s (left s - x.Many) y = _
     rw [List.take_succ_eq_append_getElem ha, ← hx, zSi]
     unfold upd
     by_cases e : y = s
     ·rw [if_pos e, if_pos (by omega), e, hls]; omega
     ·rw [if_neg e, if_neg (by omega), hleft y hy]; omega
    ·show 0 ≤ upd left s (left s - x.Many) y
     unfold upd
     split
     ·omega
     ·exact hpos y hy
    ·by_cases e : i = a
     ·subst e
      unfold z0s
      rw [← hx]
      exact ⟨hc1, by omega⟩
     ·exact hP i hi (by omega)
   ·have d3 : (decide (1 ≤ x.Many) && decide (x.Many ≤ left s)) = false := by
     cases hd : (decide (1 ≤ x.Many) && decide (x.Many ≤ left s)) with
     | false => rfl
     | true => simp only [Bool.and_eq_true, decide_eq_true_eq] at hd; exact absurd hd hc2
    rw [d3]
    simp only [Bool.not_false, cond_true]
    refine Ok.pure fun ⟨hl, ham⟩ => ?_
    have h1 := (hl a ha).2.1
    rw [← hx] at h1
    have h2 := ham s hsn
    have h3 := zpx hl (a + 1) s
    rw [List.take_succ_eq_append_getElem ha, ← hx, zSi, if_pos hse] at h3
    omega
  ·have d1 : (decide (shB t.1 a + 1 ≤ x.Shelf) && decide (x.Shelf ≤ (nF f : Int) - 1)) = false := by
    cases hd : (decide (shB t.1 a + 1 ≤ x.Shelf) && decide (x.Shelf ≤ (nF f : Int) - 1)) with
    | false => rfl
    | true => simp only [Bool.and_eq_true, decide_eq_true_eq] at hd; exact absurd hd hc1
   rw [d1]
   simp only [Bool.not_false, cond_true, Option.bind_some]
   refine Ok.pure fun ⟨hl, _⟩ => hc1 ?_
   have h1 := (hl a ha).1
   rw [← hx] at h1
   exact h1
 ·rintro ⟨last, all, a', left⟩ ⟨ha', hlast, hall, hleft, hpos, hP⟩
  obtain rfl : a' = (t.1.length : Int) := ha'
  simp only [zAd, zpd, cond_false]
  have hl : zM (nF f) t.1 := fun i hi => hP i hi hi
  have hall : all = zgb (t.1.take t.1.length) := hall
  have hleft : ∀ x, x < 12 → left x = left0 x - am (t.1.take t.1.length) x := hleft
  rw [List.take_length] at hall hleft
  exact Ok.pure ⟨hl, hall, hleft, hpos⟩
theorem zju {k : Nat} {f : zd} (hs : zec f) (hk : Fuel k f) (n : Int) {p2 : SL (SL zh)} (hR : zwq k p2.1) : Ok (zbf k f n p2) (zPp f n p2.1) := by
 unfold zbf
 obtain ⟨c, hc, hc'⟩ := zth hs hk
 rw [hc]
 by_cases hF : Fine f
 ·rw [if_pos hF] at hc'
  subst hc'
  have t : ((0 : Int) != 0) = false := by decide
  simp only [Option.bind_some, t, cond_false, zjj hs]
  by_cases hn : 0 ≤ n ∧ n < (nS f : Int)
  ·rw [(zjf f n).2 hn]
   obtain ⟨i, rfl⟩ : ∃ i : Nat, n = (i : Int) := ⟨n.toNat, by omega⟩
   have hi : i < nS f := by omega
   have h12 := hF.nfar
   have h0 := hk.k0
   have hlf : zM (nF f) (lns f i) := (z9c hF hi).2
   have hpc := zCm hlf
   simp only [Bool.not_true, cond_false]
   refine Ok.bind (z3n hs hk hF hi) fun g hg => ?_
   refine Ok.bind (Ok.count p2.1.length (fun j s => s.1 = (j : Int) ∧ (∀ t ∈ (p2.1.take j).map (·.1), zwd f t) ∧ (∀ x, x < 12 → s.2 x = ((pc (lns f i) x : Nat) : Int) - tot ((p2.1.take j).map (·.1)) x) ∧ ∀ x, x < nF f → 0 ≤ s.2 x)
    (Q := fun r : (Int × (SL zh) × Int × Int × Int × Int × (Nat → Int) × Int × Int) ⊕ ((Int × (SL zh) × Int × Int × Int × Int × (Nat → Int)) ⊕ (Int × (Nat → Int))) => match r with
    | .inl _ => ¬ zXm f i (p2.1.map (·.1))
    | .inr (.inl _) => ¬ zXm f i (p2.1.map (·.1))
    | .inr (.inr z) => (∀ t ∈ p2.1.map (·.1), zwd f t) ∧ ∀ x, x < 12 → z.2 x = ((pc (lns f i) x : Nat) : Int) - tot (p2.1.map (·.1)) x) ?_ ?_ ⟨rfl, fun t ht => by simp at ht, fun x _ => by
     show g x = _
     rw [hg x]; simp [tot], fun x _ => by show 0 ≤ g x; rw [hg x]; omega⟩ hR.1.1) fun r hr => ?_
   ·rintro j ⟨j', left⟩ hj ⟨hj', hall, hl, hpos⟩
    obtain rfl : j' = (j : Int) := hj'
    have hl : ∀ x, x < 12 → left x = ((pc (lns f i) x : Nat) : Int) - tot ((p2.1.take j).map (·.1)) x := hl
    have hpos : ∀ x, x < nF f → 0 ≤ left x := hpos
    have hti := zIq hF hall
    have hmem : p2.1[j].1 ∈ p2.1.map (·.1) := List.mem_map.2 ⟨_, List.getElem_mem hj, rfl⟩
    have hrow := hR.2 _ (List.getElem_mem hj)
    have split3 : ∀ x, tot (p2.1.map (·.1)) x = tot ((p2.1.take j).map (·.1)) x + am p2.1[j].1 x + tot ((p2.1.drop (j + 1)).map (·.1)) x := fun x => by
     have h1 := zzr (p2.1.map (·.1)) (j := j) (by rw [List.length_map]; exact hj) x
     rw [List.getElem_map, ← List.map_take, ← List.map_drop] at h1
     exact h1
    simp only [zHe, zuc hj, cond_true, zLb hj, Option.bind_some]
    refine Ok.bind (zuu hs hk hF (i : Int) p2 (j : Int) hrow (left0 := left) fun x hx => ⟨hpos x hx, by
     have h1 := hl x (by omega)
     have h2 := (hti x).1
     have h3 := hpc.1 x
     omega⟩) fun r hr => ?_
    cases r with
    | inl z =>
     refine Ok.pure fun h => hr ⟨(h.1 _ hmem).2.1, fun x hx => ?_⟩
     have h1 := h.2 x hx
     have h2 := hl x (by omega)
     have h3 := split3 x
     have h4 := (zIq hF (ts := (p2.1.drop (j + 1)).map (·.1)) (fun t ht => h.1 t (by
      obtain ⟨u, hu, rfl⟩ := List.mem_map.1 ht
      exact List.mem_map.2 ⟨u, List.mem_of_mem_drop hu, rfl⟩)) x).1
     omega
    | inr z =>
     obtain ⟨hlf2, hld, hz, hzp⟩ := hr
     have hlo := zpn (zIf hlf2)
     have hln2 := zPc hlf2
     simp only [Sum.elim_inr, zsg, hld, Option.bind_some]
     by_cases hc1 : 1 ≤ zgb p2.1[j].1 ∧ zgb p2.1[j].1 ≤ f.Carry
     ·have d1 : (decide (1 ≤ zgb p2.1[j].1) && decide (zgb p2.1[j].1 ≤ f.Carry)) = true := by
       simp only [Bool.and_eq_true, decide_eq_true_eq]; exact hc1
      rw [d1]
      simp only [Bool.not_true, cond_false]
      refine Ok.pure ⟨zGb hj (by have := hR.1.2; omega), fun t ht => ?_, fun x hx => ?_, hzp⟩
      ·rw [List.take_succ_eq_append_getElem hj, List.map_append] at ht
       rcases List.mem_append.1 ht with h | h
       ·exact hall t h
       ·obtain rfl : t = p2.1[j].1 := by simpa using h
        refine ⟨fun e => ?_, hlf2, hc1.2⟩
        rw [e] at hc1
        simp only [zgb] at hc1
        omega
      ·show z.2.2.2 x = _
       rw [hz x hx, hl x hx, List.take_succ_eq_append_getElem hj, List.map_append]
       show _ = _ - tot (_ ++ [p2.1[j].1]) x
       rw [zop]
       omega
     ·have d1 : (decide (1 ≤ zgb p2.1[j].1) && decide (zgb p2.1[j].1 ≤ f.Carry)) = false := by
       cases hd : (decide (1 ≤ zgb p2.1[j].1) && decide (zgb p2.1[j].1 ≤ f.Carry)) with
       | false => rfl
       | true => simp only [Bool.and_eq_true, decide_eq_true_eq] at hd; exact absurd hd hc1
      rw [d1]
      simp only [Bool.not_false, cond_true]
      refine Ok.pure fun h => hc1 ?_
      obtain ⟨h1, h2, h3⟩ := h.1 _ hmem
      have : 0 < p2.1[j].1.length := List.length_pos_iff.2 h1
      exact ⟨by omega, h3⟩
   ·rintro ⟨j', left⟩ ⟨hj', hall, hl, hpos⟩
    obtain rfl : j' = (p2.1.length : Int) := hj'
    simp only [zHe, zpd, cond_false]
    have hl : ∀ x, x < 12 → left x = ((pc (lns f i) x : Nat) : Int) - tot ((p2.1.take p2.1.length).map (·.1)) x := hl
    rw [List.take_length] at hl hall
    exact Ok.pure ⟨hall, hl⟩
   ·cases r with
    | inl z => exact Ok.pure (.inr (.inr ⟨hF, i, hi, rfl, rfl, ⟨fun h => (by cases h), fun h => absurd h hr⟩⟩))
    | inr r =>
     cases r with
     | inl z => exact Ok.pure (.inr (.inr ⟨hF, i, hi, rfl, rfl, ⟨fun h => (by cases h), fun h => absurd h hr⟩⟩))
     | inr z =>
      obtain ⟨hall, hl⟩ := hr
      simp only [Sum.elim_inr, zsn, Option.bind_some]
      refine Ok.pure (.inr (.inr ⟨hF, i, hi, rfl, rfl, ?_⟩))
      show eqI z.2 (fun _ => 0) 0 12 = true ↔ _
      rw [zbk]
      constructor
      ·intro h
       refine ⟨hall, fun x hx => ?_⟩
       have h1 := h x (by omega) (by omega)
       rw [hl x (by omega)] at h1
       omega
      ·intro h x _ hx
       rw [hl x (by omega)]
       by_cases e : x < nF f
       ·rw [h.2 x e]; omega
       ·have h1 : ∀ ts : List (List zh), (∀ t ∈ ts, zwd f t) → tot ts x = 0 := by
         intro ts
         induction ts with
         | nil => intro _; rfl
         | cons t ts ih =>
          intro h
          simp only [tot]
          rw [zix (h t (by simp)).2.1 (by omega), ih fun y hy => h y (by simp [hy])]
          rfl
        rw [h1 _ hall, hpc.2 x (by omega)]
        rfl
  ·have e : (decide (0 ≤ n) && decide (n ≤ (nS f : Int) - 1)) = false := by
    cases hd : (decide (0 ≤ n) && decide (n ≤ (nS f : Int) - 1)) with
    | false => rfl
    | true => exact absurd ((zjf f n).1 hd) hn
   rw [e]
   exact Ok.pure (.inr (.inl ⟨hF, hn, rfl⟩))
 ·rw [if_neg hF] at hc'
  subst hc'
  have t : ((30 : Int) != 0) = true := by decide
  simp only [Option.bind_some, t, cond_true]
  exact Ok.pure (.inl ⟨hF, rfl⟩)
end Go.AM
set_option linter.unusedVariables false
namespace Go.AM
open Go
def zY (b : Nat → Nat) : Nat → List zh
 | 0 => []
 | m + 1 => zY b m ++ (if 0 < b m then [⟨(m : Int), (b m : Int)⟩] else [])
theorem z5t {n : Nat} {l : List zh} (h : zM n l) {x : zh} (h1 : shB l l.length + 1 ≤ x.Shelf) (h2 : x.Shelf ≤ (n : Int) - 1) (h3 : 1 ≤ x.Many ∧ x.Many ≤ 20) : zM n (l ++ [x]) := fun j hj => by
 have hb : ∀ i, i ≤ l.length → shB (l ++ [x]) i = shB l i := fun i hi => by
  cases i with
  | zero => rfl
  | succ i =>
   show sh (l ++ [x]) i = sh l i
   unfold sh
   rw [List.getElem?_append_left (by omega)]
 rw [List.length_append] at hj
 have hj : j < l.length + 1 := by simpa using hj
 rw [hb j (by omega)]
 by_cases e : j < l.length
 ·rw [List.getElem_append_left e]
  exact h j e
 ·have e : j = l.length := by omega
  subst e
  rw [List.getElem_append_right (by omega)]
  simp only [Nat.sub_self, List.getElem_cons_zero]
  exact ⟨⟨h1, h2⟩, h3⟩
def zLf (t : List zh) : Int := ((t.getLast?).map (·.Shelf)).getD 0
theorem zMv {t : List zh} (h : t ≠ []) : shB t t.length = zLf t := by
 have : 0 < t.length := List.length_pos_iff.2 h
 obtain ⟨m, hm⟩ : ∃ m, t.length = m + 1 := ⟨t.length - 1, by omega⟩
 unfold zLf
 rw [List.getLast?_eq_getElem?, hm]
 rfl
theorem zfu (t : List zh) (x : zh) : zLf (t ++ [x]) = x.Shelf := by
 simp [zLf]
theorem zxn (b : Nat → Nat) : ∀ m, (zY b m = [] ∧ ∀ s, s < m → b s = 0) ∨ (zY b m ≠ [] ∧ ∃ s : Nat, zLf (zY b m) = (s : Int) ∧ s < m ∧ ∀ far : Nat → Int, topF b far m = far s)
 | 0 => .inl ⟨rfl, fun s h => absurd h (by omega)⟩
 | m + 1 => by
  by_cases hb : 0 < b m
  ·refine .inr ⟨?_, m, ?_, by omega, fun far => ?_⟩
   ·simp [zY, hb]
   ·simp only [zY, if_pos hb, zfu]
   ·rw [topF, if_pos hb]
  ·have e : zY b (m + 1) = zY b m := by simp only [zY, if_neg hb, List.append_nil]
   rw [e]
   rcases zxn b m with ⟨h1, h2⟩ | ⟨h1, s, h2, h3, h4⟩
   ·refine .inl ⟨h1, fun s hs => ?_⟩
    by_cases e : s = m
    ·subst e; omega
    ·exact h2 s (by omega)
   ·exact .inr ⟨h1, s, h2, by omega, fun far => by rw [topF, if_neg hb]; exact h4 far⟩
theorem zDo {n : Nat} {b : Nat → Nat} (h20 : ∀ s, b s ≤ 20) (hz : ∀ s, n ≤ s → b s = 0) : ∀ m, zM n (zY b m)
 | 0 => fun j hj => by simp [zY] at hj
 | m + 1 => by
  have ih := zDo h20 hz m
  by_cases hb : 0 < b m
  ·simp only [zY, if_pos hb]
   have hmn : m < n := Classical.byContradiction fun hc => by have := hz m (by omega); omega
   have := h20 m
   refine z5t ih ?_ (by show (m : Int) ≤ _; omega) (by show 1 ≤ ((b m : Nat) : Int) ∧ ((b m : Nat) : Int) ≤ 20; omega)
   show _ ≤ (m : Int)
   rcases zxn b m with ⟨h1, _⟩ | ⟨h1, s, h2, h3, _⟩
   ·rw [h1]; simp only [List.length_nil, shB]; omega
   ·rw [zMv h1, h2]; omega
  ·have e : zY b (m + 1) = zY b m := by simp only [zY, if_neg hb, List.append_nil]
   rw [e]; exact ih
theorem zLr (b : Nat → Nat) (s : Nat) : ∀ m, am (zY b m) s = if s < m then ((b s : Nat) : Int) else 0
 | 0 => by simp [zY, am]
 | m + 1 => by
  have ih := zLr b s m
  simp only [zY, zDl, ih]
  by_cases hb : 0 < b m
  ·simp only [if_pos hb, am]
   by_cases e : s = m
   ·subst e; simp
   ·rw [if_neg (by omega : ¬ (m : Int) = (s : Int))]
    by_cases h : s < m
    ·rw [if_pos h, if_pos (by omega)]; omega
    ·rw [if_neg h, if_neg (by omega)]; rfl
  ·simp only [if_neg hb, am]
   by_cases e : s = m
   ·subst e
    have : b s = 0 := by omega
    simp [this]
   ·by_cases h : s < m
    ·rw [if_pos h, if_pos (by omega)]; omega
    ·rw [if_neg h, if_neg (by omega)]; rfl
theorem zIo (b : Nat → Nat) : ∀ m, zgb (zY b m) = ((ex b m).length : Int)
 | 0 => rfl
 | m + 1 => by
  have ih := zIo b m
  simp only [zY, zhl, ih, ex, List.length_append, List.length_replicate]
  by_cases hb : 0 < b m
  ·simp only [if_pos hb, zgb]; push_cast; omega
  ·have : b m = 0 := by omega
   rw [if_neg hb, this]; simp [zgb]
theorem zrn (f : Nat → Nat) (s : Nat) : ∀ n, (ex f n).count s = if s < n then f s else 0
 | 0 => by simp [ex]
 | n + 1 => by
  rw [ex, List.count_append, List.count_replicate, zrn f s n]
  by_cases e : n = s
  ·subst e; simp
  ·have : (n == s) = false := by simpa using e
   simp only [this, Bool.false_eq_true, if_false, Nat.zero_add]
   by_cases h : s < n
   ·rw [if_pos h, if_pos (show s < n + 1 by omega)]
   ·rw [if_neg h, if_neg (show ¬ s < n + 1 by omega)]
def zTb (f : zd) : List (List zh) → Int
 | [] => 0
 | t :: ts => 2 * fr f (zLf t).toNat + zTb f ts
theorem z5n (f : zd) : ∀ (a b : List (List zh)), zTb f (a ++ b) = zTb f a + zTb f b
 | [], b => by simp [zTb]
 | x :: a, b => by simp only [List.cons_append, zTb, z5n f a b]; omega
theorem zNp (f : zd) (a : List (List zh)) (t : List zh) : zTb f (a ++ [t]) = zTb f a + 2 * fr f (zLf t).toNat := by
 rw [z5n]; simp [zTb]
def zxw (f : zd) (n : Int) (r : SL (SL zh) × Int) : Prop :=
 (¬ Fine f ∧ r.1.1 = [] ∧ r.2 = 30) ∨ (Fine f ∧ ¬ (0 ≤ n ∧ n < (nS f : Int)) ∧ r.1.1 = [] ∧ r.2 = 31) ∨ (Fine f ∧ ∃ i : Nat, i < nS f ∧ n = (i : Int) ∧ r.2 = 0 ∧ zXm f i (r.1.1.map (·.1)) ∧ zTb f (r.1.1.map (·.1)) = zO f i ∧ r.1.1.length ≤ 240)
theorem zcw (k : Nat) (f : zd) (i : Int) (v7 : (SL Int) × Int × Int × (SL zp) × Int × (SL zl) × Int) (out : List (SL zh)) (a b : Int) (c d : Nat → Int) : zdh k f i v7 out a b c d = zVb k ⟨f⟩ i v7 0 a b c d := rfl
theorem zLv {k : Nat} {f : zd} (hk : Fuel k f) (i : Int) (v7 : (SL Int) × Int × Int × (SL zp) × Int × (SL zl) × Int) (out : List (SL zh)) (v : Int × Int × (Nat → Int) × (Nat → Int)) {b : Nat → Nat} (hb : ∀ t, t < 12 → v.2.2.2 t = ((b t : Nat) : Int)) :
  Ok (iter (fun s => zke k f i v7 out v s.1 s.2) k (0, ([] : List zh))) (fun r => r.2 = zY b 12) := by
 have h0 := hk.k0
 refine Ok.count 12 (fun j s => s.1 = (j : Int) ∧ s.2 = zY b j ∧ s.2.length ≤ j) ?_ ?_ ⟨rfl, rfl, Nat.le_refl _⟩ (by omega)
 ·rintro j ⟨j', t⟩ hj ⟨hj', ht, hl⟩
  obtain rfl : j' = (j : Int) := hj'
  obtain rfl : t = zY b j := ht
  have hl : (zY b j).length ≤ j := hl
  have c1 : decide ((j : Int) < 12) = true := decide_eq_true (by omega)
  have c2 : decide (0 ≤ (j : Int)) = true := by simp
  have c3 : decide ((zY b j).length + 1 ≤ LIM) = true := zdt (by omega)
  have hsucc : w64 ((j : Int) + 1) = ((j + 1 : Nat) : Int) := zGb (n := 100) (by omega) (by omega)
  simp only [zke, c1, c2, Bool.and_self, cond_true, Int.toNat_natCast, hb j hj, c3]
  by_cases hbj : 0 < b j
  ·have c4 : decide (((b j : Nat) : Int) > 0) = true := decide_eq_true (by omega)
   rw [c4, cond_true]
   refine Ok.pure ⟨hsucc, ?_, ?_⟩
   ·show _ = zY b (j + 1)
    simp only [zY, if_pos hbj]
   ·show (zY b j ++ [_]).length ≤ _
    rw [List.length_append]; simp; omega
  ·have c4 : decide (((b j : Nat) : Int) > 0) = false := decide_eq_false (by omega)
   rw [c4, cond_false]
   refine Ok.pure ⟨hsucc, ?_, by show (zY b j).length ≤ _; omega⟩
   show _ = zY b (j + 1)
   simp only [zY, if_neg hbj, List.append_nil]
 ·rintro ⟨j', t⟩ ⟨hj', ht, hl⟩
  obtain rfl : j' = (12 : Int) := hj'
  have c1 : decide ((12 : Int) < 12) = false := by decide
  simp only [zke, c1, cond_false]
  exact Ok.pure ht
theorem zjw {k : Nat} {f : zd} (hs : zec f) (hk : Fuel k f) (n : Int) : Ok (zEg k f n) (zxw f n) := by
 unfold zEg
 obtain ⟨c, hc, hc'⟩ := zth hs hk
 rw [hc]
 by_cases hF : Fine f
 ·rw [if_pos hF] at hc'
  subst hc'
  have t : ((0 : Int) != 0) = false := by decide
  simp only [Option.bind_some, t, cond_false, zjj hs]
  by_cases hn : 0 ≤ n ∧ n < (nS f : Int)
  ·rw [(zjf f n).2 hn]
   obtain ⟨i, rfl⟩ : ∃ i : Nat, n = (i : Int) := ⟨n.toNat, by omega⟩
   have hi : i < nS f := by omega
   have h12 := hF.nfar
   have h0 := hk.k0
   have hlf : zM (nF f) (lns f i) := (z9c hF hi).2
   have hpc := zCm hlf
   have hC := hF.carry
   have hW := z6h hF hi
   simp only [Bool.not_true, cond_false, zad, Option.bind_some]
   refine Ok.bind (z3n hs hk hF hi) fun g hg => ?_
   have hlen : (ex (pc (lns f i)) (nF f)).length ≤ 240 := by
    have := zUl (f := pc (lns f i)) (b := 20) (n := nF f) fun j _ => hpc.1 j
    omega
   refine Ok.bind (P := fun v : (Nat → Int) × List (SL zh) => zXm f i (v.2.map (·.1)) ∧ zTb f (v.2.map (·.1)) = zO f i ∧ v.2.length ≤ 240) ?_ fun v hv => Ok.pure (.inr (.inr ⟨hF, i, hi, rfl, rfl, hv.1, hv.2.1, hv.2.2⟩))
   refine Ok.iter (fun j s => ∃ lf : Nat → Nat, (∀ t, t < 12 → s.1 t = ((lf t : Nat) : Int)) ∧ (∀ t, lf t ≤ 20) ∧ (∀ t, nF f ≤ t → lf t = 0) ∧ zTb f (s.2.map (·.1)) + wk f.Carry.toNat (fr f) 0 (ex lf (nF f)) = zO f i ∧ (ex lf (nF f)).length + j ≤ 240 ∧ s.2.length = j ∧ (∀ t ∈ s.2.map (·.1), zwd f t) ∧ ∀ x, x < nF f → tot (s.2.map (·.1)) x + lf x = ((pc (lns f i) x : Nat) : Int)) 240 ?_ ⟨pc (lns f i), fun t _ => hg t, hpc.1, hpc.2, by simp [zO, zTb], by omega, rfl, fun t ht => by simp at ht, fun x _ => by simp [tot]⟩ (by omega)
   rintro j ⟨s1, s2⟩ hj ⟨lf, h1, h20, hz, hw, hl, hsl, hall, htot⟩
   have hw : zTb f (s2.map (·.1)) + wk f.Carry.toNat (fr f) 0 (ex lf (nF f)) = zO f i := hw
   have hsl : s2.length = j := hsl
   have hall : ∀ t ∈ s2.map (·.1), zwd f t := hall
   have htot : ∀ x, x < nF f → tot (s2.map (·.1)) x + lf x = ((pc (lns f i) x : Nat) : Int) := htot
   simp only [zeh, zsn, Option.bind_some]
   refine Ok.cond (fun hb => ?_) (fun hb => ?_)
   ·have hne : ex lf (nF f) ≠ [] := by
     intro he
     have hall := z7n.1 he
     have : eqI s1 (fun _ => 0) 0 12 = true := (zbk _ _ 12 0).2 fun t _ ht => by
      have := h1 t (by omega)
      simp only at this
      rw [this]
      by_cases e : t < nF f
      ·rw [hall t e]; rfl
      ·rw [hz t (by omega)]; rfl
     rw [this] at hb
     cases hb
    rw [zVf hs.far]
    simp only [zcw]
    refine Ok.bind (zgs hk hF _ _ _ h1 h20) fun v ⟨a, b, ha, hb', hd, ht, hx, hle, hy⟩ => ?_
    refine Ok.bind (zLv hk _ _ _ _ hb') fun w hw' => ?_
    rw [hw']
    obtain ⟨x, tl, hxt⟩ : ∃ x tl, ex lf (nF f) = x :: tl := by
     cases h : ex lf (nF f) with
     | nil => exact absurd h hne
     | cons x tl => exact ⟨x, tl, rfl⟩
    have hsum : ∀ y, y < nF f → a y + b y = lf y := fun y hy => by
     have h1 := zrn lf y (nF f)
     have h2 := zrn a y (nF f)
     have h3 := zrn b y (nF f)
     rw [if_pos hy] at h1 h2 h3
     have h4 : (ex lf (nF f)).count y = (ex b (nF f)).count y + (ex a (nF f)).count y := by
      rw [ht, hd, ← List.count_append, List.take_append_drop]
     omega
    have hb20 : ∀ y, b y ≤ 20 := fun y => by
     by_cases e : y < nF f
     ·have := hsum y e; have := h20 y; omega
     ·have := hy y (by omega); omega
    have hexb : ex b 12 = ex b (nF f) := zso (by omega) fun j h1 _ => hy j h1
    obtain ⟨c, hc⟩ : ∃ c, f.Carry.toNat = c + 1 := ⟨f.Carry.toNat - 1, by omega⟩
    have hbx : ex b 12 = x :: tl.take c := by rw [hexb, ht, hxt, hc, List.take_succ_cons]
    have htop : topF b (fr f) 12 = fr f x := zUq hbx
    have hfine := zDo (n := nF f) hb20 hy 12
    have hload := zIo b 12
    have hok : zwd f (zY b 12) := by
     refine ⟨fun e => ?_, hfine, ?_⟩
     ·rw [e, hbx] at hload
      simp only [zgb, List.length_cons] at hload
      omega
     ·rw [hload, hexb, ht, List.length_take]
      omega
    have hlast : fr f (zLf (zY b 12)).toNat = fr f x := by
     rcases zxn b 12 with ⟨h, _⟩ | ⟨_, s, h2, _, h4⟩
     ·exact absurd h hok.1
     ·rw [h2, Int.toNat_natCast, ← h4 (fr f), htop]
    have hcons := zTt (C := f.Carry.toNat) (by omega) (fr f) x tl
    rw [← hxt, ← hd] at hcons
    have c3 : decide (s2.length + 1 ≤ LIM) = true := zdt (by omega)
    rw [c3, cond_true]
    have hxl : (ex lf (nF f)).length = tl.length + 1 := by rw [hxt]; rfl
    refine Ok.pure ⟨by omega, a, ha, fun y => by have := hle y; have := h20 y; omega, fun y hy' => by rw [hx y hy']; exact hz y hy', ?_, ?_, ?_, fun u hu => ?_, fun y hy' => ?_⟩
    ·show zTb f ((s2 ++ [(zY b 12, xcap true (zY b 12))]).map (·.1)) + _ = _
     rw [List.map_append]
     show zTb f (s2.map (·.1) ++ [zY b 12]) + _ = _
     rw [zNp, hlast]
     omega
    ·rw [hd, List.length_drop]
     omega
    ·show (s2 ++ [(zY b 12, xcap true (zY b 12))]).length = _
     rw [List.length_append]; simp [hsl]
    ·have hu : u ∈ (s2 ++ [(zY b 12, xcap true (zY b 12))]).map (·.1) := hu
     rw [List.map_append] at hu
     rcases List.mem_append.1 hu with h | h
     ·exact hall u h
     ·obtain rfl : u = zY b 12 := by simpa using h
      exact hok
    ·show tot ((s2 ++ [(zY b 12, xcap true (zY b 12))]).map (·.1)) y + _ = _
     rw [List.map_append]
     show tot (s2.map (·.1) ++ [zY b 12]) y + _ = _
     rw [zop, zLr, if_pos (by omega)]
     have h1 := htot y hy'
     have h2 := hsum y hy'
     omega
   ·have hall2 : eqI s1 (fun _ => 0) 0 12 = true := by simpa using hb
    have hall2 := (zbk _ _ 12 0).1 hall2
    have hz0 : ∀ t, t < nF f → lf t = 0 := fun t ht => by
     have e1 := h1 t (by omega)
     have e2 := hall2 t (by omega) (by omega)
     simp only at e1 e2
     rw [e1] at e2
     omega
    have he : ex lf (nF f) = [] := z7n.2 hz0
    rw [he, zjv] at hw
    refine Ok.pure ⟨⟨hall, fun x hx => ?_⟩, by show zTb f (s2.map (·.1)) = _; omega, by show s2.length ≤ 240; omega⟩
    have h1 := htot x hx
    have h2 := hz0 x hx
    show tot (s2.map (·.1)) x = _
    omega
  ·have e : (decide (0 ≤ n) && decide (n ≤ (nS f : Int) - 1)) = false := by
    cases hd : (decide (0 ≤ n) && decide (n ≤ (nS f : Int) - 1)) with
    | false => rfl
    | true => exact absurd ((zjf f n).1 hd) hn
   rw [e]
   exact Ok.pure (.inr (.inl ⟨hF, hn, rfl, rfl⟩))
 ·rw [if_neg hF] at hc'
  subst hc'
  have t : ((30 : Int) != 0) = true := by decide
  simp only [Option.bind_some, t, cond_true]
  exact Ok.pure (.inl ⟨hF, rfl, rfl⟩)
theorem zbw {f : zd} (hF : Fine f) {t : List zh} (h : zwd f t) : idx t (w64 ((t.length : Int) - 1)) = (t.getLast?) ∧ 0 ≤ zLf t ∧ zLf t < (nF f : Int) ∧ t.length ≤ nF f ∧ ∃ x, t.getLast? = some x ∧ x.Shelf = zLf t := by
 have hpos : 0 < t.length := List.length_pos_iff.2 h.1
 have hln := zPc h.2.1
 obtain ⟨m, hm⟩ : ∃ m, t.length = m + 1 := ⟨t.length - 1, by omega⟩
 have hml : m < t.length := by omega
 have hg : t.getLast? = some t[m] := by
  rw [List.getLast?_eq_getElem?, hm]
  simp only [Nat.add_sub_cancel]
  exact List.getElem?_eq_getElem hml
 have hl : zLf t = t[m].Shelf := by unfold zLf; rw [hg]; rfl
 have h2 := zne h.2.1 hml
 refine ⟨?_, by omega, by omega, hln, t[m], hg, hl.symm⟩
 have w : w64 ((t.length : Int) - 1) = (m : Int) := by
  have := hF.nfar
  rw [zVf (by omega)]; omega
 rw [w, hg]
 exact zLb hml
end Go.AM
set_option linter.unusedVariables false
namespace Go.AM
open Go
theorem zUv {k : Nat} {f : zd} (hk : Fuel k f) (hF : Fine f) {p2 : SL (SL zh)} (hall : ∀ t ∈ p2.1.map (·.1), zwd f t) (hl : p2.1.length ≤ 240) : Ok (zod k f p2) (fun r => r = zTb f (p2.1.map (·.1))) := by
 unfold zod
 have h0 := hk.k0
 have h12 := hF.nfar
 refine Ok.bind (P := fun v : Int × Int => v.1 = zTb f (p2.1.map (·.1))) ?_ fun v hv => Ok.pure hv
 refine Ok.count p2.1.length (fun j s => s.2 = (j : Int) ∧ s.1 = zTb f ((p2.1.take j).map (·.1)) ∧ 0 ≤ s.1 ∧ s.1 ≤ 1000 * (j : Int)) ?_ ?_ ⟨rfl, rfl, Int.le_refl _, Int.le_refl _⟩ (by omega)
 ·rintro j ⟨n, j'⟩ hj ⟨hj', hn, hn0, hn1⟩
  obtain rfl : j' = (j : Int) := hj'
  obtain rfl : n = _ := hn
  have hn0 : 0 ≤ zTb f ((p2.1.take j).map (·.1)) := hn0
  have hn1 : zTb f ((p2.1.take j).map (·.1)) ≤ 1000 * (j : Int) := hn1
  obtain ⟨e1, e2, e3, e4, x, e5, e6⟩ := zbw hF (hall p2.1[j].1 (List.mem_map.2 ⟨_, List.getElem_mem hj, rfl⟩))
  obtain ⟨s, hs⟩ : ∃ s : Nat, zLf p2.1[j].1 = (s : Int) := ⟨(zLf p2.1[j].1).toNat, by omega⟩
  have hsn : s < nF f := by omega
  have hfr := zat hF hsn
  have e7 : idx f.Far.1 x.Shelf = some (fr f s) := by rw [e6, hs]; exact zVm hsn
  have w1 : w64 (2 * fr f s) = 2 * fr f s := zeb (by omega) (by omega)
  have w2 : w64 (zTb f ((p2.1.take j).map (·.1)) + 2 * fr f s) = zTb f ((p2.1.take j).map (·.1)) + 2 * fr f s := zeb (by omega) (by omega)
  have est : zTb f ((p2.1.take (j + 1)).map (·.1)) = zTb f ((p2.1.take j).map (·.1)) + 2 * fr f s := by
   rw [List.take_succ_eq_append_getElem hj, List.map_append]
   show zTb f (_ ++ [p2.1[j].1]) = _
   rw [zNp, hs, Int.toNat_natCast]
  simp only [zLc, zuc hj, cond_true, zLb hj, Option.bind_some, e1, e5, e7, w1, w2]
  exact Ok.pure ⟨zGb (n := 300) (by omega) (by omega), est.symm, by show 0 ≤ zTb f _ + _; omega, by show zTb f _ + _ ≤ _; push_cast; omega⟩
 ·rintro ⟨n, j'⟩ ⟨hj', hn, _, _⟩
  obtain rfl : j' = (p2.1.length : Int) := hj'
  simp only [zLc, zpd, cond_false]
  have hn : n = zTb f ((p2.1.take p2.1.length).map (·.1)) := hn
  rw [List.take_length] at hn
  exact Ok.pure hn
def zok {α : Type} (f : zd) (z : α) (v : Nat → α) (n : Int) (r : α × Int) : Prop :=
 (¬ Fine f ∧ r = (z, 30)) ∨ (Fine f ∧ ¬ (0 ≤ n ∧ n < (nS f : Int)) ∧ r = (z, 31)) ∨ (Fine f ∧ ∃ i : Nat, i < nS f ∧ n = (i : Int) ∧ r = (v i, 0))
theorem zok.eq {α : Type} {f : zd} {z : α} {v : Nat → α} {n : Int} {r r' : α × Int} (h : zok f z v n r) (g : zok f z v n r') : r = r' := by
 rcases h with ⟨h1, h2⟩ | ⟨h1, h2, h3⟩ | ⟨h1, i, hi, hn, h2⟩ <;> rcases g with ⟨g1, g2⟩ | ⟨g1, g2, g3⟩ | ⟨g1, j, hj, gn, g2⟩
 ·rw [h2, g2]
 ·exact absurd g1 h1
 ·exact absurd g1 h1
 ·exact absurd h1 g1
 ·rw [h3, g3]
 ·exact absurd (show 0 ≤ n ∧ n < (nS f : Int) by omega) h2
 ·exact absurd h1 g1
 ·exact absurd (show 0 ≤ n ∧ n < (nS f : Int) by omega) g2
 ·obtain rfl : i = j := by omega
  rw [h2, g2]
theorem zVj (f : zd) (n : Int) : ((decide (0 ≤ n) && decide (n ≤ (nS f : Int) - 1)) = true ∧ 0 ≤ n ∧ n < (nS f : Int)) ∨ ((decide (0 ≤ n) && decide (n ≤ (nS f : Int) - 1)) = false ∧ ¬ (0 ≤ n ∧ n < (nS f : Int))) := by
 by_cases hn : 0 ≤ n ∧ n < (nS f : Int)
 ·exact .inl ⟨(zjf f n).2 hn, hn⟩
 ·refine .inr ⟨?_, hn⟩
  cases hd : (decide (0 ≤ n) && decide (n ≤ (nS f : Int) - 1)) with
  | false => rfl
  | true => exact absurd ((zjf f n).1 hd) hn
theorem zgv {k : Nat} {f : zd} (hs : zec f) (hk : Fuel k f) (n : Int) : Ok (zFg k f n) (zok f 0 (zO f) n) := by
 unfold zFg
 obtain ⟨c, hc, hc'⟩ := zth hs hk
 rw [hc]
 by_cases hF : Fine f
 ·rw [if_pos hF] at hc'
  subst hc'
  have t : ((0 : Int) != 0) = false := by decide
  simp only [Option.bind_some, t, cond_false, zjj hs]
  rcases zVj f n with ⟨h1, h2⟩ | ⟨h1, h2⟩
  ·rw [h1]
   obtain ⟨i, rfl⟩ : ∃ i : Nat, n = (i : Int) := ⟨n.toNat, by omega⟩
   have hi : i < nS f := by omega
   refine Ok.bind (zlp hs hk hF hi) fun v hv => Ok.pure (.inr (.inr ⟨hF, i, hi, rfl, by rw [hv]⟩))
  ·rw [h1]
   exact Ok.pure (.inr (.inl ⟨hF, h2, rfl⟩))
 ·rw [if_neg hF] at hc'
  subst hc'
  exact Ok.pure (.inl ⟨hF, rfl⟩)
theorem zau {k : Nat} {f : zd} (hs : zec f) (hk : Fuel k f) (n : Int) : Ok (z8c k f n) (zok f 0 (zO f) n) := by
 unfold z8c
 have wn : w64 ((f.Slips.1.length : Int) - 1) = (nS f : Int) - 1 := zVf hs.slips
 obtain ⟨a1, a2⟩ := ztp hs hk (decide (0 ≤ n) && decide (n ≤ (nS f : Int) - 1))
 simp only [zzb, zph, Option.bind_some, wn]
 by_cases hF : Fine f
 ·rw [a2 hF]
  rcases zVj f n with ⟨h1, h2⟩ | ⟨h1, h2⟩
  ·rw [h1]
   obtain ⟨i, rfl⟩ : ∃ i : Nat, n = (i : Int) := ⟨n.toNat, by omega⟩
   have hi : i < nS f := by omega
   have t : ((0 : Int) != 0) = false := by decide
   simp only [if_true, t, cond_false, Option.bind_some, zBr hk hF hi]
   exact Ok.pure (.inr (.inr ⟨hF, i, hi, rfl, rfl⟩))
  ·rw [h1]
   exact Ok.pure (.inr (.inl ⟨hF, h2, rfl⟩))
 ·rw [a1 hF]
  exact Ok.pure (.inl ⟨hF, rfl⟩)
theorem z8u {k : Nat} {f : zd} (hs : zec f) (hk : Fuel k f) (n : Int) : Ok (zId k f n) (zok f (⟨0, 0⟩ : zp) (fun i => ⟨z2b f i (·.Low), z2b f i (·.High)⟩) n) := by
 by_cases hF : Fine f
 ·rcases zVj f n with ⟨h1, h2⟩ | ⟨h1, h2⟩
  ·obtain ⟨i, rfl⟩ : ∃ i : Nat, n = (i : Int) := ⟨n.toNat, by omega⟩
   have hi : i < nS f := by omega
   rw [zNv hs hk hF hi]
   exact Ok.pure (.inr (.inr ⟨hF, i, hi, rfl, rfl⟩))
  ·unfold zId
   obtain ⟨c, hc, hc'⟩ := zth hs hk
   rw [hc]
   rw [if_pos hF] at hc'
   subst hc'
   have t : ((0 : Int) != 0) = false := by decide
   simp only [Option.bind_some, t, cond_false, zjj hs, h1]
   exact Ok.pure (.inr (.inl ⟨hF, h2, rfl⟩))
 ·unfold zId
  obtain ⟨c, hc, hc'⟩ := zth hs hk
  rw [hc]
  rw [if_neg hF] at hc'
  subst hc'
  exact Ok.pure (.inl ⟨hF, rfl⟩)
theorem zKu {k : Nat} {f : zd} (hs : zec f) (hk : Fuel k f) (n : Int) : Ok (z6c k f n) (zok f (⟨0, 0⟩ : zp) (fun i => ⟨z2b f i (·.Low), z2b f i (·.High)⟩) n) := by
 unfold z6c
 have wn : w64 ((f.Slips.1.length : Int) - 1) = (nS f : Int) - 1 := zVf hs.slips
 obtain ⟨a1, a2⟩ := ztp hs hk (decide (0 ≤ n) && decide (n ≤ (nS f : Int) - 1))
 simp only [zzb, zph, Option.bind_some, wn]
 by_cases hF : Fine f
 ·rw [a2 hF]
  rcases zVj f n with ⟨h1, h2⟩ | ⟨h1, h2⟩
  ·rw [h1]
   obtain ⟨i, rfl⟩ : ∃ i : Nat, n = (i : Int) := ⟨n.toNat, by omega⟩
   have hi : i < nS f := by omega
   have t : ((0 : Int) != 0) = false := by decide
   simp only [if_true, t, cond_false, Option.bind_some, zlv hk hF hi]
   exact Ok.pure (.inr (.inr ⟨hF, i, hi, rfl, rfl⟩))
  ·rw [h1]
   exact Ok.pure (.inr (.inl ⟨hF, h2, rfl⟩))
 ·rw [a1 hF]
  exact Ok.pure (.inl ⟨hF, rfl⟩)
theorem zPp.eq {f : zd} {n : Int} {R : List (SL zh)} {r r' : Bool × Int} (h : zPp f n R r) (g : zPp f n R r') : r = r' := by
 rcases h with ⟨h1, h2⟩ | ⟨h1, h2, h3⟩ | ⟨h1, i, hi, hn, h2, h3⟩ <;> rcases g with ⟨g1, g2⟩ | ⟨g1, g2, g3⟩ | ⟨g1, j, hj, gn, g2, g3⟩
 ·rw [h2, g2]
 ·exact absurd g1 h1
 ·exact absurd g1 h1
 ·exact absurd h1 g1
 ·rw [h3, g3]
 ·exact absurd (show 0 ≤ n ∧ n < (nS f : Int) by omega) h2
 ·exact absurd h1 g1
 ·exact absurd (show 0 ≤ n ∧ n < (nS f : Int) by omega) g2
 ·obtain rfl : i = j := by omega
  obtain ⟨a, b⟩ := r
  obtain ⟨a', b'⟩ := r'
  simp only at h2 g2 h3 g3
  have : a = a' := by rw [Bool.eq_iff_iff, h3, g3]
  rw [this, h2, g2]
theorem zDu {k : Nat} {f : zd} (hk : 5000 < k) (hF : Fine f) {R : List (SL zh)} (hall : ∀ t ∈ R.map (·.1), zwd f t) (hl : R.length ≤ 240) : zwq k R := ⟨⟨by omega, by omega⟩, fun l hlm => by
 have h1 := zPc (hall l.1 (List.mem_map.2 ⟨l, hlm, rfl⟩)).2.1
 have h2 := hF.nfar
 omega⟩
theorem zft {k : Nat} {f : zd} (hs : zec f) (hk : Fuel k f) (hw : zsc k = some true) (n : Int) {R : SL (SL zh)} (hR : zwq k R.1) : zMb k f n R = some true := by
 refine Ok.eq ?_
 have h0 := hk.k0
 unfold zMb
 refine Ok.bind (zju hs hk n hR) fun v1 h1 => ?_
 refine Ok.bind (zFo hs hk n hR) fun v3 h3 => ?_
 obtain rfl := h1.eq h3
 have hJ1 : zRb k f n R v1 v1 = some false := by
  refine Ok.eq ?_
  unfold zRb
  have e1 : (!(v1.1 == v1.1)) = false := by simp
  have e2 : (v1.2 != v1.2) = false := by simp
  rw [e1, e2]
  simp only [cond_false]
  refine Ok.bind (zth hs hk) fun a ha => ?_
  refine Ok.bind (zNr hs hk) fun b hb => ?_
  rw [ha, hb]
  refine Ok.pure ?_
  simp
 rw [hJ1]
 simp only [Option.bind_some, cond_false]
 refine Ok.bind (zgv hs hk n) fun v8 h8 => ?_
 refine Ok.bind (zau hs hk n) fun v10 h10 => ?_
 obtain rfl := h8.eq h10
 have hJ2 : zPb k f n R v1 v1 v8 v8 = some false := by
  unfold zPb
  simp
 rw [hJ2]
 simp only [Option.bind_some, cond_false]
 refine Ok.bind (z8u hs hk n) fun v15 h15 => ?_
 refine Ok.bind (zKu hs hk n) fun v17 h17 => ?_
 obtain rfl := h15.eq h17
 have hJ3 : zOb k f n R v1 v1 v8 v8 v15 v15 = some false := by
  unfold zOb
  simp
 rw [hJ3]
 simp only [Option.bind_some, cond_false]
 refine Ok.bind (zjw hs hk n) fun v22 h22 => ?_
 rcases h22 with ⟨hF, hl, he⟩ | ⟨hF, hn, hl, he⟩ | ⟨hF, i, hi, rfl, he, hok, hwk, hlen⟩
 ·have e15 : v15.2 = 30 := by
   rcases h15 with ⟨_, h⟩ | ⟨h, _⟩ | ⟨h, _⟩
   ·rw [h]
   ·exact absurd h hF
   ·exact absurd h hF
  have c1 : (v22.2 != v15.2) = false := by rw [he, e15]; rfl
  have c2 : (v15.2 != 0) = true := by rw [e15]; rfl
  have c3 : ((v22.1.1.length : Int) == 0) = true := by rw [hl]; rfl
  simp only [c1, c2, c3, cond_true, cond_false, hw, Option.bind_some]
  exact Ok.pure rfl
 ·have e15 : v15.2 = 31 := by
   rcases h15 with ⟨h, _⟩ | ⟨_, _, h⟩ | ⟨_, i, hi, h, _⟩
   ·exact absurd hF h
   ·rw [h]
   ·exact absurd (show 0 ≤ n ∧ n < (nS f : Int) by omega) hn
  have c1 : (v22.2 != v15.2) = false := by rw [he, e15]; rfl
  have c2 : (v15.2 != 0) = true := by rw [e15]; rfl
  have c3 : ((v22.1.1.length : Int) == 0) = true := by rw [hl]; rfl
  simp only [c1, c2, c3, cond_true, cond_false, hw, Option.bind_some]
  exact Ok.pure rfl
 ·have e15 : v15.2 = 0 := by
   rcases h15 with ⟨h, _⟩ | ⟨_, h, _⟩ | ⟨_, j, hj, h, h2⟩
   ·exact absurd hF h
   ·exact absurd (show 0 ≤ (i : Int) ∧ (i : Int) < (nS f : Int) by omega) h
   ·rw [h2]
  have e8 : v8.1 = zO f i := by
   rcases h8 with ⟨h, _⟩ | ⟨_, h, _⟩ | ⟨_, j, hj, h, h2⟩
   ·exact absurd hF h
   ·exact absurd (show 0 ≤ (i : Int) ∧ (i : Int) < (nS f : Int) by omega) h
   ·obtain rfl : i = j := by omega
    rw [h2]
  have c1 : (v22.2 != v15.2) = false := by rw [he, e15]; rfl
  have c2 : (v15.2 != 0) = false := by rw [e15]; rfl
  simp only [c1, c2, cond_false]
  refine Ok.bind (zFo hs hk (i : Int) (zDu h0 hF hok.1 hlen)) fun v26 h26 => ?_
  have e26 : v26.1 = true := by
   rcases h26 with ⟨h, _⟩ | ⟨_, h, _⟩ | ⟨_, j, hj, h, _, h2⟩
   ·exact absurd hF h
   ·exact absurd (show 0 ≤ (i : Int) ∧ (i : Int) < (nS f : Int) by omega) h
   ·obtain rfl : i = j := by omega
    exact h2.2 hok
  rw [e26, cond_true]
  refine Ok.bind (zUv hk hF hok.1 hlen) fun v29 h29 => ?_
  have c4 : (v29 == v8.1) = true := by rw [h29, hwk, e8]; simp
  rw [c4, cond_true, hw]
  exact Ok.pure rfl
end Go.AM
set_option linter.unusedVariables false
namespace Go.AM
open Go
def zld (x : zp) : Prop := (-9223372036854775808 ≤ x.Low ∧ x.Low ≤ 9223372036854775807) ∧ (-9223372036854775808 ≤ x.High ∧ x.High ≤ 9223372036854775807) ∧ True
def z9b (x : zh) : Prop := (-9223372036854775808 ≤ x.Shelf ∧ x.Shelf ≤ 9223372036854775807) ∧ (-9223372036854775808 ≤ x.Many ∧ x.Many ≤ 9223372036854775807) ∧ True
def zBf (x : zl) : Prop := zOd 16 (fun (a : zh) => z9b a) x.Lines ∧ (-9223372036854775808 ≤ x.Until ∧ x.Until ≤ 9223372036854775807) ∧ True
def zYc (x : zd) : Prop := znu (fun (a : Int) => (-9223372036854775808 ≤ a ∧ a ≤ 9223372036854775807)) x.Far ∧ zld x.Step ∧ zOd 16 (fun (a : zp) => zld a) x.Pick ∧ (-9223372036854775808 ≤ x.Carry ∧ x.Carry ≤ 9223372036854775807) ∧ zOd 32 (fun (a : zl) => zBf a) x.Slips ∧ True
end Go.AM
set_option maxRecDepth 1000000
namespace Go.AM
open Go
theorem zCw (k : Nat) : zsc (k + 300) = some true := by kernel_rfl
end Go.AM
set_option linter.unusedVariables false
namespace Go.AM
open Go
theorem zqu {f : zd} (h : zYc f) : zec f := by
 obtain ⟨h1, h2, h3, h4, h5, _⟩ := h
 have e : maxLen = 9223372036854775807 := by decide
 have l1 := h1.2.2
 have l3 := h3.2.2
 have l5 := h5.2.2
 rw [e] at l1 l3 l5
 refine ⟨show f.Far.1.length < _ by omega, by omega, show f.Slips.1.length < _ by omega, fun s hs => ?_⟩
 have := (h5.1 s hs).1.2.2
 rw [e] at this
 omega
def zVu (f : zd) : Nat := 500000 + f.Far.1.length + f.Pick.1.length + f.Slips.1.length + (f.Slips.1.map fun s => s.Lines.1.length).sum
theorem zbv {l : List Nat} {n : Nat} : n ∈ l → n ≤ l.sum := by
 induction l with
 | nil => intro h; simp at h
 | cons x t ih =>
  intro h
  rw [List.sum_cons]
  rcases List.mem_cons.1 h with rfl | h
  ·omega
  ·have := ih h
   omega
theorem zdx (f : zd) (m : Nat) : Fuel (zVu f + m + 300) f := by
 unfold zVu
 refine ⟨by omega, show f.Far.1.length < _ by omega, by omega, show f.Slips.1.length < _ by omega, fun s hs => ?_⟩
 have := zbv (List.mem_map.2 ⟨s, hs, rfl⟩ : s.Lines.1.length ∈ f.Slips.1.map fun s => s.Lines.1.length)
 omega
end Go.AM
set_option linter.unusedVariables false
namespace Go.AM
open Go
theorem zyx (f : zd) (n : Int) (R : SL (SL zh)) (hf : zYc f) (hn : -9223372036854775808 ≤ n ∧ n ≤ 9223372036854775807) (hR : zOd 24 (fun (a : SL zh) => zOd 16 (fun (a : zh) => z9b a) a) R) : ∃ k, zMb k f n R = some true := by
 have h1 := hR.2.2.2
 refine ⟨_, zft (zqu hf) (zdx f (R.1.length + (R.1.map fun l => l.1.length).sum)) (zCw _) n ⟨⟨by omega, by omega⟩, fun l hl => ?_⟩⟩
 have h2 := (hR.1 l hl).2.2.2
 have h3 := zbv (List.mem_map.2 ⟨l, hl, rfl⟩ : l.1.length ∈ R.1.map fun l => l.1.length)
 exact ⟨by omega, by omega⟩
end Go.AM
