/- The statement SlipRosters holds for every input that its row lets in. Conditions: none. -/
import Derived.KernelRfl
import Derived.Test.YtobbgcagbnhecaaDoorD
set_option linter.all false
set_option linter.unusedVariables false
set_option maxRecDepth 100000
namespace Go.AM
open Go Go.Proofs
theorem zil (k : Nat) (p0 : zd) (p1 : Int) (r0 : (SL Int)) (r1 r2 : Int) (v902 : zt1) (rc : zt0) (f1 f2 f3 : Fr) (hrc : ∀ (f : Fr) (r0 : (SL Int)) (r1 : Int) (r2 : Int) (r : ((SL Int) × Bool)), rc r0 r1 r2 = some r → zJ TE (ev TE) 77 [(.d (dl eI r0.1 r0.2)), (xi r1), (xi r2), (.ptr 0 6 0), (.ptr 0 8 0), (.ptr 0 3 0), (.ptr 0 9 0)] ⟨f, [[(2, (.cells ((za p0).map .d))), (3, (.cells [(xi p1)])), (6, (.cells ((za p0).map .d))), (8, (.cells [(xi (w64 ((zo 1 (p0.Slips.1.length : Int)) - 1)))])), (9, (.cells [(.fn 77 [] [(.ptr 0 6 0), (.ptr 0 8 0), (.ptr 0 3 0), (.ptr 0 9 0)])]))], f1, f2, f3]⟩ [] = some (zu r, ⟨f, [[(2, (.cells ((za p0).map .d))), (3, (.cells [(xi p1)])), (6, (.cells ((za p0).map .d))), (8, (.cells [(xi (w64 ((zo 1 (p0.Slips.1.length : Int)) - 1)))])), (9, (.cells [(.fn 77 [] [(.ptr 0 6 0), (.ptr 0 8 0), (.ptr 0 3 0), (.ptr 0 9 0)])]))], f1, f2, f3]⟩, [])) (s10_8 : Int) (x : Int ⊕ (((SL Int) × Int × Bool) ⊕ Int)) (h : zjk k p0 p1 r0 r1 r2 v902 rc s10_8 = some x) : zE TE 77 (blk TE 77 0) (fun s : Int => zcr p0 p1 r0 r1 r2 v902 rc f1 f2 f3 s) (zBq p0 p1 r0 r1 r2 v902 rc f1 f2 f3) s10_8 x := by
 unfold zjk at h
 refine zn h (fun h1101 g1 => ?_) (fun h1101 g1 => ?_)
 ·refine zn g1 (fun h1102 g2 => ?_) (fun h1102 g2 => ?_)
  ·cases g2
  ·refine zO g2 (fun h1103 g3 => ?_)
   refine zn g3 (fun h1104 g4 => ?_) (fun h1104 g4 => ?_)
   ·cases g4
   ·refine zj g4 (fun v1105 h1106 g5 => ?_)
    refine zn g5 (fun h1107 g6 => ?_) (fun h1107 g6 => ?_)
    ·exact zqo [(77, 8, 4, .q (xi (p0.Slips.1.length : Int))), (77, 8, 5, .q (xb true)), (77, 10, 3, .q (xi (r0.1.length : Int))), (77, 10, 5, .q (xi (r0.1.length : Int))), (77, 10, 6, .q (.d (dl eI r0.1 (ccap r0.2)))), (77, 10, 9, .q (.d (dl eI (r0.1 ++ [s10_8]) .ro))), (77, 10, 12, .q (xi (zo 1 s10_8))), (77, 10, 15, .i (.tup [(dl eI v1105.1.1 v1105.1.2), (db v1105.2)]) ⟨[], [[(2, (.cells ((za p0).map .d))), (3, (.cells [(xi p1)])), (6, (.cells ((za p0).map .d))), (8, (.cells [(xi (w64 ((zo 1 (p0.Slips.1.length : Int)) - 1)))])), (9, (.cells [(.fn 77 [] [(.ptr 0 6 0), (.ptr 0 8 0), (.ptr 0 3 0), (.ptr 0 9 0)])]))], f1, f2, f3]⟩ []), (77, 11, 0, .q (xb true))] [] g6 (ob (zr zl p0.Slips.1) (ob (o_b h1101) (ob (zr eI r0.1) (ob (zr eI r0.1) (ob (zod (e := eI) (z := 1) r0.1 r0.2) (ob (o_ad (P := TE.P) (φ := fun _ _ => none) (T := 22) (q := (1, [(di 0)])) (c := (ccap r0.2)) (e := eI) r0.1 s10_8 (by kernel_rfl) (fun _ => rfl) h1102 h1103) (ob (zIb (x := 1) h1104) (ob (hrc ([] : Fr) ((r0.1 ++ [s10_8]), .ro) (or64 r1 (zo 1 s10_8)) r2 _ h1106) (ob (o_b h1107) ob0))))))))) (by kernel_rfl)
    ·exact zqn (w64 (s10_8 + 1)) [] [(77, 8, 4, .q (xi (p0.Slips.1.length : Int))), (77, 8, 5, .q (xb true)), (77, 10, 3, .q (xi (r0.1.length : Int))), (77, 10, 5, .q (xi (r0.1.length : Int))), (77, 10, 6, .q (.d (dl eI r0.1 (ccap r0.2)))), (77, 10, 9, .q (.d (dl eI (r0.1 ++ [s10_8]) .ro))), (77, 10, 12, .q (xi (zo 1 s10_8))), (77, 10, 15, .i (.tup [(dl eI v1105.1.1 v1105.1.2), (db v1105.2)]) ⟨[], [[(2, (.cells ((za p0).map .d))), (3, (.cells [(xi p1)])), (6, (.cells ((za p0).map .d))), (8, (.cells [(xi (w64 ((zo 1 (p0.Slips.1.length : Int)) - 1)))])), (9, (.cells [(.fn 77 [] [(.ptr 0 6 0), (.ptr 0 8 0), (.ptr 0 3 0), (.ptr 0 9 0)])]))], f1, f2, f3]⟩ []), (77, 11, 0, .q (xb false))] [] g6 (ob (zr zl p0.Slips.1) (ob (o_b h1101) (ob (zr eI r0.1) (ob (zr eI r0.1) (ob (zod (e := eI) (z := 1) r0.1 r0.2) (ob (o_ad (P := TE.P) (φ := fun _ _ => none) (T := 22) (q := (1, [(di 0)])) (c := (ccap r0.2)) (e := eI) r0.1 s10_8 (by kernel_rfl) (fun _ => rfl) h1102 h1103) (ob (zIb (x := 1) h1104) (ob (hrc ([] : Fr) ((r0.1 ++ [s10_8]), .ro) (or64 r1 (zo 1 s10_8)) r2 _ h1106) (ob (o_b h1107) ob0))))))))) (by kernel_rfl)
 ·exact zqo [(77, 8, 4, .q (xi (p0.Slips.1.length : Int))), (77, 8, 5, .q (xb false))] [] g1 (ob (zr zl p0.Slips.1) (ob (o_b h1101) ob0)) (by kernel_rfl)
theorem z9p (k : Nat) (p0 : zd) (p1 : Int) (rc : zt0) (f1 f2 f3 : Fr) (hrc : ∀ (f : Fr) (r0 : (SL Int)) (r1 : Int) (r2 : Int) (r : ((SL Int) × Bool)), rc r0 r1 r2 = some r → zJ TE (ev TE) 77 [(.d (dl eI r0.1 r0.2)), (xi r1), (xi r2), (.ptr 0 6 0), (.ptr 0 8 0), (.ptr 0 3 0), (.ptr 0 9 0)] ⟨f, [[(2, (.cells ((za p0).map .d))), (3, (.cells [(xi p1)])), (6, (.cells ((za p0).map .d))), (8, (.cells [(xi (w64 ((zo 1 (p0.Slips.1.length : Int)) - 1)))])), (9, (.cells [(.fn 77 [] [(.ptr 0 6 0), (.ptr 0 8 0), (.ptr 0 3 0), (.ptr 0 9 0)])]))], f1, f2, f3]⟩ [] = some (zu r, ⟨f, [[(2, (.cells ((za p0).map .d))), (3, (.cells [(xi p1)])), (6, (.cells ((za p0).map .d))), (8, (.cells [(xi (w64 ((zo 1 (p0.Slips.1.length : Int)) - 1)))])), (9, (.cells [(.fn 77 [] [(.ptr 0 6 0), (.ptr 0 8 0), (.ptr 0 3 0), (.ptr 0 9 0)])]))], f1, f2, f3]⟩, [])) (r0 : (SL Int)) (r1 r2 : Int) (r : zt14) (h : zMi k p0 p1 rc r0 r1 r2 = some r) : zJ TE (ev TE) 77 [(.d (dl eI r0.1 r0.2)), (xi r1), (xi r2), (.ptr 0 6 0), (.ptr 0 8 0), (.ptr 0 3 0), (.ptr 0 9 0)] ⟨f3, [[(zc 2 (za p0)), (3, (.cells [(xi p1)])), (zc 6 (za p0)), (8, (.cells [(xi (w64 ((zo 1 (p0.Slips.1.length : Int)) - 1)))])), (9, (.cells [(.fn 77 [] [(.ptr 0 6 0), (.ptr 0 8 0), (.ptr 0 3 0), (.ptr 0 9 0)])]))], f1, f2]⟩ [] = some (zu r, ⟨f3, [[(zc 2 (za p0)), (3, (.cells [(xi p1)])), (zc 6 (za p0)), (8, (.cells [(xi (w64 ((zo 1 (p0.Slips.1.length : Int)) - 1)))])), (9, (.cells [(.fn 77 [] [(.ptr 0 6 0), (.ptr 0 8 0), (.ptr 0 3 0), (.ptr 0 9 0)])]))], f1, f2]⟩, []) := by
 unfold zMi at h
 refine zn h (fun h901 g1 => ?_) (fun h901 g1 => ?_)
 ·refine zj g1 (fun v902 h903 g2 => ?_)
  exact zP (g := (fun r => (zu r, ⟨f3, [[(2, (.cells ((za p0).map .d))), (3, (.cells [(xi p1)])), (6, (.cells ((za p0).map .d))), (8, (.cells [(xi (w64 ((zo 1 (p0.Slips.1.length : Int)) - 1)))])), (9, (.cells [(.fn 77 [] [(.ptr 0 6 0), (.ptr 0 8 0), (.ptr 0 3 0), (.ptr 0 9 0)])]))], f1, f2]⟩, []))) g2 (zH (n := 80) (V := [(77, 1, 1, .q (xi (r0.1.length : Int))), (77, 1, 3, .q (xb true)), (77, 2, 6, .c (.tup [(dl (eL eI) v902.1.1 v902.1.2), (db v902.2)]))]) (C := []) (ob (zr eI r0.1) (ob (o_b h901) (ob (zR k (⟨p0⟩ : zh) (⟨(zib (w64 ((zo 1 (p0.Slips.1.length : Int)) - 1)) r1), p1⟩ : zt) _ h903) ob0))) (by kernel_rfl))
 ·refine zj g1 (fun v902 h903 g2 => ?_)
  refine zj g2 (fun v904 h905 g3 => ?_)
  refine zPb g3 (fun v907 hh g4_0 => ?_) (fun v907 hh g4_0 => ?_)
  ·subst hh
   exact zP (g := (fun r => (zu r, ⟨f3, [[(2, (.cells ((za p0).map .d))), (3, (.cells [(xi p1)])), (6, (.cells ((za p0).map .d))), (8, (.cells [(xi (w64 ((zo 1 (p0.Slips.1.length : Int)) - 1)))])), (9, (.cells [(.fn 77 [] [(.ptr 0 6 0), (.ptr 0 8 0), (.ptr 0 3 0), (.ptr 0 9 0)])]))], f1, f2]⟩, []))) g4_0 (zH (n := 80) (V := [(77, 1, 1, .q (xi (r0.1.length : Int))), (77, 1, 3, .q (xb false)), (77, 5, 1, .q (xi (r0.1.length : Int)))]) (C := [(77, 2000036, (.nor, zEf p0 p1 r0 r1 r2 (decide ((r0.1.length : Int) > 0)) rc f1 f2 f3 v902)), (77, 0, (.ret, zVh p0 p1 r0 r1 r2 v902 rc f1 f2 f3 v907))]) (ob (zr eI r0.1) (ob (o_b h901) (ob (zr eI r0.1) (ob (zDm k p0 p1 r0 r1 r2 (decide ((r0.1.length : Int) > 0)) rc f1 f2 f3 hrc _ h903) (ob (zx (id := 0) (r' := (.ret, zVh p0 p1 r0 r1 r2 v902 rc f1 f2 f3 v907)) (zSd (zil k p0 p1 r0 r1 r2 v902 rc f1 f2 f3 hrc) k _ _ h905) rfl) ob0))))) (by kernel_rfl))
  ·subst hh
   exact zP (g := (fun r => (zu r, ⟨f3, [[(2, (.cells ((za p0).map .d))), (3, (.cells [(xi p1)])), (6, (.cells ((za p0).map .d))), (8, (.cells [(xi (w64 ((zo 1 (p0.Slips.1.length : Int)) - 1)))])), (9, (.cells [(.fn 77 [] [(.ptr 0 6 0), (.ptr 0 8 0), (.ptr 0 3 0), (.ptr 0 9 0)])]))], f1, f2]⟩, []))) g4_0 (zH (n := 80) (V := [(77, 1, 1, .q (xi (r0.1.length : Int))), (77, 1, 3, .q (xb false)), (77, 5, 1, .q (xi (r0.1.length : Int)))]) (C := [(77, 2000036, (.nor, zEf p0 p1 r0 r1 r2 (decide ((r0.1.length : Int) > 0)) rc f1 f2 f3 v902)), (77, 0, (.nor, zDh p0 p1 r0 r1 r2 v902 rc f1 f2 f3 v907))]) (ob (zr eI r0.1) (ob (o_b h901) (ob (zr eI r0.1) (ob (zDm k p0 p1 r0 r1 r2 (decide ((r0.1.length : Int) > 0)) rc f1 f2 f3 hrc _ h903) (ob (zx (id := 0) (r' := (.nor, zDh p0 p1 r0 r1 r2 v902 rc f1 f2 f3 v907)) (zSd (zil k p0 p1 r0 r1 r2 v902 rc f1 f2 f3 hrc) k _ _ h905) rfl) ob0))))) (by kernel_rfl))
noncomputable def zWe (p0 : zd) (p1 : Int) (r0 : (SL Int)) (r1 r2 : Int) (cb : Bool) (rc : zt0) (f1 f2 f3 f4 : Fr) (r : zt1) : St := ⟨(zyj r0 r1 r2 r), ⟨[], [[(zc 2 (za p0)), (3, (.cells [(xi p1)])), (zc 6 (za p0)), (8, (.cells [(xi (w64 ((zo 1 (p0.Slips.1.length : Int)) - 1)))])), (9, (.cells [(.fn 77 [] [(.ptr 0 6 0), (.ptr 0 8 0), (.ptr 0 3 0), (.ptr 0 9 0)])]))], f1, f2, f3, f4]⟩, []⟩
theorem zFl (k : Nat) (p0 : zd) (p1 : Int) (r0 : (SL Int)) (r1 r2 : Int) (cb : Bool) (rc : zt0) (f1 f2 f3 f4 : Fr) (hrc : ∀ (f : Fr) (r0 : (SL Int)) (r1 : Int) (r2 : Int) (r : ((SL Int) × Bool)), rc r0 r1 r2 = some r → zJ TE (ev TE) 77 [(.d (dl eI r0.1 r0.2)), (xi r1), (xi r2), (.ptr 0 6 0), (.ptr 0 8 0), (.ptr 0 3 0), (.ptr 0 9 0)] ⟨f, [[(2, (.cells ((za p0).map .d))), (3, (.cells [(xi p1)])), (6, (.cells ((za p0).map .d))), (8, (.cells [(xi (w64 ((zo 1 (p0.Slips.1.length : Int)) - 1)))])), (9, (.cells [(.fn 77 [] [(.ptr 0 6 0), (.ptr 0 8 0), (.ptr 0 3 0), (.ptr 0 9 0)])]))], f1, f2, f3, f4]⟩ [] = some (zu r, ⟨f, [[(2, (.cells ((za p0).map .d))), (3, (.cells [(xi p1)])), (6, (.cells ((za p0).map .d))), (8, (.cells [(xi (w64 ((zo 1 (p0.Slips.1.length : Int)) - 1)))])), (9, (.cells [(.fn 77 [] [(.ptr 0 6 0), (.ptr 0 8 0), (.ptr 0 3 0), (.ptr 0 9 0)])]))], f1, f2, f3, f4]⟩, [])) (r : zt1) (h : zZj k p0 p1 r0 r1 r2 cb rc = some r) : ev TE 77 (cnd TE 77 36) ⟨(zwj r0 r1 r2 cb), ⟨[], [[(zc 2 (za p0)), (3, (.cells [(xi p1)])), (zc 6 (za p0)), (8, (.cells [(xi (w64 ((zo 1 (p0.Slips.1.length : Int)) - 1)))])), (9, (.cells [(.fn 77 [] [(.ptr 0 6 0), (.ptr 0 8 0), (.ptr 0 3 0), (.ptr 0 9 0)])]))], f1, f2, f3, f4]⟩, []⟩ = some (.nor, zWe p0 p1 r0 r1 r2 cb rc f1 f2 f3 f4 r) := by
 unfold zZj at h
 refine zn h (fun h1201 g1 => ?_) (fun h1201 g1 => ?_)
 ·subst h1201
  refine zj g1 (fun v1202 h1203 g2 => ?_)
  exact zA (g := fun r => (Ex.nor, zWe p0 p1 r0 r1 r2 true rc f1 f2 f3 f4 r)) g2 (zqe [(77, 6, 2, .q (xi (r0.1.length : Int))), (77, 6, 4, .q (.d (.pin [(di v1202)])))] [] (ob (zr eI r0.1) (ob (o_ia (e := eI) 1 h1203 rfl) ob0)) (by kernel_rfl))
 ·subst h1201
  exact zA (g := fun r => (Ex.nor, zWe p0 p1 r0 r1 r2 false rc f1 f2 f3 f4 r)) g1 (zqe [] [] ob0 (by kernel_rfl))
noncomputable def zXz (r0 : (SL Int)) (r1 r2 : Int) (v1102 : zt1) (s12_8 : Int) : TM := [(0, (.d (dl eI r0.1 r0.2))), (1, (xi r1)), (2, (xi r2)), (3, (.ptr 0 6 0)), (4, (.ptr 0 8 0)), (5, (.ptr 0 3 0)), (6, (.ptr 0 9 0)), (10, (.d (.sl [] .nil))), (11, (xb false)), (21, (xb false)), (14, (xi v1102.1)), (36, (xb v1102.2)), (15, (xi s12_8))]
noncomputable def z2q (p0 : zd) (p1 : Int) (r0 : (SL Int)) (r1 r2 : Int) (v1102 : zt1) (rc : zt0) (f1 f2 f3 f4 : Fr) (s12_8 : Int) : St := ⟨(zXz r0 r1 r2 v1102 s12_8), ⟨[], [[(zc 2 (za p0)), (3, (.cells [(xi p1)])), (zc 6 (za p0)), (8, (.cells [(xi (w64 ((zo 1 (p0.Slips.1.length : Int)) - 1)))])), (9, (.cells [(.fn 77 [] [(.ptr 0 6 0), (.ptr 0 8 0), (.ptr 0 3 0), (.ptr 0 9 0)])]))], f1, f2, f3, f4]⟩, []⟩
noncomputable def znA (r0 : (SL Int)) (r1 r2 : Int) (r : zt19) (v1102 : zt1) : TM := [(0, (.d (dl eI r0.1 r0.2))), (1, (xi r1)), (2, (xi r2)), (3, (.ptr 0 6 0)), (4, (.ptr 0 8 0)), (5, (.ptr 0 3 0)), (6, (.ptr 0 9 0)), (10, (.d (dl eI r.1.1 r.1.2))), (11, (xb true)), (21, (xb false)), (14, (xi v1102.1)), (36, (xb v1102.2)), (15, (xi r.2.1)), (50, (xb true)), (16, (.d (dl eI r.1.1 r.1.2))), (17, (xb r.2.2)), (72, (xb true))]
noncomputable def zFh (p0 : zd) (p1 : Int) (r0 : (SL Int)) (r1 r2 : Int) (v1102 : zt1) (rc : zt0) (f1 f2 f3 f4 : Fr) (r : zt19) : St := ⟨(znA r0 r1 r2 r v1102), ⟨[], [[(zc 2 (za p0)), (3, (.cells [(xi p1)])), (zc 6 (za p0)), (8, (.cells [(xi (w64 ((zo 1 (p0.Slips.1.length : Int)) - 1)))])), (9, (.cells [(.fn 77 [] [(.ptr 0 6 0), (.ptr 0 8 0), (.ptr 0 3 0), (.ptr 0 9 0)])]))], f1, f2, f3, f4]⟩, []⟩
noncomputable def z9z (r0 : (SL Int)) (r1 r2 : Int) (v1102 : zt1) (r : Int) : TM := [(0, (.d (dl eI r0.1 r0.2))), (1, (xi r1)), (2, (xi r2)), (3, (.ptr 0 6 0)), (4, (.ptr 0 8 0)), (5, (.ptr 0 3 0)), (6, (.ptr 0 9 0)), (10, (.d (.sl [] .nil))), (11, (xb false)), (21, (xb false)), (14, (xi v1102.1)), (36, (xb v1102.2)), (15, (xi r)), (50, (xb false))]
noncomputable def zUh (p0 : zd) (p1 : Int) (r0 : (SL Int)) (r1 r2 : Int) (v1102 : zt1) (rc : zt0) (f1 f2 f3 f4 : Fr) (r : Int) : St := ⟨(z9z r0 r1 r2 v1102 r), ⟨[], [[(zc 2 (za p0)), (3, (.cells [(xi p1)])), (zc 6 (za p0)), (8, (.cells [(xi (w64 ((zo 1 (p0.Slips.1.length : Int)) - 1)))])), (9, (.cells [(.fn 77 [] [(.ptr 0 6 0), (.ptr 0 8 0), (.ptr 0 3 0), (.ptr 0 9 0)])]))], f1, f2, f3, f4]⟩, []⟩
noncomputable def zDq (p0 : zd) (p1 : Int) (r0 : (SL Int)) (r1 r2 : Int) (v1102 : zt1) (rc : zt0) (f1 f2 f3 f4 : Fr) : (((SL Int) × Int × Bool) ⊕ Int) → Ex × St := Sum.elim (fun r => (.ret, zFh p0 p1 r0 r1 r2 v1102 rc f1 f2 f3 f4 r)) (fun r => ((.exit 0), zUh p0 p1 r0 r1 r2 v1102 rc f1 f2 f3 f4 r))
theorem zpl (k : Nat) (p0 : zd) (p1 : Int) (r0 : (SL Int)) (r1 r2 : Int) (v1102 : zt1) (rc : zt0) (f1 f2 f3 f4 : Fr) (hrc : ∀ (f : Fr) (r0 : (SL Int)) (r1 : Int) (r2 : Int) (r : ((SL Int) × Bool)), rc r0 r1 r2 = some r → zJ TE (ev TE) 77 [(.d (dl eI r0.1 r0.2)), (xi r1), (xi r2), (.ptr 0 6 0), (.ptr 0 8 0), (.ptr 0 3 0), (.ptr 0 9 0)] ⟨f, [[(2, (.cells ((za p0).map .d))), (3, (.cells [(xi p1)])), (6, (.cells ((za p0).map .d))), (8, (.cells [(xi (w64 ((zo 1 (p0.Slips.1.length : Int)) - 1)))])), (9, (.cells [(.fn 77 [] [(.ptr 0 6 0), (.ptr 0 8 0), (.ptr 0 3 0), (.ptr 0 9 0)])]))], f1, f2, f3, f4]⟩ [] = some (zu r, ⟨f, [[(2, (.cells ((za p0).map .d))), (3, (.cells [(xi p1)])), (6, (.cells ((za p0).map .d))), (8, (.cells [(xi (w64 ((zo 1 (p0.Slips.1.length : Int)) - 1)))])), (9, (.cells [(.fn 77 [] [(.ptr 0 6 0), (.ptr 0 8 0), (.ptr 0 3 0), (.ptr 0 9 0)])]))], f1, f2, f3, f4]⟩, [])) (s12_8 : Int) (x : Int ⊕ (((SL Int) × Int × Bool) ⊕ Int)) (h : z7j k p0 p1 r0 r1 r2 v1102 rc s12_8 = some x) : zE TE 77 (blk TE 77 0) (fun s : Int => z2q p0 p1 r0 r1 r2 v1102 rc f1 f2 f3 f4 s) (zDq p0 p1 r0 r1 r2 v1102 rc f1 f2 f3 f4) s12_8 x := by
 unfold z7j at h
 refine zn h (fun h1301 g1 => ?_) (fun h1301 g1 => ?_)
 ·refine zn g1 (fun h1302 g2 => ?_) (fun h1302 g2 => ?_)
  ·cases g2
  ·refine zO g2 (fun h1303 g3 => ?_)
   refine zn g3 (fun h1304 g4 => ?_) (fun h1304 g4 => ?_)
   ·cases g4
   ·refine zj g4 (fun v1305 h1306 g5 => ?_)
    refine zn g5 (fun h1307 g6 => ?_) (fun h1307 g6 => ?_)
    ·exact zqo [(77, 8, 4, .q (xi (p0.Slips.1.length : Int))), (77, 8, 5, .q (xb true)), (77, 10, 3, .q (xi (r0.1.length : Int))), (77, 10, 5, .q (xi (r0.1.length : Int))), (77, 10, 6, .q (.d (dl eI r0.1 (ccap r0.2)))), (77, 10, 9, .q (.d (dl eI (r0.1 ++ [s12_8]) .ro))), (77, 10, 12, .q (xi (zo 1 s12_8))), (77, 10, 15, .i (.tup [(dl eI v1305.1.1 v1305.1.2), (db v1305.2)]) ⟨[], [[(2, (.cells ((za p0).map .d))), (3, (.cells [(xi p1)])), (6, (.cells ((za p0).map .d))), (8, (.cells [(xi (w64 ((zo 1 (p0.Slips.1.length : Int)) - 1)))])), (9, (.cells [(.fn 77 [] [(.ptr 0 6 0), (.ptr 0 8 0), (.ptr 0 3 0), (.ptr 0 9 0)])]))], f1, f2, f3, f4]⟩ []), (77, 11, 0, .q (xb true))] [] g6 (ob (zr zl p0.Slips.1) (ob (o_b h1301) (ob (zr eI r0.1) (ob (zr eI r0.1) (ob (zod (e := eI) (z := 1) r0.1 r0.2) (ob (o_ad (P := TE.P) (φ := fun _ _ => none) (T := 22) (q := (1, [(di 0)])) (c := (ccap r0.2)) (e := eI) r0.1 s12_8 (by kernel_rfl) (fun _ => rfl) h1302 h1303) (ob (zIb (x := 1) h1304) (ob (hrc ([] : Fr) ((r0.1 ++ [s12_8]), .ro) (or64 r1 (zo 1 s12_8)) r2 _ h1306) (ob (o_b h1307) ob0))))))))) (by kernel_rfl)
    ·exact zqn (w64 (s12_8 + 1)) [] [(77, 8, 4, .q (xi (p0.Slips.1.length : Int))), (77, 8, 5, .q (xb true)), (77, 10, 3, .q (xi (r0.1.length : Int))), (77, 10, 5, .q (xi (r0.1.length : Int))), (77, 10, 6, .q (.d (dl eI r0.1 (ccap r0.2)))), (77, 10, 9, .q (.d (dl eI (r0.1 ++ [s12_8]) .ro))), (77, 10, 12, .q (xi (zo 1 s12_8))), (77, 10, 15, .i (.tup [(dl eI v1305.1.1 v1305.1.2), (db v1305.2)]) ⟨[], [[(2, (.cells ((za p0).map .d))), (3, (.cells [(xi p1)])), (6, (.cells ((za p0).map .d))), (8, (.cells [(xi (w64 ((zo 1 (p0.Slips.1.length : Int)) - 1)))])), (9, (.cells [(.fn 77 [] [(.ptr 0 6 0), (.ptr 0 8 0), (.ptr 0 3 0), (.ptr 0 9 0)])]))], f1, f2, f3, f4]⟩ []), (77, 11, 0, .q (xb false))] [] g6 (ob (zr zl p0.Slips.1) (ob (o_b h1301) (ob (zr eI r0.1) (ob (zr eI r0.1) (ob (zod (e := eI) (z := 1) r0.1 r0.2) (ob (o_ad (P := TE.P) (φ := fun _ _ => none) (T := 22) (q := (1, [(di 0)])) (c := (ccap r0.2)) (e := eI) r0.1 s12_8 (by kernel_rfl) (fun _ => rfl) h1302 h1303) (ob (zIb (x := 1) h1304) (ob (hrc ([] : Fr) ((r0.1 ++ [s12_8]), .ro) (or64 r1 (zo 1 s12_8)) r2 _ h1306) (ob (o_b h1307) ob0))))))))) (by kernel_rfl)
 ·exact zqo [(77, 8, 4, .q (xi (p0.Slips.1.length : Int))), (77, 8, 5, .q (xb false))] [] g1 (ob (zr zl p0.Slips.1) (ob (o_b h1301) ob0)) (by kernel_rfl)
theorem zKp (k : Nat) (p0 : zd) (p1 : Int) (rc : zt0) (f1 f2 f3 f4 : Fr) (hrc : ∀ (f : Fr) (r0 : (SL Int)) (r1 : Int) (r2 : Int) (r : ((SL Int) × Bool)), rc r0 r1 r2 = some r → zJ TE (ev TE) 77 [(.d (dl eI r0.1 r0.2)), (xi r1), (xi r2), (.ptr 0 6 0), (.ptr 0 8 0), (.ptr 0 3 0), (.ptr 0 9 0)] ⟨f, [[(2, (.cells ((za p0).map .d))), (3, (.cells [(xi p1)])), (6, (.cells ((za p0).map .d))), (8, (.cells [(xi (w64 ((zo 1 (p0.Slips.1.length : Int)) - 1)))])), (9, (.cells [(.fn 77 [] [(.ptr 0 6 0), (.ptr 0 8 0), (.ptr 0 3 0), (.ptr 0 9 0)])]))], f1, f2, f3, f4]⟩ [] = some (zu r, ⟨f, [[(2, (.cells ((za p0).map .d))), (3, (.cells [(xi p1)])), (6, (.cells ((za p0).map .d))), (8, (.cells [(xi (w64 ((zo 1 (p0.Slips.1.length : Int)) - 1)))])), (9, (.cells [(.fn 77 [] [(.ptr 0 6 0), (.ptr 0 8 0), (.ptr 0 3 0), (.ptr 0 9 0)])]))], f1, f2, f3, f4]⟩, [])) (r0 : (SL Int)) (r1 r2 : Int) (r : zt14) (h : zEi k p0 p1 rc r0 r1 r2 = some r) : zJ TE (ev TE) 77 [(.d (dl eI r0.1 r0.2)), (xi r1), (xi r2), (.ptr 0 6 0), (.ptr 0 8 0), (.ptr 0 3 0), (.ptr 0 9 0)] ⟨f4, [[(zc 2 (za p0)), (3, (.cells [(xi p1)])), (zc 6 (za p0)), (8, (.cells [(xi (w64 ((zo 1 (p0.Slips.1.length : Int)) - 1)))])), (9, (.cells [(.fn 77 [] [(.ptr 0 6 0), (.ptr 0 8 0), (.ptr 0 3 0), (.ptr 0 9 0)])]))], f1, f2, f3]⟩ [] = some (zu r, ⟨f4, [[(zc 2 (za p0)), (3, (.cells [(xi p1)])), (zc 6 (za p0)), (8, (.cells [(xi (w64 ((zo 1 (p0.Slips.1.length : Int)) - 1)))])), (9, (.cells [(.fn 77 [] [(.ptr 0 6 0), (.ptr 0 8 0), (.ptr 0 3 0), (.ptr 0 9 0)])]))], f1, f2, f3]⟩, []) := by
 unfold zEi at h
 refine zn h (fun h1101 g1 => ?_) (fun h1101 g1 => ?_)
 ·refine zj g1 (fun v1102 h1103 g2 => ?_)
  exact zP (g := (fun r => (zu r, ⟨f4, [[(2, (.cells ((za p0).map .d))), (3, (.cells [(xi p1)])), (6, (.cells ((za p0).map .d))), (8, (.cells [(xi (w64 ((zo 1 (p0.Slips.1.length : Int)) - 1)))])), (9, (.cells [(.fn 77 [] [(.ptr 0 6 0), (.ptr 0 8 0), (.ptr 0 3 0), (.ptr 0 9 0)])]))], f1, f2, f3]⟩, []))) g2 (zH (n := 80) (V := [(77, 1, 1, .q (xi (r0.1.length : Int))), (77, 1, 3, .q (xb true)), (77, 2, 6, .c (.tup [(dl (eL eI) v1102.1.1 v1102.1.2), (db v1102.2)]))]) (C := []) (ob (zr eI r0.1) (ob (o_b h1101) (ob (zR k (⟨p0⟩ : zh) (⟨(zib (w64 ((zo 1 (p0.Slips.1.length : Int)) - 1)) r1), p1⟩ : zt) _ h1103) ob0))) (by kernel_rfl))
 ·refine zj g1 (fun v1102 h1103 g2 => ?_)
  refine zj g2 (fun v1104 h1105 g3 => ?_)
  refine zPb g3 (fun v1107 hh g4_0 => ?_) (fun v1107 hh g4_0 => ?_)
  ·subst hh
   exact zP (g := (fun r => (zu r, ⟨f4, [[(2, (.cells ((za p0).map .d))), (3, (.cells [(xi p1)])), (6, (.cells ((za p0).map .d))), (8, (.cells [(xi (w64 ((zo 1 (p0.Slips.1.length : Int)) - 1)))])), (9, (.cells [(.fn 77 [] [(.ptr 0 6 0), (.ptr 0 8 0), (.ptr 0 3 0), (.ptr 0 9 0)])]))], f1, f2, f3]⟩, []))) g4_0 (zH (n := 80) (V := [(77, 1, 1, .q (xi (r0.1.length : Int))), (77, 1, 3, .q (xb false)), (77, 5, 1, .q (xi (r0.1.length : Int)))]) (C := [(77, 2000036, (.nor, zWe p0 p1 r0 r1 r2 (decide ((r0.1.length : Int) > 0)) rc f1 f2 f3 f4 v1102)), (77, 0, (.ret, zFh p0 p1 r0 r1 r2 v1102 rc f1 f2 f3 f4 v1107))]) (ob (zr eI r0.1) (ob (o_b h1101) (ob (zr eI r0.1) (ob (zFl k p0 p1 r0 r1 r2 (decide ((r0.1.length : Int) > 0)) rc f1 f2 f3 f4 hrc _ h1103) (ob (zx (id := 0) (r' := (.ret, zFh p0 p1 r0 r1 r2 v1102 rc f1 f2 f3 f4 v1107)) (zSd (zpl k p0 p1 r0 r1 r2 v1102 rc f1 f2 f3 f4 hrc) k _ _ h1105) rfl) ob0))))) (by kernel_rfl))
  ·subst hh
   exact zP (g := (fun r => (zu r, ⟨f4, [[(2, (.cells ((za p0).map .d))), (3, (.cells [(xi p1)])), (6, (.cells ((za p0).map .d))), (8, (.cells [(xi (w64 ((zo 1 (p0.Slips.1.length : Int)) - 1)))])), (9, (.cells [(.fn 77 [] [(.ptr 0 6 0), (.ptr 0 8 0), (.ptr 0 3 0), (.ptr 0 9 0)])]))], f1, f2, f3]⟩, []))) g4_0 (zH (n := 80) (V := [(77, 1, 1, .q (xi (r0.1.length : Int))), (77, 1, 3, .q (xb false)), (77, 5, 1, .q (xi (r0.1.length : Int)))]) (C := [(77, 2000036, (.nor, zWe p0 p1 r0 r1 r2 (decide ((r0.1.length : Int) > 0)) rc f1 f2 f3 f4 v1102)), (77, 0, (.nor, zUh p0 p1 r0 r1 r2 v1102 rc f1 f2 f3 f4 v1107))]) (ob (zr eI r0.1) (ob (o_b h1101) (ob (zr eI r0.1) (ob (zFl k p0 p1 r0 r1 r2 (decide ((r0.1.length : Int) > 0)) rc f1 f2 f3 f4 hrc _ h1103) (ob (zx (id := 0) (r' := (.nor, zUh p0 p1 r0 r1 r2 v1102 rc f1 f2 f3 f4 v1107)) (zSd (zpl k p0 p1 r0 r1 r2 v1102 rc f1 f2 f3 f4 hrc) k _ _ h1105) rfl) ob0))))) (by kernel_rfl))
noncomputable def z1e (p0 : zd) (p1 : Int) (r0 : (SL Int)) (r1 r2 : Int) (cb : Bool) (rc : zt0) (f1 f2 f3 f4 f5 : Fr) (r : zt1) : St := ⟨(zyj r0 r1 r2 r), ⟨[], [[(zc 2 (za p0)), (3, (.cells [(xi p1)])), (zc 6 (za p0)), (8, (.cells [(xi (w64 ((zo 1 (p0.Slips.1.length : Int)) - 1)))])), (9, (.cells [(.fn 77 [] [(.ptr 0 6 0), (.ptr 0 8 0), (.ptr 0 3 0), (.ptr 0 9 0)])]))], f1, f2, f3, f4, f5]⟩, []⟩
theorem zzl (k : Nat) (p0 : zd) (p1 : Int) (r0 : (SL Int)) (r1 r2 : Int) (cb : Bool) (rc : zt0) (f1 f2 f3 f4 f5 : Fr) (hrc : ∀ (f : Fr) (r0 : (SL Int)) (r1 : Int) (r2 : Int) (r : ((SL Int) × Bool)), rc r0 r1 r2 = some r → zJ TE (ev TE) 77 [(.d (dl eI r0.1 r0.2)), (xi r1), (xi r2), (.ptr 0 6 0), (.ptr 0 8 0), (.ptr 0 3 0), (.ptr 0 9 0)] ⟨f, [[(2, (.cells ((za p0).map .d))), (3, (.cells [(xi p1)])), (6, (.cells ((za p0).map .d))), (8, (.cells [(xi (w64 ((zo 1 (p0.Slips.1.length : Int)) - 1)))])), (9, (.cells [(.fn 77 [] [(.ptr 0 6 0), (.ptr 0 8 0), (.ptr 0 3 0), (.ptr 0 9 0)])]))], f1, f2, f3, f4, f5]⟩ [] = some (zu r, ⟨f, [[(2, (.cells ((za p0).map .d))), (3, (.cells [(xi p1)])), (6, (.cells ((za p0).map .d))), (8, (.cells [(xi (w64 ((zo 1 (p0.Slips.1.length : Int)) - 1)))])), (9, (.cells [(.fn 77 [] [(.ptr 0 6 0), (.ptr 0 8 0), (.ptr 0 3 0), (.ptr 0 9 0)])]))], f1, f2, f3, f4, f5]⟩, [])) (r : zt1) (h : zmk k p0 p1 r0 r1 r2 cb rc = some r) : ev TE 77 (cnd TE 77 36) ⟨(zwj r0 r1 r2 cb), ⟨[], [[(zc 2 (za p0)), (3, (.cells [(xi p1)])), (zc 6 (za p0)), (8, (.cells [(xi (w64 ((zo 1 (p0.Slips.1.length : Int)) - 1)))])), (9, (.cells [(.fn 77 [] [(.ptr 0 6 0), (.ptr 0 8 0), (.ptr 0 3 0), (.ptr 0 9 0)])]))], f1, f2, f3, f4, f5]⟩, []⟩ = some (.nor, z1e p0 p1 r0 r1 r2 cb rc f1 f2 f3 f4 f5 r) := by
 unfold zmk at h
 refine zn h (fun h1401 g1 => ?_) (fun h1401 g1 => ?_)
 ·subst h1401
  refine zj g1 (fun v1402 h1403 g2 => ?_)
  exact zA (g := fun r => (Ex.nor, z1e p0 p1 r0 r1 r2 true rc f1 f2 f3 f4 f5 r)) g2 (zqe [(77, 6, 2, .q (xi (r0.1.length : Int))), (77, 6, 4, .q (.d (.pin [(di v1402)])))] [] (ob (zr eI r0.1) (ob (o_ia (e := eI) 1 h1403 rfl) ob0)) (by kernel_rfl))
 ·subst h1401
  exact zA (g := fun r => (Ex.nor, z1e p0 p1 r0 r1 r2 false rc f1 f2 f3 f4 f5 r)) g1 (zqe [] [] ob0 (by kernel_rfl))
noncomputable def zuA (r0 : (SL Int)) (r1 r2 : Int) (v1302 : zt1) (s14_8 : Int) : TM := [(0, (.d (dl eI r0.1 r0.2))), (1, (xi r1)), (2, (xi r2)), (3, (.ptr 0 6 0)), (4, (.ptr 0 8 0)), (5, (.ptr 0 3 0)), (6, (.ptr 0 9 0)), (10, (.d (.sl [] .nil))), (11, (xb false)), (21, (xb false)), (14, (xi v1302.1)), (36, (xb v1302.2)), (15, (xi s14_8))]
noncomputable def zpr (p0 : zd) (p1 : Int) (r0 : (SL Int)) (r1 r2 : Int) (v1302 : zt1) (rc : zt0) (f1 f2 f3 f4 f5 : Fr) (s14_8 : Int) : St := ⟨(zuA r0 r1 r2 v1302 s14_8), ⟨[], [[(zc 2 (za p0)), (3, (.cells [(xi p1)])), (zc 6 (za p0)), (8, (.cells [(xi (w64 ((zo 1 (p0.Slips.1.length : Int)) - 1)))])), (9, (.cells [(.fn 77 [] [(.ptr 0 6 0), (.ptr 0 8 0), (.ptr 0 3 0), (.ptr 0 9 0)])]))], f1, f2, f3, f4, f5]⟩, []⟩
noncomputable def z7A (r0 : (SL Int)) (r1 r2 : Int) (r : zt19) (v1302 : zt1) : TM := [(0, (.d (dl eI r0.1 r0.2))), (1, (xi r1)), (2, (xi r2)), (3, (.ptr 0 6 0)), (4, (.ptr 0 8 0)), (5, (.ptr 0 3 0)), (6, (.ptr 0 9 0)), (10, (.d (dl eI r.1.1 r.1.2))), (11, (xb true)), (21, (xb false)), (14, (xi v1302.1)), (36, (xb v1302.2)), (15, (xi r.2.1)), (50, (xb true)), (16, (.d (dl eI r.1.1 r.1.2))), (17, (xb r.2.2)), (72, (xb true))]
noncomputable def zWh (p0 : zd) (p1 : Int) (r0 : (SL Int)) (r1 r2 : Int) (v1302 : zt1) (rc : zt0) (f1 f2 f3 f4 f5 : Fr) (r : zt19) : St := ⟨(z7A r0 r1 r2 r v1302), ⟨[], [[(zc 2 (za p0)), (3, (.cells [(xi p1)])), (zc 6 (za p0)), (8, (.cells [(xi (w64 ((zo 1 (p0.Slips.1.length : Int)) - 1)))])), (9, (.cells [(.fn 77 [] [(.ptr 0 6 0), (.ptr 0 8 0), (.ptr 0 3 0), (.ptr 0 9 0)])]))], f1, f2, f3, f4, f5]⟩, []⟩
noncomputable def zzA (r0 : (SL Int)) (r1 r2 : Int) (v1302 : zt1) (r : Int) : TM := [(0, (.d (dl eI r0.1 r0.2))), (1, (xi r1)), (2, (xi r2)), (3, (.ptr 0 6 0)), (4, (.ptr 0 8 0)), (5, (.ptr 0 3 0)), (6, (.ptr 0 9 0)), (10, (.d (.sl [] .nil))), (11, (xb false)), (21, (xb false)), (14, (xi v1302.1)), (36, (xb v1302.2)), (15, (xi r)), (50, (xb false))]
noncomputable def zYh (p0 : zd) (p1 : Int) (r0 : (SL Int)) (r1 r2 : Int) (v1302 : zt1) (rc : zt0) (f1 f2 f3 f4 f5 : Fr) (r : Int) : St := ⟨(zzA r0 r1 r2 v1302 r), ⟨[], [[(zc 2 (za p0)), (3, (.cells [(xi p1)])), (zc 6 (za p0)), (8, (.cells [(xi (w64 ((zo 1 (p0.Slips.1.length : Int)) - 1)))])), (9, (.cells [(.fn 77 [] [(.ptr 0 6 0), (.ptr 0 8 0), (.ptr 0 3 0), (.ptr 0 9 0)])]))], f1, f2, f3, f4, f5]⟩, []⟩
noncomputable def z9q (p0 : zd) (p1 : Int) (r0 : (SL Int)) (r1 r2 : Int) (v1302 : zt1) (rc : zt0) (f1 f2 f3 f4 f5 : Fr) : (((SL Int) × Int × Bool) ⊕ Int) → Ex × St := Sum.elim (fun r => (.ret, zWh p0 p1 r0 r1 r2 v1302 rc f1 f2 f3 f4 f5 r)) (fun r => ((.exit 0), zYh p0 p1 r0 r1 r2 v1302 rc f1 f2 f3 f4 f5 r))
theorem z3k (k : Nat) (p0 : zd) (p1 : Int) (r0 : (SL Int)) (r1 r2 : Int) (v1302 : zt1) (rc : zt0) (f1 f2 f3 f4 f5 : Fr) (hrc : ∀ (f : Fr) (r0 : (SL Int)) (r1 : Int) (r2 : Int) (r : ((SL Int) × Bool)), rc r0 r1 r2 = some r → zJ TE (ev TE) 77 [(.d (dl eI r0.1 r0.2)), (xi r1), (xi r2), (.ptr 0 6 0), (.ptr 0 8 0), (.ptr 0 3 0), (.ptr 0 9 0)] ⟨f, [[(2, (.cells ((za p0).map .d))), (3, (.cells [(xi p1)])), (6, (.cells ((za p0).map .d))), (8, (.cells [(xi (w64 ((zo 1 (p0.Slips.1.length : Int)) - 1)))])), (9, (.cells [(.fn 77 [] [(.ptr 0 6 0), (.ptr 0 8 0), (.ptr 0 3 0), (.ptr 0 9 0)])]))], f1, f2, f3, f4, f5]⟩ [] = some (zu r, ⟨f, [[(2, (.cells ((za p0).map .d))), (3, (.cells [(xi p1)])), (6, (.cells ((za p0).map .d))), (8, (.cells [(xi (w64 ((zo 1 (p0.Slips.1.length : Int)) - 1)))])), (9, (.cells [(.fn 77 [] [(.ptr 0 6 0), (.ptr 0 8 0), (.ptr 0 3 0), (.ptr 0 9 0)])]))], f1, f2, f3, f4, f5]⟩, [])) (s14_8 : Int) (x : Int ⊕ (((SL Int) × Int × Bool) ⊕ Int)) (h : zYj k p0 p1 r0 r1 r2 v1302 rc s14_8 = some x) : zE TE 77 (blk TE 77 0) (fun s : Int => zpr p0 p1 r0 r1 r2 v1302 rc f1 f2 f3 f4 f5 s) (z9q p0 p1 r0 r1 r2 v1302 rc f1 f2 f3 f4 f5) s14_8 x := by
 unfold zYj at h
 refine zn h (fun h1501 g1 => ?_) (fun h1501 g1 => ?_)
 ·refine zn g1 (fun h1502 g2 => ?_) (fun h1502 g2 => ?_)
  ·cases g2
  ·refine zO g2 (fun h1503 g3 => ?_)
   refine zn g3 (fun h1504 g4 => ?_) (fun h1504 g4 => ?_)
   ·cases g4
   ·refine zj g4 (fun v1505 h1506 g5 => ?_)
    refine zn g5 (fun h1507 g6 => ?_) (fun h1507 g6 => ?_)
    ·exact zqo [(77, 8, 4, .q (xi (p0.Slips.1.length : Int))), (77, 8, 5, .q (xb true)), (77, 10, 3, .q (xi (r0.1.length : Int))), (77, 10, 5, .q (xi (r0.1.length : Int))), (77, 10, 6, .q (.d (dl eI r0.1 (ccap r0.2)))), (77, 10, 9, .q (.d (dl eI (r0.1 ++ [s14_8]) .ro))), (77, 10, 12, .q (xi (zo 1 s14_8))), (77, 10, 15, .i (.tup [(dl eI v1505.1.1 v1505.1.2), (db v1505.2)]) ⟨[], [[(2, (.cells ((za p0).map .d))), (3, (.cells [(xi p1)])), (6, (.cells ((za p0).map .d))), (8, (.cells [(xi (w64 ((zo 1 (p0.Slips.1.length : Int)) - 1)))])), (9, (.cells [(.fn 77 [] [(.ptr 0 6 0), (.ptr 0 8 0), (.ptr 0 3 0), (.ptr 0 9 0)])]))], f1, f2, f3, f4, f5]⟩ []), (77, 11, 0, .q (xb true))] [] g6 (ob (zr zl p0.Slips.1) (ob (o_b h1501) (ob (zr eI r0.1) (ob (zr eI r0.1) (ob (zod (e := eI) (z := 1) r0.1 r0.2) (ob (o_ad (P := TE.P) (φ := fun _ _ => none) (T := 22) (q := (1, [(di 0)])) (c := (ccap r0.2)) (e := eI) r0.1 s14_8 (by kernel_rfl) (fun _ => rfl) h1502 h1503) (ob (zIb (x := 1) h1504) (ob (hrc ([] : Fr) ((r0.1 ++ [s14_8]), .ro) (or64 r1 (zo 1 s14_8)) r2 _ h1506) (ob (o_b h1507) ob0))))))))) (by kernel_rfl)
    ·exact zqn (w64 (s14_8 + 1)) [] [(77, 8, 4, .q (xi (p0.Slips.1.length : Int))), (77, 8, 5, .q (xb true)), (77, 10, 3, .q (xi (r0.1.length : Int))), (77, 10, 5, .q (xi (r0.1.length : Int))), (77, 10, 6, .q (.d (dl eI r0.1 (ccap r0.2)))), (77, 10, 9, .q (.d (dl eI (r0.1 ++ [s14_8]) .ro))), (77, 10, 12, .q (xi (zo 1 s14_8))), (77, 10, 15, .i (.tup [(dl eI v1505.1.1 v1505.1.2), (db v1505.2)]) ⟨[], [[(2, (.cells ((za p0).map .d))), (3, (.cells [(xi p1)])), (6, (.cells ((za p0).map .d))), (8, (.cells [(xi (w64 ((zo 1 (p0.Slips.1.length : Int)) - 1)))])), (9, (.cells [(.fn 77 [] [(.ptr 0 6 0), (.ptr 0 8 0), (.ptr 0 3 0), (.ptr 0 9 0)])]))], f1, f2, f3, f4, f5]⟩ []), (77, 11, 0, .q (xb false))] [] g6 (ob (zr zl p0.Slips.1) (ob (o_b h1501) (ob (zr eI r0.1) (ob (zr eI r0.1) (ob (zod (e := eI) (z := 1) r0.1 r0.2) (ob (o_ad (P := TE.P) (φ := fun _ _ => none) (T := 22) (q := (1, [(di 0)])) (c := (ccap r0.2)) (e := eI) r0.1 s14_8 (by kernel_rfl) (fun _ => rfl) h1502 h1503) (ob (zIb (x := 1) h1504) (ob (hrc ([] : Fr) ((r0.1 ++ [s14_8]), .ro) (or64 r1 (zo 1 s14_8)) r2 _ h1506) (ob (o_b h1507) ob0))))))))) (by kernel_rfl)
 ·exact zqo [(77, 8, 4, .q (xi (p0.Slips.1.length : Int))), (77, 8, 5, .q (xb false))] [] g1 (ob (zr zl p0.Slips.1) (ob (o_b h1501) ob0)) (by kernel_rfl)
theorem zqq (k : Nat) (p0 : zd) (p1 : Int) (rc : zt0) (f1 f2 f3 f4 f5 : Fr) (hrc : ∀ (f : Fr) (r0 : (SL Int)) (r1 : Int) (r2 : Int) (r : ((SL Int) × Bool)), rc r0 r1 r2 = some r → zJ TE (ev TE) 77 [(.d (dl eI r0.1 r0.2)), (xi r1), (xi r2), (.ptr 0 6 0), (.ptr 0 8 0), (.ptr 0 3 0), (.ptr 0 9 0)] ⟨f, [[(2, (.cells ((za p0).map .d))), (3, (.cells [(xi p1)])), (6, (.cells ((za p0).map .d))), (8, (.cells [(xi (w64 ((zo 1 (p0.Slips.1.length : Int)) - 1)))])), (9, (.cells [(.fn 77 [] [(.ptr 0 6 0), (.ptr 0 8 0), (.ptr 0 3 0), (.ptr 0 9 0)])]))], f1, f2, f3, f4, f5]⟩ [] = some (zu r, ⟨f, [[(2, (.cells ((za p0).map .d))), (3, (.cells [(xi p1)])), (6, (.cells ((za p0).map .d))), (8, (.cells [(xi (w64 ((zo 1 (p0.Slips.1.length : Int)) - 1)))])), (9, (.cells [(.fn 77 [] [(.ptr 0 6 0), (.ptr 0 8 0), (.ptr 0 3 0), (.ptr 0 9 0)])]))], f1, f2, f3, f4, f5]⟩, [])) (r0 : (SL Int)) (r1 r2 : Int) (r : zt14) (h : zOi k p0 p1 rc r0 r1 r2 = some r) : zJ TE (ev TE) 77 [(.d (dl eI r0.1 r0.2)), (xi r1), (xi r2), (.ptr 0 6 0), (.ptr 0 8 0), (.ptr 0 3 0), (.ptr 0 9 0)] ⟨f5, [[(zc 2 (za p0)), (3, (.cells [(xi p1)])), (zc 6 (za p0)), (8, (.cells [(xi (w64 ((zo 1 (p0.Slips.1.length : Int)) - 1)))])), (9, (.cells [(.fn 77 [] [(.ptr 0 6 0), (.ptr 0 8 0), (.ptr 0 3 0), (.ptr 0 9 0)])]))], f1, f2, f3, f4]⟩ [] = some (zu r, ⟨f5, [[(zc 2 (za p0)), (3, (.cells [(xi p1)])), (zc 6 (za p0)), (8, (.cells [(xi (w64 ((zo 1 (p0.Slips.1.length : Int)) - 1)))])), (9, (.cells [(.fn 77 [] [(.ptr 0 6 0), (.ptr 0 8 0), (.ptr 0 3 0), (.ptr 0 9 0)])]))], f1, f2, f3, f4]⟩, []) := by
 unfold zOi at h
 refine zn h (fun h1301 g1 => ?_) (fun h1301 g1 => ?_)
 ·refine zj g1 (fun v1302 h1303 g2 => ?_)
  exact zP (g := (fun r => (zu r, ⟨f5, [[(2, (.cells ((za p0).map .d))), (3, (.cells [(xi p1)])), (6, (.cells ((za p0).map .d))), (8, (.cells [(xi (w64 ((zo 1 (p0.Slips.1.length : Int)) - 1)))])), (9, (.cells [(.fn 77 [] [(.ptr 0 6 0), (.ptr 0 8 0), (.ptr 0 3 0), (.ptr 0 9 0)])]))], f1, f2, f3, f4]⟩, []))) g2 (zH (n := 80) (V := [(77, 1, 1, .q (xi (r0.1.length : Int))), (77, 1, 3, .q (xb true)), (77, 2, 6, .c (.tup [(dl (eL eI) v1302.1.1 v1302.1.2), (db v1302.2)]))]) (C := []) (ob (zr eI r0.1) (ob (o_b h1301) (ob (zR k (⟨p0⟩ : zh) (⟨(zib (w64 ((zo 1 (p0.Slips.1.length : Int)) - 1)) r1), p1⟩ : zt) _ h1303) ob0))) (by kernel_rfl))
 ·refine zj g1 (fun v1302 h1303 g2 => ?_)
  refine zj g2 (fun v1304 h1305 g3 => ?_)
  refine zPb g3 (fun v1307 hh g4_0 => ?_) (fun v1307 hh g4_0 => ?_)
  ·subst hh
   exact zP (g := (fun r => (zu r, ⟨f5, [[(2, (.cells ((za p0).map .d))), (3, (.cells [(xi p1)])), (6, (.cells ((za p0).map .d))), (8, (.cells [(xi (w64 ((zo 1 (p0.Slips.1.length : Int)) - 1)))])), (9, (.cells [(.fn 77 [] [(.ptr 0 6 0), (.ptr 0 8 0), (.ptr 0 3 0), (.ptr 0 9 0)])]))], f1, f2, f3, f4]⟩, []))) g4_0 (zH (n := 80) (V := [(77, 1, 1, .q (xi (r0.1.length : Int))), (77, 1, 3, .q (xb false)), (77, 5, 1, .q (xi (r0.1.length : Int)))]) (C := [(77, 2000036, (.nor, z1e p0 p1 r0 r1 r2 (decide ((r0.1.length : Int) > 0)) rc f1 f2 f3 f4 f5 v1302)), (77, 0, (.ret, zWh p0 p1 r0 r1 r2 v1302 rc f1 f2 f3 f4 f5 v1307))]) (ob (zr eI r0.1) (ob (o_b h1301) (ob (zr eI r0.1) (ob (zzl k p0 p1 r0 r1 r2 (decide ((r0.1.length : Int) > 0)) rc f1 f2 f3 f4 f5 hrc _ h1303) (ob (zx (id := 0) (r' := (.ret, zWh p0 p1 r0 r1 r2 v1302 rc f1 f2 f3 f4 f5 v1307)) (zSd (z3k k p0 p1 r0 r1 r2 v1302 rc f1 f2 f3 f4 f5 hrc) k _ _ h1305) rfl) ob0))))) (by kernel_rfl))
  ·subst hh
   exact zP (g := (fun r => (zu r, ⟨f5, [[(2, (.cells ((za p0).map .d))), (3, (.cells [(xi p1)])), (6, (.cells ((za p0).map .d))), (8, (.cells [(xi (w64 ((zo 1 (p0.Slips.1.length : Int)) - 1)))])), (9, (.cells [(.fn 77 [] [(.ptr 0 6 0), (.ptr 0 8 0), (.ptr 0 3 0), (.ptr 0 9 0)])]))], f1, f2, f3, f4]⟩, []))) g4_0 (zH (n := 80) (V := [(77, 1, 1, .q (xi (r0.1.length : Int))), (77, 1, 3, .q (xb false)), (77, 5, 1, .q (xi (r0.1.length : Int)))]) (C := [(77, 2000036, (.nor, z1e p0 p1 r0 r1 r2 (decide ((r0.1.length : Int) > 0)) rc f1 f2 f3 f4 f5 v1302)), (77, 0, (.nor, zYh p0 p1 r0 r1 r2 v1302 rc f1 f2 f3 f4 f5 v1307))]) (ob (zr eI r0.1) (ob (o_b h1301) (ob (zr eI r0.1) (ob (zzl k p0 p1 r0 r1 r2 (decide ((r0.1.length : Int) > 0)) rc f1 f2 f3 f4 f5 hrc _ h1303) (ob (zx (id := 0) (r' := (.nor, zYh p0 p1 r0 r1 r2 v1302 rc f1 f2 f3 f4 f5 v1307)) (zSd (z3k k p0 p1 r0 r1 r2 v1302 rc f1 f2 f3 f4 f5 hrc) k _ _ h1305) rfl) ob0))))) (by kernel_rfl))
noncomputable def zXe (p0 : zd) (p1 : Int) (r0 : (SL Int)) (r1 r2 : Int) (cb : Bool) (rc : zt0) (f1 f2 f3 f4 f5 f6 : Fr) (r : zt1) : St := ⟨(zyj r0 r1 r2 r), ⟨[], [[(zc 2 (za p0)), (3, (.cells [(xi p1)])), (zc 6 (za p0)), (8, (.cells [(xi (w64 ((zo 1 (p0.Slips.1.length : Int)) - 1)))])), (9, (.cells [(.fn 77 [] [(.ptr 0 6 0), (.ptr 0 8 0), (.ptr 0 3 0), (.ptr 0 9 0)])]))], f1, f2, f3, f4, f5, f6]⟩, []⟩
theorem zkl (k : Nat) (p0 : zd) (p1 : Int) (r0 : (SL Int)) (r1 r2 : Int) (cb : Bool) (rc : zt0) (f1 f2 f3 f4 f5 f6 : Fr) (hrc : ∀ (f : Fr) (r0 : (SL Int)) (r1 : Int) (r2 : Int) (r : ((SL Int) × Bool)), rc r0 r1 r2 = some r → zJ TE (ev TE) 77 [(.d (dl eI r0.1 r0.2)), (xi r1), (xi r2), (.ptr 0 6 0), (.ptr 0 8 0), (.ptr 0 3 0), (.ptr 0 9 0)] ⟨f, [[(2, (.cells ((za p0).map .d))), (3, (.cells [(xi p1)])), (6, (.cells ((za p0).map .d))), (8, (.cells [(xi (w64 ((zo 1 (p0.Slips.1.length : Int)) - 1)))])), (9, (.cells [(.fn 77 [] [(.ptr 0 6 0), (.ptr 0 8 0), (.ptr 0 3 0), (.ptr 0 9 0)])]))], f1, f2, f3, f4, f5, f6]⟩ [] = some (zu r, ⟨f, [[(2, (.cells ((za p0).map .d))), (3, (.cells [(xi p1)])), (6, (.cells ((za p0).map .d))), (8, (.cells [(xi (w64 ((zo 1 (p0.Slips.1.length : Int)) - 1)))])), (9, (.cells [(.fn 77 [] [(.ptr 0 6 0), (.ptr 0 8 0), (.ptr 0 3 0), (.ptr 0 9 0)])]))], f1, f2, f3, f4, f5, f6]⟩, [])) (r : zt1) (h : zkk k p0 p1 r0 r1 r2 cb rc = some r) : ev TE 77 (cnd TE 77 36) ⟨(zwj r0 r1 r2 cb), ⟨[], [[(zc 2 (za p0)), (3, (.cells [(xi p1)])), (zc 6 (za p0)), (8, (.cells [(xi (w64 ((zo 1 (p0.Slips.1.length : Int)) - 1)))])), (9, (.cells [(.fn 77 [] [(.ptr 0 6 0), (.ptr 0 8 0), (.ptr 0 3 0), (.ptr 0 9 0)])]))], f1, f2, f3, f4, f5, f6]⟩, []⟩ = some (.nor, zXe p0 p1 r0 r1 r2 cb rc f1 f2 f3 f4 f5 f6 r) := by
 unfold zkk at h
 refine zn h (fun h1601 g1 => ?_) (fun h1601 g1 => ?_)
 ·subst h1601
  refine zj g1 (fun v1602 h1603 g2 => ?_)
  exact zA (g := fun r => (Ex.nor, zXe p0 p1 r0 r1 r2 true rc f1 f2 f3 f4 f5 f6 r)) g2 (zqe [(77, 6, 2, .q (xi (r0.1.length : Int))), (77, 6, 4, .q (.d (.pin [(di v1602)])))] [] (ob (zr eI r0.1) (ob (o_ia (e := eI) 1 h1603 rfl) ob0)) (by kernel_rfl))
 ·subst h1601
  exact zA (g := fun r => (Ex.nor, zXe p0 p1 r0 r1 r2 false rc f1 f2 f3 f4 f5 f6 r)) g1 (zqe [] [] ob0 (by kernel_rfl))
noncomputable def zUA (r0 : (SL Int)) (r1 r2 : Int) (v1502 : zt1) (s16_8 : Int) : TM := [(0, (.d (dl eI r0.1 r0.2))), (1, (xi r1)), (2, (xi r2)), (3, (.ptr 0 6 0)), (4, (.ptr 0 8 0)), (5, (.ptr 0 3 0)), (6, (.ptr 0 9 0)), (10, (.d (.sl [] .nil))), (11, (xb false)), (21, (xb false)), (14, (xi v1502.1)), (36, (xb v1502.2)), (15, (xi s16_8))]
noncomputable def zwq (p0 : zd) (p1 : Int) (r0 : (SL Int)) (r1 r2 : Int) (v1502 : zt1) (rc : zt0) (f1 f2 f3 f4 f5 f6 : Fr) (s16_8 : Int) : St := ⟨(zUA r0 r1 r2 v1502 s16_8), ⟨[], [[(zc 2 (za p0)), (3, (.cells [(xi p1)])), (zc 6 (za p0)), (8, (.cells [(xi (w64 ((zo 1 (p0.Slips.1.length : Int)) - 1)))])), (9, (.cells [(.fn 77 [] [(.ptr 0 6 0), (.ptr 0 8 0), (.ptr 0 3 0), (.ptr 0 9 0)])]))], f1, f2, f3, f4, f5, f6]⟩, []⟩
noncomputable def zjA (r0 : (SL Int)) (r1 r2 : Int) (r : zt19) (v1502 : zt1) : TM := [(0, (.d (dl eI r0.1 r0.2))), (1, (xi r1)), (2, (xi r2)), (3, (.ptr 0 6 0)), (4, (.ptr 0 8 0)), (5, (.ptr 0 3 0)), (6, (.ptr 0 9 0)), (10, (.d (dl eI r.1.1 r.1.2))), (11, (xb true)), (21, (xb false)), (14, (xi v1502.1)), (36, (xb v1502.2)), (15, (xi r.2.1)), (50, (xb true)), (16, (.d (dl eI r.1.1 r.1.2))), (17, (xb r.2.2)), (72, (xb true))]
noncomputable def zOh (p0 : zd) (p1 : Int) (r0 : (SL Int)) (r1 r2 : Int) (v1502 : zt1) (rc : zt0) (f1 f2 f3 f4 f5 f6 : Fr) (r : zt19) : St := ⟨(zjA r0 r1 r2 r v1502), ⟨[], [[(zc 2 (za p0)), (3, (.cells [(xi p1)])), (zc 6 (za p0)), (8, (.cells [(xi (w64 ((zo 1 (p0.Slips.1.length : Int)) - 1)))])), (9, (.cells [(.fn 77 [] [(.ptr 0 6 0), (.ptr 0 8 0), (.ptr 0 3 0), (.ptr 0 9 0)])]))], f1, f2, f3, f4, f5, f6]⟩, []⟩
noncomputable def z6z (r0 : (SL Int)) (r1 r2 : Int) (v1502 : zt1) (r : Int) : TM := [(0, (.d (dl eI r0.1 r0.2))), (1, (xi r1)), (2, (xi r2)), (3, (.ptr 0 6 0)), (4, (.ptr 0 8 0)), (5, (.ptr 0 3 0)), (6, (.ptr 0 9 0)), (10, (.d (.sl [] .nil))), (11, (xb false)), (21, (xb false)), (14, (xi v1502.1)), (36, (xb v1502.2)), (15, (xi r)), (50, (xb false))]
noncomputable def zHh (p0 : zd) (p1 : Int) (r0 : (SL Int)) (r1 r2 : Int) (v1502 : zt1) (rc : zt0) (f1 f2 f3 f4 f5 f6 : Fr) (r : Int) : St := ⟨(z6z r0 r1 r2 v1502 r), ⟨[], [[(zc 2 (za p0)), (3, (.cells [(xi p1)])), (zc 6 (za p0)), (8, (.cells [(xi (w64 ((zo 1 (p0.Slips.1.length : Int)) - 1)))])), (9, (.cells [(.fn 77 [] [(.ptr 0 6 0), (.ptr 0 8 0), (.ptr 0 3 0), (.ptr 0 9 0)])]))], f1, f2, f3, f4, f5, f6]⟩, []⟩
noncomputable def zhr (p0 : zd) (p1 : Int) (r0 : (SL Int)) (r1 r2 : Int) (v1502 : zt1) (rc : zt0) (f1 f2 f3 f4 f5 f6 : Fr) : (((SL Int) × Int × Bool) ⊕ Int) → Ex × St := Sum.elim (fun r => (.ret, zOh p0 p1 r0 r1 r2 v1502 rc f1 f2 f3 f4 f5 f6 r)) (fun r => ((.exit 0), zHh p0 p1 r0 r1 r2 v1502 rc f1 f2 f3 f4 f5 f6 r))
theorem zZk (k : Nat) (p0 : zd) (p1 : Int) (r0 : (SL Int)) (r1 r2 : Int) (v1502 : zt1) (rc : zt0) (f1 f2 f3 f4 f5 f6 : Fr) (hrc : ∀ (f : Fr) (r0 : (SL Int)) (r1 : Int) (r2 : Int) (r : ((SL Int) × Bool)), rc r0 r1 r2 = some r → zJ TE (ev TE) 77 [(.d (dl eI r0.1 r0.2)), (xi r1), (xi r2), (.ptr 0 6 0), (.ptr 0 8 0), (.ptr 0 3 0), (.ptr 0 9 0)] ⟨f, [[(2, (.cells ((za p0).map .d))), (3, (.cells [(xi p1)])), (6, (.cells ((za p0).map .d))), (8, (.cells [(xi (w64 ((zo 1 (p0.Slips.1.length : Int)) - 1)))])), (9, (.cells [(.fn 77 [] [(.ptr 0 6 0), (.ptr 0 8 0), (.ptr 0 3 0), (.ptr 0 9 0)])]))], f1, f2, f3, f4, f5, f6]⟩ [] = some (zu r, ⟨f, [[(2, (.cells ((za p0).map .d))), (3, (.cells [(xi p1)])), (6, (.cells ((za p0).map .d))), (8, (.cells [(xi (w64 ((zo 1 (p0.Slips.1.length : Int)) - 1)))])), (9, (.cells [(.fn 77 [] [(.ptr 0 6 0), (.ptr 0 8 0), (.ptr 0 3 0), (.ptr 0 9 0)])]))], f1, f2, f3, f4, f5, f6]⟩, [])) (s16_8 : Int) (x : Int ⊕ (((SL Int) × Int × Bool) ⊕ Int)) (h : z1j k p0 p1 r0 r1 r2 v1502 rc s16_8 = some x) : zE TE 77 (blk TE 77 0) (fun s : Int => zwq p0 p1 r0 r1 r2 v1502 rc f1 f2 f3 f4 f5 f6 s) (zhr p0 p1 r0 r1 r2 v1502 rc f1 f2 f3 f4 f5 f6) s16_8 x := by
 unfold z1j at h
 refine zn h (fun h1701 g1 => ?_) (fun h1701 g1 => ?_)
 ·refine zn g1 (fun h1702 g2 => ?_) (fun h1702 g2 => ?_)
  ·cases g2
  ·refine zO g2 (fun h1703 g3 => ?_)
   refine zn g3 (fun h1704 g4 => ?_) (fun h1704 g4 => ?_)
   ·cases g4
   ·refine zj g4 (fun v1705 h1706 g5 => ?_)
    refine zn g5 (fun h1707 g6 => ?_) (fun h1707 g6 => ?_)
    ·exact zqo [(77, 8, 4, .q (xi (p0.Slips.1.length : Int))), (77, 8, 5, .q (xb true)), (77, 10, 3, .q (xi (r0.1.length : Int))), (77, 10, 5, .q (xi (r0.1.length : Int))), (77, 10, 6, .q (.d (dl eI r0.1 (ccap r0.2)))), (77, 10, 9, .q (.d (dl eI (r0.1 ++ [s16_8]) .ro))), (77, 10, 12, .q (xi (zo 1 s16_8))), (77, 10, 15, .i (.tup [(dl eI v1705.1.1 v1705.1.2), (db v1705.2)]) ⟨[], [[(2, (.cells ((za p0).map .d))), (3, (.cells [(xi p1)])), (6, (.cells ((za p0).map .d))), (8, (.cells [(xi (w64 ((zo 1 (p0.Slips.1.length : Int)) - 1)))])), (9, (.cells [(.fn 77 [] [(.ptr 0 6 0), (.ptr 0 8 0), (.ptr 0 3 0), (.ptr 0 9 0)])]))], f1, f2, f3, f4, f5, f6]⟩ []), (77, 11, 0, .q (xb true))] [] g6 (ob (zr zl p0.Slips.1) (ob (o_b h1701) (ob (zr eI r0.1) (ob (zr eI r0.1) (ob (zod (e := eI) (z := 1) r0.1 r0.2) (ob (o_ad (P := TE.P) (φ := fun _ _ => none) (T := 22) (q := (1, [(di 0)])) (c := (ccap r0.2)) (e := eI) r0.1 s16_8 (by kernel_rfl) (fun _ => rfl) h1702 h1703) (ob (zIb (x := 1) h1704) (ob (hrc ([] : Fr) ((r0.1 ++ [s16_8]), .ro) (or64 r1 (zo 1 s16_8)) r2 _ h1706) (ob (o_b h1707) ob0))))))))) (by kernel_rfl)
    ·exact zqn (w64 (s16_8 + 1)) [] [(77, 8, 4, .q (xi (p0.Slips.1.length : Int))), (77, 8, 5, .q (xb true)), (77, 10, 3, .q (xi (r0.1.length : Int))), (77, 10, 5, .q (xi (r0.1.length : Int))), (77, 10, 6, .q (.d (dl eI r0.1 (ccap r0.2)))), (77, 10, 9, .q (.d (dl eI (r0.1 ++ [s16_8]) .ro))), (77, 10, 12, .q (xi (zo 1 s16_8))), (77, 10, 15, .i (.tup [(dl eI v1705.1.1 v1705.1.2), (db v1705.2)]) ⟨[], [[(2, (.cells ((za p0).map .d))), (3, (.cells [(xi p1)])), (6, (.cells ((za p0).map .d))), (8, (.cells [(xi (w64 ((zo 1 (p0.Slips.1.length : Int)) - 1)))])), (9, (.cells [(.fn 77 [] [(.ptr 0 6 0), (.ptr 0 8 0), (.ptr 0 3 0), (.ptr 0 9 0)])]))], f1, f2, f3, f4, f5, f6]⟩ []), (77, 11, 0, .q (xb false))] [] g6 (ob (zr zl p0.Slips.1) (ob (o_b h1701) (ob (zr eI r0.1) (ob (zr eI r0.1) (ob (zod (e := eI) (z := 1) r0.1 r0.2) (ob (o_ad (P := TE.P) (φ := fun _ _ => none) (T := 22) (q := (1, [(di 0)])) (c := (ccap r0.2)) (e := eI) r0.1 s16_8 (by kernel_rfl) (fun _ => rfl) h1702 h1703) (ob (zIb (x := 1) h1704) (ob (hrc ([] : Fr) ((r0.1 ++ [s16_8]), .ro) (or64 r1 (zo 1 s16_8)) r2 _ h1706) (ob (o_b h1707) ob0))))))))) (by kernel_rfl)
 ·exact zqo [(77, 8, 4, .q (xi (p0.Slips.1.length : Int))), (77, 8, 5, .q (xb false))] [] g1 (ob (zr zl p0.Slips.1) (ob (o_b h1701) ob0)) (by kernel_rfl)
theorem ztq (k : Nat) (p0 : zd) (p1 : Int) (rc : zt0) (f1 f2 f3 f4 f5 f6 : Fr) (hrc : ∀ (f : Fr) (r0 : (SL Int)) (r1 : Int) (r2 : Int) (r : ((SL Int) × Bool)), rc r0 r1 r2 = some r → zJ TE (ev TE) 77 [(.d (dl eI r0.1 r0.2)), (xi r1), (xi r2), (.ptr 0 6 0), (.ptr 0 8 0), (.ptr 0 3 0), (.ptr 0 9 0)] ⟨f, [[(2, (.cells ((za p0).map .d))), (3, (.cells [(xi p1)])), (6, (.cells ((za p0).map .d))), (8, (.cells [(xi (w64 ((zo 1 (p0.Slips.1.length : Int)) - 1)))])), (9, (.cells [(.fn 77 [] [(.ptr 0 6 0), (.ptr 0 8 0), (.ptr 0 3 0), (.ptr 0 9 0)])]))], f1, f2, f3, f4, f5, f6]⟩ [] = some (zu r, ⟨f, [[(2, (.cells ((za p0).map .d))), (3, (.cells [(xi p1)])), (6, (.cells ((za p0).map .d))), (8, (.cells [(xi (w64 ((zo 1 (p0.Slips.1.length : Int)) - 1)))])), (9, (.cells [(.fn 77 [] [(.ptr 0 6 0), (.ptr 0 8 0), (.ptr 0 3 0), (.ptr 0 9 0)])]))], f1, f2, f3, f4, f5, f6]⟩, [])) (r0 : (SL Int)) (r1 r2 : Int) (r : zt14) (h : zLi k p0 p1 rc r0 r1 r2 = some r) : zJ TE (ev TE) 77 [(.d (dl eI r0.1 r0.2)), (xi r1), (xi r2), (.ptr 0 6 0), (.ptr 0 8 0), (.ptr 0 3 0), (.ptr 0 9 0)] ⟨f6, [[(zc 2 (za p0)), (3, (.cells [(xi p1)])), (zc 6 (za p0)), (8, (.cells [(xi (w64 ((zo 1 (p0.Slips.1.length : Int)) - 1)))])), (9, (.cells [(.fn 77 [] [(.ptr 0 6 0), (.ptr 0 8 0), (.ptr 0 3 0), (.ptr 0 9 0)])]))], f1, f2, f3, f4, f5]⟩ [] = some (zu r, ⟨f6, [[(zc 2 (za p0)), (3, (.cells [(xi p1)])), (zc 6 (za p0)), (8, (.cells [(xi (w64 ((zo 1 (p0.Slips.1.length : Int)) - 1)))])), (9, (.cells [(.fn 77 [] [(.ptr 0 6 0), (.ptr 0 8 0), (.ptr 0 3 0), (.ptr 0 9 0)])]))], f1, f2, f3, f4, f5]⟩, []) := by
 unfold zLi at h
 refine zn h (fun h1501 g1 => ?_) (fun h1501 g1 => ?_)
 ·refine zj g1 (fun v1502 h1503 g2 => ?_)
  exact zP (g := (fun r => (zu r, ⟨f6, [[(2, (.cells ((za p0).map .d))), (3, (.cells [(xi p1)])), (6, (.cells ((za p0).map .d))), (8, (.cells [(xi (w64 ((zo 1 (p0.Slips.1.length : Int)) - 1)))])), (9, (.cells [(.fn 77 [] [(.ptr 0 6 0), (.ptr 0 8 0), (.ptr 0 3 0), (.ptr 0 9 0)])]))], f1, f2, f3, f4, f5]⟩, []))) g2 (zH (n := 80) (V := [(77, 1, 1, .q (xi (r0.1.length : Int))), (77, 1, 3, .q (xb true)), (77, 2, 6, .c (.tup [(dl (eL eI) v1502.1.1 v1502.1.2), (db v1502.2)]))]) (C := []) (ob (zr eI r0.1) (ob (o_b h1501) (ob (zR k (⟨p0⟩ : zh) (⟨(zib (w64 ((zo 1 (p0.Slips.1.length : Int)) - 1)) r1), p1⟩ : zt) _ h1503) ob0))) (by kernel_rfl))
 ·refine zj g1 (fun v1502 h1503 g2 => ?_)
  refine zj g2 (fun v1504 h1505 g3 => ?_)
  refine zPb g3 (fun v1507 hh g4_0 => ?_) (fun v1507 hh g4_0 => ?_)
  ·subst hh
   exact zP (g := (fun r => (zu r, ⟨f6, [[(2, (.cells ((za p0).map .d))), (3, (.cells [(xi p1)])), (6, (.cells ((za p0).map .d))), (8, (.cells [(xi (w64 ((zo 1 (p0.Slips.1.length : Int)) - 1)))])), (9, (.cells [(.fn 77 [] [(.ptr 0 6 0), (.ptr 0 8 0), (.ptr 0 3 0), (.ptr 0 9 0)])]))], f1, f2, f3, f4, f5]⟩, []))) g4_0 (zH (n := 80) (V := [(77, 1, 1, .q (xi (r0.1.length : Int))), (77, 1, 3, .q (xb false)), (77, 5, 1, .q (xi (r0.1.length : Int)))]) (C := [(77, 2000036, (.nor, zXe p0 p1 r0 r1 r2 (decide ((r0.1.length : Int) > 0)) rc f1 f2 f3 f4 f5 f6 v1502)), (77, 0, (.ret, zOh p0 p1 r0 r1 r2 v1502 rc f1 f2 f3 f4 f5 f6 v1507))]) (ob (zr eI r0.1) (ob (o_b h1501) (ob (zr eI r0.1) (ob (zkl k p0 p1 r0 r1 r2 (decide ((r0.1.length : Int) > 0)) rc f1 f2 f3 f4 f5 f6 hrc _ h1503) (ob (zx (id := 0) (r' := (.ret, zOh p0 p1 r0 r1 r2 v1502 rc f1 f2 f3 f4 f5 f6 v1507)) (zSd (zZk k p0 p1 r0 r1 r2 v1502 rc f1 f2 f3 f4 f5 f6 hrc) k _ _ h1505) rfl) ob0))))) (by kernel_rfl))
  ·subst hh
   exact zP (g := (fun r => (zu r, ⟨f6, [[(2, (.cells ((za p0).map .d))), (3, (.cells [(xi p1)])), (6, (.cells ((za p0).map .d))), (8, (.cells [(xi (w64 ((zo 1 (p0.Slips.1.length : Int)) - 1)))])), (9, (.cells [(.fn 77 [] [(.ptr 0 6 0), (.ptr 0 8 0), (.ptr 0 3 0), (.ptr 0 9 0)])]))], f1, f2, f3, f4, f5]⟩, []))) g4_0 (zH (n := 80) (V := [(77, 1, 1, .q (xi (r0.1.length : Int))), (77, 1, 3, .q (xb false)), (77, 5, 1, .q (xi (r0.1.length : Int)))]) (C := [(77, 2000036, (.nor, zXe p0 p1 r0 r1 r2 (decide ((r0.1.length : Int) > 0)) rc f1 f2 f3 f4 f5 f6 v1502)), (77, 0, (.nor, zHh p0 p1 r0 r1 r2 v1502 rc f1 f2 f3 f4 f5 f6 v1507))]) (ob (zr eI r0.1) (ob (o_b h1501) (ob (zr eI r0.1) (ob (zkl k p0 p1 r0 r1 r2 (decide ((r0.1.length : Int) > 0)) rc f1 f2 f3 f4 f5 f6 hrc _ h1503) (ob (zx (id := 0) (r' := (.nor, zHh p0 p1 r0 r1 r2 v1502 rc f1 f2 f3 f4 f5 f6 v1507)) (zSd (zZk k p0 p1 r0 r1 r2 v1502 rc f1 f2 f3 f4 f5 f6 hrc) k _ _ h1505) rfl) ob0))))) (by kernel_rfl))
noncomputable def z4e (p0 : zd) (p1 : Int) (r0 : (SL Int)) (r1 r2 : Int) (cb : Bool) (rc : zt0) (f1 f2 f3 f4 f5 f6 f7 : Fr) (r : zt1) : St := ⟨(zyj r0 r1 r2 r), ⟨[], [[(zc 2 (za p0)), (3, (.cells [(xi p1)])), (zc 6 (za p0)), (8, (.cells [(xi (w64 ((zo 1 (p0.Slips.1.length : Int)) - 1)))])), (9, (.cells [(.fn 77 [] [(.ptr 0 6 0), (.ptr 0 8 0), (.ptr 0 3 0), (.ptr 0 9 0)])]))], f1, f2, f3, f4, f5, f6, f7]⟩, []⟩
theorem zRl (k : Nat) (p0 : zd) (p1 : Int) (r0 : (SL Int)) (r1 r2 : Int) (cb : Bool) (rc : zt0) (f1 f2 f3 f4 f5 f6 f7 : Fr) (hrc : ∀ (f : Fr) (r0 : (SL Int)) (r1 : Int) (r2 : Int) (r : ((SL Int) × Bool)), rc r0 r1 r2 = some r → zJ TE (ev TE) 77 [(.d (dl eI r0.1 r0.2)), (xi r1), (xi r2), (.ptr 0 6 0), (.ptr 0 8 0), (.ptr 0 3 0), (.ptr 0 9 0)] ⟨f, [[(2, (.cells ((za p0).map .d))), (3, (.cells [(xi p1)])), (6, (.cells ((za p0).map .d))), (8, (.cells [(xi (w64 ((zo 1 (p0.Slips.1.length : Int)) - 1)))])), (9, (.cells [(.fn 77 [] [(.ptr 0 6 0), (.ptr 0 8 0), (.ptr 0 3 0), (.ptr 0 9 0)])]))], f1, f2, f3, f4, f5, f6, f7]⟩ [] = some (zu r, ⟨f, [[(2, (.cells ((za p0).map .d))), (3, (.cells [(xi p1)])), (6, (.cells ((za p0).map .d))), (8, (.cells [(xi (w64 ((zo 1 (p0.Slips.1.length : Int)) - 1)))])), (9, (.cells [(.fn 77 [] [(.ptr 0 6 0), (.ptr 0 8 0), (.ptr 0 3 0), (.ptr 0 9 0)])]))], f1, f2, f3, f4, f5, f6, f7]⟩, [])) (r : zt1) (h : zWj k p0 p1 r0 r1 r2 cb rc = some r) : ev TE 77 (cnd TE 77 36) ⟨(zwj r0 r1 r2 cb), ⟨[], [[(zc 2 (za p0)), (3, (.cells [(xi p1)])), (zc 6 (za p0)), (8, (.cells [(xi (w64 ((zo 1 (p0.Slips.1.length : Int)) - 1)))])), (9, (.cells [(.fn 77 [] [(.ptr 0 6 0), (.ptr 0 8 0), (.ptr 0 3 0), (.ptr 0 9 0)])]))], f1, f2, f3, f4, f5, f6, f7]⟩, []⟩ = some (.nor, z4e p0 p1 r0 r1 r2 cb rc f1 f2 f3 f4 f5 f6 f7 r) := by
 unfold zWj at h
 refine zn h (fun h1801 g1 => ?_) (fun h1801 g1 => ?_)
 ·subst h1801
  refine zj g1 (fun v1802 h1803 g2 => ?_)
  exact zA (g := fun r => (Ex.nor, z4e p0 p1 r0 r1 r2 true rc f1 f2 f3 f4 f5 f6 f7 r)) g2 (zqe [(77, 6, 2, .q (xi (r0.1.length : Int))), (77, 6, 4, .q (.d (.pin [(di v1802)])))] [] (ob (zr eI r0.1) (ob (o_ia (e := eI) 1 h1803 rfl) ob0)) (by kernel_rfl))
 ·subst h1801
  exact zA (g := fun r => (Ex.nor, z4e p0 p1 r0 r1 r2 false rc f1 f2 f3 f4 f5 f6 f7 r)) g1 (zqe [] [] ob0 (by kernel_rfl))
noncomputable def z0z (r0 : (SL Int)) (r1 r2 : Int) (v1702 : zt1) (s18_8 : Int) : TM := [(0, (.d (dl eI r0.1 r0.2))), (1, (xi r1)), (2, (xi r2)), (3, (.ptr 0 6 0)), (4, (.ptr 0 8 0)), (5, (.ptr 0 3 0)), (6, (.ptr 0 9 0)), (10, (.d (.sl [] .nil))), (11, (xb false)), (21, (xb false)), (14, (xi v1702.1)), (36, (xb v1702.2)), (15, (xi s18_8))]
noncomputable def z7q (p0 : zd) (p1 : Int) (r0 : (SL Int)) (r1 r2 : Int) (v1702 : zt1) (rc : zt0) (f1 f2 f3 f4 f5 f6 f7 : Fr) (s18_8 : Int) : St := ⟨(z0z r0 r1 r2 v1702 s18_8), ⟨[], [[(zc 2 (za p0)), (3, (.cells [(xi p1)])), (zc 6 (za p0)), (8, (.cells [(xi (w64 ((zo 1 (p0.Slips.1.length : Int)) - 1)))])), (9, (.cells [(.fn 77 [] [(.ptr 0 6 0), (.ptr 0 8 0), (.ptr 0 3 0), (.ptr 0 9 0)])]))], f1, f2, f3, f4, f5, f6, f7]⟩, []⟩
noncomputable def zeA (r0 : (SL Int)) (r1 r2 : Int) (r : zt19) (v1702 : zt1) : TM := [(0, (.d (dl eI r0.1 r0.2))), (1, (xi r1)), (2, (xi r2)), (3, (.ptr 0 6 0)), (4, (.ptr 0 8 0)), (5, (.ptr 0 3 0)), (6, (.ptr 0 9 0)), (10, (.d (dl eI r.1.1 r.1.2))), (11, (xb true)), (21, (xb false)), (14, (xi v1702.1)), (36, (xb v1702.2)), (15, (xi r.2.1)), (50, (xb true)), (16, (.d (dl eI r.1.1 r.1.2))), (17, (xb r.2.2)), (72, (xb true))]
noncomputable def zGh (p0 : zd) (p1 : Int) (r0 : (SL Int)) (r1 r2 : Int) (v1702 : zt1) (rc : zt0) (f1 f2 f3 f4 f5 f6 f7 : Fr) (r : zt19) : St := ⟨(zeA r0 r1 r2 r v1702), ⟨[], [[(zc 2 (za p0)), (3, (.cells [(xi p1)])), (zc 6 (za p0)), (8, (.cells [(xi (w64 ((zo 1 (p0.Slips.1.length : Int)) - 1)))])), (9, (.cells [(.fn 77 [] [(.ptr 0 6 0), (.ptr 0 8 0), (.ptr 0 3 0), (.ptr 0 9 0)])]))], f1, f2, f3, f4, f5, f6, f7]⟩, []⟩
noncomputable def zSA (r0 : (SL Int)) (r1 r2 : Int) (v1702 : zt1) (r : Int) : TM := [(0, (.d (dl eI r0.1 r0.2))), (1, (xi r1)), (2, (xi r2)), (3, (.ptr 0 6 0)), (4, (.ptr 0 8 0)), (5, (.ptr 0 3 0)), (6, (.ptr 0 9 0)), (10, (.d (.sl [] .nil))), (11, (xb false)), (21, (xb false)), (14, (xi v1702.1)), (36, (xb v1702.2)), (15, (xi r)), (50, (xb false))]
noncomputable def zJh (p0 : zd) (p1 : Int) (r0 : (SL Int)) (r1 r2 : Int) (v1702 : zt1) (rc : zt0) (f1 f2 f3 f4 f5 f6 f7 : Fr) (r : Int) : St := ⟨(zSA r0 r1 r2 v1702 r), ⟨[], [[(zc 2 (za p0)), (3, (.cells [(xi p1)])), (zc 6 (za p0)), (8, (.cells [(xi (w64 ((zo 1 (p0.Slips.1.length : Int)) - 1)))])), (9, (.cells [(.fn 77 [] [(.ptr 0 6 0), (.ptr 0 8 0), (.ptr 0 3 0), (.ptr 0 9 0)])]))], f1, f2, f3, f4, f5, f6, f7]⟩, []⟩
noncomputable def zGq (p0 : zd) (p1 : Int) (r0 : (SL Int)) (r1 r2 : Int) (v1702 : zt1) (rc : zt0) (f1 f2 f3 f4 f5 f6 f7 : Fr) : (((SL Int) × Int × Bool) ⊕ Int) → Ex × St := Sum.elim (fun r => (.ret, zGh p0 p1 r0 r1 r2 v1702 rc f1 f2 f3 f4 f5 f6 f7 r)) (fun r => ((.exit 0), zJh p0 p1 r0 r1 r2 v1702 rc f1 f2 f3 f4 f5 f6 f7 r))
theorem zUl (k : Nat) (p0 : zd) (p1 : Int) (r0 : (SL Int)) (r1 r2 : Int) (v1702 : zt1) (rc : zt0) (f1 f2 f3 f4 f5 f6 f7 : Fr) (hrc : ∀ (f : Fr) (r0 : (SL Int)) (r1 : Int) (r2 : Int) (r : ((SL Int) × Bool)), rc r0 r1 r2 = some r → zJ TE (ev TE) 77 [(.d (dl eI r0.1 r0.2)), (xi r1), (xi r2), (.ptr 0 6 0), (.ptr 0 8 0), (.ptr 0 3 0), (.ptr 0 9 0)] ⟨f, [[(2, (.cells ((za p0).map .d))), (3, (.cells [(xi p1)])), (6, (.cells ((za p0).map .d))), (8, (.cells [(xi (w64 ((zo 1 (p0.Slips.1.length : Int)) - 1)))])), (9, (.cells [(.fn 77 [] [(.ptr 0 6 0), (.ptr 0 8 0), (.ptr 0 3 0), (.ptr 0 9 0)])]))], f1, f2, f3, f4, f5, f6, f7]⟩ [] = some (zu r, ⟨f, [[(2, (.cells ((za p0).map .d))), (3, (.cells [(xi p1)])), (6, (.cells ((za p0).map .d))), (8, (.cells [(xi (w64 ((zo 1 (p0.Slips.1.length : Int)) - 1)))])), (9, (.cells [(.fn 77 [] [(.ptr 0 6 0), (.ptr 0 8 0), (.ptr 0 3 0), (.ptr 0 9 0)])]))], f1, f2, f3, f4, f5, f6, f7]⟩, [])) (s18_8 : Int) (x : Int ⊕ (((SL Int) × Int × Bool) ⊕ Int)) (h : zfk k p0 p1 r0 r1 r2 v1702 rc s18_8 = some x) : zE TE 77 (blk TE 77 0) (fun s : Int => z7q p0 p1 r0 r1 r2 v1702 rc f1 f2 f3 f4 f5 f6 f7 s) (zGq p0 p1 r0 r1 r2 v1702 rc f1 f2 f3 f4 f5 f6 f7) s18_8 x := by
 unfold zfk at h
 refine zn h (fun h1901 g1 => ?_) (fun h1901 g1 => ?_)
 ·refine zn g1 (fun h1902 g2 => ?_) (fun h1902 g2 => ?_)
  ·cases g2
  ·refine zO g2 (fun h1903 g3 => ?_)
   refine zn g3 (fun h1904 g4 => ?_) (fun h1904 g4 => ?_)
   ·cases g4
   ·refine zj g4 (fun v1905 h1906 g5 => ?_)
    refine zn g5 (fun h1907 g6 => ?_) (fun h1907 g6 => ?_)
    ·exact zqo [(77, 8, 4, .q (xi (p0.Slips.1.length : Int))), (77, 8, 5, .q (xb true)), (77, 10, 3, .q (xi (r0.1.length : Int))), (77, 10, 5, .q (xi (r0.1.length : Int))), (77, 10, 6, .q (.d (dl eI r0.1 (ccap r0.2)))), (77, 10, 9, .q (.d (dl eI (r0.1 ++ [s18_8]) .ro))), (77, 10, 12, .q (xi (zo 1 s18_8))), (77, 10, 15, .i (.tup [(dl eI v1905.1.1 v1905.1.2), (db v1905.2)]) ⟨[], [[(2, (.cells ((za p0).map .d))), (3, (.cells [(xi p1)])), (6, (.cells ((za p0).map .d))), (8, (.cells [(xi (w64 ((zo 1 (p0.Slips.1.length : Int)) - 1)))])), (9, (.cells [(.fn 77 [] [(.ptr 0 6 0), (.ptr 0 8 0), (.ptr 0 3 0), (.ptr 0 9 0)])]))], f1, f2, f3, f4, f5, f6, f7]⟩ []), (77, 11, 0, .q (xb true))] [] g6 (ob (zr zl p0.Slips.1) (ob (o_b h1901) (ob (zr eI r0.1) (ob (zr eI r0.1) (ob (zod (e := eI) (z := 1) r0.1 r0.2) (ob (o_ad (P := TE.P) (φ := fun _ _ => none) (T := 22) (q := (1, [(di 0)])) (c := (ccap r0.2)) (e := eI) r0.1 s18_8 (by kernel_rfl) (fun _ => rfl) h1902 h1903) (ob (zIb (x := 1) h1904) (ob (hrc ([] : Fr) ((r0.1 ++ [s18_8]), .ro) (or64 r1 (zo 1 s18_8)) r2 _ h1906) (ob (o_b h1907) ob0))))))))) (by kernel_rfl)
    ·exact zqn (w64 (s18_8 + 1)) [] [(77, 8, 4, .q (xi (p0.Slips.1.length : Int))), (77, 8, 5, .q (xb true)), (77, 10, 3, .q (xi (r0.1.length : Int))), (77, 10, 5, .q (xi (r0.1.length : Int))), (77, 10, 6, .q (.d (dl eI r0.1 (ccap r0.2)))), (77, 10, 9, .q (.d (dl eI (r0.1 ++ [s18_8]) .ro))), (77, 10, 12, .q (xi (zo 1 s18_8))), (77, 10, 15, .i (.tup [(dl eI v1905.1.1 v1905.1.2), (db v1905.2)]) ⟨[], [[(2, (.cells ((za p0).map .d))), (3, (.cells [(xi p1)])), (6, (.cells ((za p0).map .d))), (8, (.cells [(xi (w64 ((zo 1 (p0.Slips.1.length : Int)) - 1)))])), (9, (.cells [(.fn 77 [] [(.ptr 0 6 0), (.ptr 0 8 0), (.ptr 0 3 0), (.ptr 0 9 0)])]))], f1, f2, f3, f4, f5, f6, f7]⟩ []), (77, 11, 0, .q (xb false))] [] g6 (ob (zr zl p0.Slips.1) (ob (o_b h1901) (ob (zr eI r0.1) (ob (zr eI r0.1) (ob (zod (e := eI) (z := 1) r0.1 r0.2) (ob (o_ad (P := TE.P) (φ := fun _ _ => none) (T := 22) (q := (1, [(di 0)])) (c := (ccap r0.2)) (e := eI) r0.1 s18_8 (by kernel_rfl) (fun _ => rfl) h1902 h1903) (ob (zIb (x := 1) h1904) (ob (hrc ([] : Fr) ((r0.1 ++ [s18_8]), .ro) (or64 r1 (zo 1 s18_8)) r2 _ h1906) (ob (o_b h1907) ob0))))))))) (by kernel_rfl)
 ·exact zqo [(77, 8, 4, .q (xi (p0.Slips.1.length : Int))), (77, 8, 5, .q (xb false))] [] g1 (ob (zr zl p0.Slips.1) (ob (o_b h1901) ob0)) (by kernel_rfl)
theorem zXp (k : Nat) (p0 : zd) (p1 : Int) (rc : zt0) (f1 f2 f3 f4 f5 f6 f7 : Fr) (hrc : ∀ (f : Fr) (r0 : (SL Int)) (r1 : Int) (r2 : Int) (r : ((SL Int) × Bool)), rc r0 r1 r2 = some r → zJ TE (ev TE) 77 [(.d (dl eI r0.1 r0.2)), (xi r1), (xi r2), (.ptr 0 6 0), (.ptr 0 8 0), (.ptr 0 3 0), (.ptr 0 9 0)] ⟨f, [[(2, (.cells ((za p0).map .d))), (3, (.cells [(xi p1)])), (6, (.cells ((za p0).map .d))), (8, (.cells [(xi (w64 ((zo 1 (p0.Slips.1.length : Int)) - 1)))])), (9, (.cells [(.fn 77 [] [(.ptr 0 6 0), (.ptr 0 8 0), (.ptr 0 3 0), (.ptr 0 9 0)])]))], f1, f2, f3, f4, f5, f6, f7]⟩ [] = some (zu r, ⟨f, [[(2, (.cells ((za p0).map .d))), (3, (.cells [(xi p1)])), (6, (.cells ((za p0).map .d))), (8, (.cells [(xi (w64 ((zo 1 (p0.Slips.1.length : Int)) - 1)))])), (9, (.cells [(.fn 77 [] [(.ptr 0 6 0), (.ptr 0 8 0), (.ptr 0 3 0), (.ptr 0 9 0)])]))], f1, f2, f3, f4, f5, f6, f7]⟩, [])) (r0 : (SL Int)) (r1 r2 : Int) (r : zt14) (h : zqi k p0 p1 rc r0 r1 r2 = some r) : zJ TE (ev TE) 77 [(.d (dl eI r0.1 r0.2)), (xi r1), (xi r2), (.ptr 0 6 0), (.ptr 0 8 0), (.ptr 0 3 0), (.ptr 0 9 0)] ⟨f7, [[(zc 2 (za p0)), (3, (.cells [(xi p1)])), (zc 6 (za p0)), (8, (.cells [(xi (w64 ((zo 1 (p0.Slips.1.length : Int)) - 1)))])), (9, (.cells [(.fn 77 [] [(.ptr 0 6 0), (.ptr 0 8 0), (.ptr 0 3 0), (.ptr 0 9 0)])]))], f1, f2, f3, f4, f5, f6]⟩ [] = some (zu r, ⟨f7, [[(zc 2 (za p0)), (3, (.cells [(xi p1)])), (zc 6 (za p0)), (8, (.cells [(xi (w64 ((zo 1 (p0.Slips.1.length : Int)) - 1)))])), (9, (.cells [(.fn 77 [] [(.ptr 0 6 0), (.ptr 0 8 0), (.ptr 0 3 0), (.ptr 0 9 0)])]))], f1, f2, f3, f4, f5, f6]⟩, []) := by
 unfold zqi at h
 refine zn h (fun h1701 g1 => ?_) (fun h1701 g1 => ?_)
 ·refine zj g1 (fun v1702 h1703 g2 => ?_)
  exact zP (g := (fun r => (zu r, ⟨f7, [[(2, (.cells ((za p0).map .d))), (3, (.cells [(xi p1)])), (6, (.cells ((za p0).map .d))), (8, (.cells [(xi (w64 ((zo 1 (p0.Slips.1.length : Int)) - 1)))])), (9, (.cells [(.fn 77 [] [(.ptr 0 6 0), (.ptr 0 8 0), (.ptr 0 3 0), (.ptr 0 9 0)])]))], f1, f2, f3, f4, f5, f6]⟩, []))) g2 (zH (n := 80) (V := [(77, 1, 1, .q (xi (r0.1.length : Int))), (77, 1, 3, .q (xb true)), (77, 2, 6, .c (.tup [(dl (eL eI) v1702.1.1 v1702.1.2), (db v1702.2)]))]) (C := []) (ob (zr eI r0.1) (ob (o_b h1701) (ob (zR k (⟨p0⟩ : zh) (⟨(zib (w64 ((zo 1 (p0.Slips.1.length : Int)) - 1)) r1), p1⟩ : zt) _ h1703) ob0))) (by kernel_rfl))
 ·refine zj g1 (fun v1702 h1703 g2 => ?_)
  refine zj g2 (fun v1704 h1705 g3 => ?_)
  refine zPb g3 (fun v1707 hh g4_0 => ?_) (fun v1707 hh g4_0 => ?_)
  ·subst hh
   exact zP (g := (fun r => (zu r, ⟨f7, [[(2, (.cells ((za p0).map .d))), (3, (.cells [(xi p1)])), (6, (.cells ((za p0).map .d))), (8, (.cells [(xi (w64 ((zo 1 (p0.Slips.1.length : Int)) - 1)))])), (9, (.cells [(.fn 77 [] [(.ptr 0 6 0), (.ptr 0 8 0), (.ptr 0 3 0), (.ptr 0 9 0)])]))], f1, f2, f3, f4, f5, f6]⟩, []))) g4_0 (zH (n := 80) (V := [(77, 1, 1, .q (xi (r0.1.length : Int))), (77, 1, 3, .q (xb false)), (77, 5, 1, .q (xi (r0.1.length : Int)))]) (C := [(77, 2000036, (.nor, z4e p0 p1 r0 r1 r2 (decide ((r0.1.length : Int) > 0)) rc f1 f2 f3 f4 f5 f6 f7 v1702)), (77, 0, (.ret, zGh p0 p1 r0 r1 r2 v1702 rc f1 f2 f3 f4 f5 f6 f7 v1707))]) (ob (zr eI r0.1) (ob (o_b h1701) (ob (zr eI r0.1) (ob (zRl k p0 p1 r0 r1 r2 (decide ((r0.1.length : Int) > 0)) rc f1 f2 f3 f4 f5 f6 f7 hrc _ h1703) (ob (zx (id := 0) (r' := (.ret, zGh p0 p1 r0 r1 r2 v1702 rc f1 f2 f3 f4 f5 f6 f7 v1707)) (zSd (zUl k p0 p1 r0 r1 r2 v1702 rc f1 f2 f3 f4 f5 f6 f7 hrc) k _ _ h1705) rfl) ob0))))) (by kernel_rfl))
  ·subst hh
   exact zP (g := (fun r => (zu r, ⟨f7, [[(2, (.cells ((za p0).map .d))), (3, (.cells [(xi p1)])), (6, (.cells ((za p0).map .d))), (8, (.cells [(xi (w64 ((zo 1 (p0.Slips.1.length : Int)) - 1)))])), (9, (.cells [(.fn 77 [] [(.ptr 0 6 0), (.ptr 0 8 0), (.ptr 0 3 0), (.ptr 0 9 0)])]))], f1, f2, f3, f4, f5, f6]⟩, []))) g4_0 (zH (n := 80) (V := [(77, 1, 1, .q (xi (r0.1.length : Int))), (77, 1, 3, .q (xb false)), (77, 5, 1, .q (xi (r0.1.length : Int)))]) (C := [(77, 2000036, (.nor, z4e p0 p1 r0 r1 r2 (decide ((r0.1.length : Int) > 0)) rc f1 f2 f3 f4 f5 f6 f7 v1702)), (77, 0, (.nor, zJh p0 p1 r0 r1 r2 v1702 rc f1 f2 f3 f4 f5 f6 f7 v1707))]) (ob (zr eI r0.1) (ob (o_b h1701) (ob (zr eI r0.1) (ob (zRl k p0 p1 r0 r1 r2 (decide ((r0.1.length : Int) > 0)) rc f1 f2 f3 f4 f5 f6 f7 hrc _ h1703) (ob (zx (id := 0) (r' := (.nor, zJh p0 p1 r0 r1 r2 v1702 rc f1 f2 f3 f4 f5 f6 f7 v1707)) (zSd (zUl k p0 p1 r0 r1 r2 v1702 rc f1 f2 f3 f4 f5 f6 f7 hrc) k _ _ h1705) rfl) ob0))))) (by kernel_rfl))
noncomputable def z0e (p0 : zd) (p1 : Int) (r0 : (SL Int)) (r1 r2 : Int) (cb : Bool) (rc : zt0) (f1 f2 f3 f4 f5 f6 f7 f8 : Fr) (r : zt1) : St := ⟨(zyj r0 r1 r2 r), ⟨[], [[(zc 2 (za p0)), (3, (.cells [(xi p1)])), (zc 6 (za p0)), (8, (.cells [(xi (w64 ((zo 1 (p0.Slips.1.length : Int)) - 1)))])), (9, (.cells [(.fn 77 [] [(.ptr 0 6 0), (.ptr 0 8 0), (.ptr 0 3 0), (.ptr 0 9 0)])]))], f1, f2, f3, f4, f5, f6, f7, f8]⟩, []⟩
theorem zel (k : Nat) (p0 : zd) (p1 : Int) (r0 : (SL Int)) (r1 r2 : Int) (cb : Bool) (rc : zt0) (f1 f2 f3 f4 f5 f6 f7 f8 : Fr) (hrc : ∀ (f : Fr) (r0 : (SL Int)) (r1 : Int) (r2 : Int) (r : ((SL Int) × Bool)), rc r0 r1 r2 = some r → zJ TE (ev TE) 77 [(.d (dl eI r0.1 r0.2)), (xi r1), (xi r2), (.ptr 0 6 0), (.ptr 0 8 0), (.ptr 0 3 0), (.ptr 0 9 0)] ⟨f, [[(2, (.cells ((za p0).map .d))), (3, (.cells [(xi p1)])), (6, (.cells ((za p0).map .d))), (8, (.cells [(xi (w64 ((zo 1 (p0.Slips.1.length : Int)) - 1)))])), (9, (.cells [(.fn 77 [] [(.ptr 0 6 0), (.ptr 0 8 0), (.ptr 0 3 0), (.ptr 0 9 0)])]))], f1, f2, f3, f4, f5, f6, f7, f8]⟩ [] = some (zu r, ⟨f, [[(2, (.cells ((za p0).map .d))), (3, (.cells [(xi p1)])), (6, (.cells ((za p0).map .d))), (8, (.cells [(xi (w64 ((zo 1 (p0.Slips.1.length : Int)) - 1)))])), (9, (.cells [(.fn 77 [] [(.ptr 0 6 0), (.ptr 0 8 0), (.ptr 0 3 0), (.ptr 0 9 0)])]))], f1, f2, f3, f4, f5, f6, f7, f8]⟩, [])) (r : zt1) (h : zek k p0 p1 r0 r1 r2 cb rc = some r) : ev TE 77 (cnd TE 77 36) ⟨(zwj r0 r1 r2 cb), ⟨[], [[(zc 2 (za p0)), (3, (.cells [(xi p1)])), (zc 6 (za p0)), (8, (.cells [(xi (w64 ((zo 1 (p0.Slips.1.length : Int)) - 1)))])), (9, (.cells [(.fn 77 [] [(.ptr 0 6 0), (.ptr 0 8 0), (.ptr 0 3 0), (.ptr 0 9 0)])]))], f1, f2, f3, f4, f5, f6, f7, f8]⟩, []⟩ = some (.nor, z0e p0 p1 r0 r1 r2 cb rc f1 f2 f3 f4 f5 f6 f7 f8 r) := by
 unfold zek at h
 refine zn h (fun h2001 g1 => ?_) (fun h2001 g1 => ?_)
 ·subst h2001
  refine zj g1 (fun v2002 h2003 g2 => ?_)
  exact zA (g := fun r => (Ex.nor, z0e p0 p1 r0 r1 r2 true rc f1 f2 f3 f4 f5 f6 f7 f8 r)) g2 (zqe [(77, 6, 2, .q (xi (r0.1.length : Int))), (77, 6, 4, .q (.d (.pin [(di v2002)])))] [] (ob (zr eI r0.1) (ob (o_ia (e := eI) 1 h2003 rfl) ob0)) (by kernel_rfl))
 ·subst h2001
  exact zA (g := fun r => (Ex.nor, z0e p0 p1 r0 r1 r2 false rc f1 f2 f3 f4 f5 f6 f7 f8 r)) g1 (zqe [] [] ob0 (by kernel_rfl))
noncomputable def zIz (r0 : (SL Int)) (r1 r2 : Int) (v1902 : zt1) (s20_8 : Int) : TM := [(0, (.d (dl eI r0.1 r0.2))), (1, (xi r1)), (2, (xi r2)), (3, (.ptr 0 6 0)), (4, (.ptr 0 8 0)), (5, (.ptr 0 3 0)), (6, (.ptr 0 9 0)), (10, (.d (.sl [] .nil))), (11, (xb false)), (21, (xb false)), (14, (xi v1902.1)), (36, (xb v1902.2)), (15, (xi s20_8))]
noncomputable def zwr (p0 : zd) (p1 : Int) (r0 : (SL Int)) (r1 r2 : Int) (v1902 : zt1) (rc : zt0) (f1 f2 f3 f4 f5 f6 f7 f8 : Fr) (s20_8 : Int) : St := ⟨(zIz r0 r1 r2 v1902 s20_8), ⟨[], [[(zc 2 (za p0)), (3, (.cells [(xi p1)])), (zc 6 (za p0)), (8, (.cells [(xi (w64 ((zo 1 (p0.Slips.1.length : Int)) - 1)))])), (9, (.cells [(.fn 77 [] [(.ptr 0 6 0), (.ptr 0 8 0), (.ptr 0 3 0), (.ptr 0 9 0)])]))], f1, f2, f3, f4, f5, f6, f7, f8]⟩, []⟩
noncomputable def zPA (r0 : (SL Int)) (r1 r2 : Int) (r : zt19) (v1902 : zt1) : TM := [(0, (.d (dl eI r0.1 r0.2))), (1, (xi r1)), (2, (xi r2)), (3, (.ptr 0 6 0)), (4, (.ptr 0 8 0)), (5, (.ptr 0 3 0)), (6, (.ptr 0 9 0)), (10, (.d (dl eI r.1.1 r.1.2))), (11, (xb true)), (21, (xb false)), (14, (xi v1902.1)), (36, (xb v1902.2)), (15, (xi r.2.1)), (50, (xb true)), (16, (.d (dl eI r.1.1 r.1.2))), (17, (xb r.2.2)), (72, (xb true))]
noncomputable def zAh (p0 : zd) (p1 : Int) (r0 : (SL Int)) (r1 r2 : Int) (v1902 : zt1) (rc : zt0) (f1 f2 f3 f4 f5 f6 f7 f8 : Fr) (r : zt19) : St := ⟨(zPA r0 r1 r2 r v1902), ⟨[], [[(zc 2 (za p0)), (3, (.cells [(xi p1)])), (zc 6 (za p0)), (8, (.cells [(xi (w64 ((zo 1 (p0.Slips.1.length : Int)) - 1)))])), (9, (.cells [(.fn 77 [] [(.ptr 0 6 0), (.ptr 0 8 0), (.ptr 0 3 0), (.ptr 0 9 0)])]))], f1, f2, f3, f4, f5, f6, f7, f8]⟩, []⟩
noncomputable def z9A (r0 : (SL Int)) (r1 r2 : Int) (v1902 : zt1) (r : Int) : TM := [(0, (.d (dl eI r0.1 r0.2))), (1, (xi r1)), (2, (xi r2)), (3, (.ptr 0 6 0)), (4, (.ptr 0 8 0)), (5, (.ptr 0 3 0)), (6, (.ptr 0 9 0)), (10, (.d (.sl [] .nil))), (11, (xb false)), (21, (xb false)), (14, (xi v1902.1)), (36, (xb v1902.2)), (15, (xi r)), (50, (xb false))]
noncomputable def zKh (p0 : zd) (p1 : Int) (r0 : (SL Int)) (r1 r2 : Int) (v1902 : zt1) (rc : zt0) (f1 f2 f3 f4 f5 f6 f7 f8 : Fr) (r : Int) : St := ⟨(z9A r0 r1 r2 v1902 r), ⟨[], [[(zc 2 (za p0)), (3, (.cells [(xi p1)])), (zc 6 (za p0)), (8, (.cells [(xi (w64 ((zo 1 (p0.Slips.1.length : Int)) - 1)))])), (9, (.cells [(.fn 77 [] [(.ptr 0 6 0), (.ptr 0 8 0), (.ptr 0 3 0), (.ptr 0 9 0)])]))], f1, f2, f3, f4, f5, f6, f7, f8]⟩, []⟩
noncomputable def z3q (p0 : zd) (p1 : Int) (r0 : (SL Int)) (r1 r2 : Int) (v1902 : zt1) (rc : zt0) (f1 f2 f3 f4 f5 f6 f7 f8 : Fr) : (((SL Int) × Int × Bool) ⊕ Int) → Ex × St := Sum.elim (fun r => (.ret, zAh p0 p1 r0 r1 r2 v1902 rc f1 f2 f3 f4 f5 f6 f7 f8 r)) (fun r => ((.exit 0), zKh p0 p1 r0 r1 r2 v1902 rc f1 f2 f3 f4 f5 f6 f7 f8 r))
theorem z4l (k : Nat) (p0 : zd) (p1 : Int) (r0 : (SL Int)) (r1 r2 : Int) (v1902 : zt1) (rc : zt0) (f1 f2 f3 f4 f5 f6 f7 f8 : Fr) (hrc : ∀ (f : Fr) (r0 : (SL Int)) (r1 : Int) (r2 : Int) (r : ((SL Int) × Bool)), rc r0 r1 r2 = some r → zJ TE (ev TE) 77 [(.d (dl eI r0.1 r0.2)), (xi r1), (xi r2), (.ptr 0 6 0), (.ptr 0 8 0), (.ptr 0 3 0), (.ptr 0 9 0)] ⟨f, [[(2, (.cells ((za p0).map .d))), (3, (.cells [(xi p1)])), (6, (.cells ((za p0).map .d))), (8, (.cells [(xi (w64 ((zo 1 (p0.Slips.1.length : Int)) - 1)))])), (9, (.cells [(.fn 77 [] [(.ptr 0 6 0), (.ptr 0 8 0), (.ptr 0 3 0), (.ptr 0 9 0)])]))], f1, f2, f3, f4, f5, f6, f7, f8]⟩ [] = some (zu r, ⟨f, [[(2, (.cells ((za p0).map .d))), (3, (.cells [(xi p1)])), (6, (.cells ((za p0).map .d))), (8, (.cells [(xi (w64 ((zo 1 (p0.Slips.1.length : Int)) - 1)))])), (9, (.cells [(.fn 77 [] [(.ptr 0 6 0), (.ptr 0 8 0), (.ptr 0 3 0), (.ptr 0 9 0)])]))], f1, f2, f3, f4, f5, f6, f7, f8]⟩, [])) (s20_8 : Int) (x : Int ⊕ (((SL Int) × Int × Bool) ⊕ Int)) (h : z8j k p0 p1 r0 r1 r2 v1902 rc s20_8 = some x) : zE TE 77 (blk TE 77 0) (fun s : Int => zwr p0 p1 r0 r1 r2 v1902 rc f1 f2 f3 f4 f5 f6 f7 f8 s) (z3q p0 p1 r0 r1 r2 v1902 rc f1 f2 f3 f4 f5 f6 f7 f8) s20_8 x := by
 unfold z8j at h
 refine zn h (fun h2101 g1 => ?_) (fun h2101 g1 => ?_)
 ·refine zn g1 (fun h2102 g2 => ?_) (fun h2102 g2 => ?_)
  ·cases g2
  ·refine zO g2 (fun h2103 g3 => ?_)
   refine zn g3 (fun h2104 g4 => ?_) (fun h2104 g4 => ?_)
   ·cases g4
   ·refine zj g4 (fun v2105 h2106 g5 => ?_)
    refine zn g5 (fun h2107 g6 => ?_) (fun h2107 g6 => ?_)
    ·exact zqo [(77, 8, 4, .q (xi (p0.Slips.1.length : Int))), (77, 8, 5, .q (xb true)), (77, 10, 3, .q (xi (r0.1.length : Int))), (77, 10, 5, .q (xi (r0.1.length : Int))), (77, 10, 6, .q (.d (dl eI r0.1 (ccap r0.2)))), (77, 10, 9, .q (.d (dl eI (r0.1 ++ [s20_8]) .ro))), (77, 10, 12, .q (xi (zo 1 s20_8))), (77, 10, 15, .i (.tup [(dl eI v2105.1.1 v2105.1.2), (db v2105.2)]) ⟨[], [[(2, (.cells ((za p0).map .d))), (3, (.cells [(xi p1)])), (6, (.cells ((za p0).map .d))), (8, (.cells [(xi (w64 ((zo 1 (p0.Slips.1.length : Int)) - 1)))])), (9, (.cells [(.fn 77 [] [(.ptr 0 6 0), (.ptr 0 8 0), (.ptr 0 3 0), (.ptr 0 9 0)])]))], f1, f2, f3, f4, f5, f6, f7, f8]⟩ []), (77, 11, 0, .q (xb true))] [] g6 (ob (zr zl p0.Slips.1) (ob (o_b h2101) (ob (zr eI r0.1) (ob (zr eI r0.1) (ob (zod (e := eI) (z := 1) r0.1 r0.2) (ob (o_ad (P := TE.P) (φ := fun _ _ => none) (T := 22) (q := (1, [(di 0)])) (c := (ccap r0.2)) (e := eI) r0.1 s20_8 (by kernel_rfl) (fun _ => rfl) h2102 h2103) (ob (zIb (x := 1) h2104) (ob (hrc ([] : Fr) ((r0.1 ++ [s20_8]), .ro) (or64 r1 (zo 1 s20_8)) r2 _ h2106) (ob (o_b h2107) ob0))))))))) (by kernel_rfl)
    ·exact zqn (w64 (s20_8 + 1)) [] [(77, 8, 4, .q (xi (p0.Slips.1.length : Int))), (77, 8, 5, .q (xb true)), (77, 10, 3, .q (xi (r0.1.length : Int))), (77, 10, 5, .q (xi (r0.1.length : Int))), (77, 10, 6, .q (.d (dl eI r0.1 (ccap r0.2)))), (77, 10, 9, .q (.d (dl eI (r0.1 ++ [s20_8]) .ro))), (77, 10, 12, .q (xi (zo 1 s20_8))), (77, 10, 15, .i (.tup [(dl eI v2105.1.1 v2105.1.2), (db v2105.2)]) ⟨[], [[(2, (.cells ((za p0).map .d))), (3, (.cells [(xi p1)])), (6, (.cells ((za p0).map .d))), (8, (.cells [(xi (w64 ((zo 1 (p0.Slips.1.length : Int)) - 1)))])), (9, (.cells [(.fn 77 [] [(.ptr 0 6 0), (.ptr 0 8 0), (.ptr 0 3 0), (.ptr 0 9 0)])]))], f1, f2, f3, f4, f5, f6, f7, f8]⟩ []), (77, 11, 0, .q (xb false))] [] g6 (ob (zr zl p0.Slips.1) (ob (o_b h2101) (ob (zr eI r0.1) (ob (zr eI r0.1) (ob (zod (e := eI) (z := 1) r0.1 r0.2) (ob (o_ad (P := TE.P) (φ := fun _ _ => none) (T := 22) (q := (1, [(di 0)])) (c := (ccap r0.2)) (e := eI) r0.1 s20_8 (by kernel_rfl) (fun _ => rfl) h2102 h2103) (ob (zIb (x := 1) h2104) (ob (hrc ([] : Fr) ((r0.1 ++ [s20_8]), .ro) (or64 r1 (zo 1 s20_8)) r2 _ h2106) (ob (o_b h2107) ob0))))))))) (by kernel_rfl)
 ·exact zqo [(77, 8, 4, .q (xi (p0.Slips.1.length : Int))), (77, 8, 5, .q (xb false))] [] g1 (ob (zr zl p0.Slips.1) (ob (o_b h2101) ob0)) (by kernel_rfl)
theorem z0p (k : Nat) (p0 : zd) (p1 : Int) (rc : zt0) (f1 f2 f3 f4 f5 f6 f7 f8 : Fr) (hrc : ∀ (f : Fr) (r0 : (SL Int)) (r1 : Int) (r2 : Int) (r : ((SL Int) × Bool)), rc r0 r1 r2 = some r → zJ TE (ev TE) 77 [(.d (dl eI r0.1 r0.2)), (xi r1), (xi r2), (.ptr 0 6 0), (.ptr 0 8 0), (.ptr 0 3 0), (.ptr 0 9 0)] ⟨f, [[(2, (.cells ((za p0).map .d))), (3, (.cells [(xi p1)])), (6, (.cells ((za p0).map .d))), (8, (.cells [(xi (w64 ((zo 1 (p0.Slips.1.length : Int)) - 1)))])), (9, (.cells [(.fn 77 [] [(.ptr 0 6 0), (.ptr 0 8 0), (.ptr 0 3 0), (.ptr 0 9 0)])]))], f1, f2, f3, f4, f5, f6, f7, f8]⟩ [] = some (zu r, ⟨f, [[(2, (.cells ((za p0).map .d))), (3, (.cells [(xi p1)])), (6, (.cells ((za p0).map .d))), (8, (.cells [(xi (w64 ((zo 1 (p0.Slips.1.length : Int)) - 1)))])), (9, (.cells [(.fn 77 [] [(.ptr 0 6 0), (.ptr 0 8 0), (.ptr 0 3 0), (.ptr 0 9 0)])]))], f1, f2, f3, f4, f5, f6, f7, f8]⟩, [])) (r0 : (SL Int)) (r1 r2 : Int) (r : zt14) (h : z0i k p0 p1 rc r0 r1 r2 = some r) : zJ TE (ev TE) 77 [(.d (dl eI r0.1 r0.2)), (xi r1), (xi r2), (.ptr 0 6 0), (.ptr 0 8 0), (.ptr 0 3 0), (.ptr 0 9 0)] ⟨f8, [[(zc 2 (za p0)), (3, (.cells [(xi p1)])), (zc 6 (za p0)), (8, (.cells [(xi (w64 ((zo 1 (p0.Slips.1.length : Int)) - 1)))])), (9, (.cells [(.fn 77 [] [(.ptr 0 6 0), (.ptr 0 8 0), (.ptr 0 3 0), (.ptr 0 9 0)])]))], f1, f2, f3, f4, f5, f6, f7]⟩ [] = some (zu r, ⟨f8, [[(zc 2 (za p0)), (3, (.cells [(xi p1)])), (zc 6 (za p0)), (8, (.cells [(xi (w64 ((zo 1 (p0.Slips.1.length : Int)) - 1)))])), (9, (.cells [(.fn 77 [] [(.ptr 0 6 0), (.ptr 0 8 0), (.ptr 0 3 0), (.ptr 0 9 0)])]))], f1, f2, f3, f4, f5, f6, f7]⟩, []) := by
 unfold z0i at h
 refine zn h (fun h1901 g1 => ?_) (fun h1901 g1 => ?_)
 ·refine zj g1 (fun v1902 h1903 g2 => ?_)
  exact zP (g := (fun r => (zu r, ⟨f8, [[(2, (.cells ((za p0).map .d))), (3, (.cells [(xi p1)])), (6, (.cells ((za p0).map .d))), (8, (.cells [(xi (w64 ((zo 1 (p0.Slips.1.length : Int)) - 1)))])), (9, (.cells [(.fn 77 [] [(.ptr 0 6 0), (.ptr 0 8 0), (.ptr 0 3 0), (.ptr 0 9 0)])]))], f1, f2, f3, f4, f5, f6, f7]⟩, []))) g2 (zH (n := 80) (V := [(77, 1, 1, .q (xi (r0.1.length : Int))), (77, 1, 3, .q (xb true)), (77, 2, 6, .c (.tup [(dl (eL eI) v1902.1.1 v1902.1.2), (db v1902.2)]))]) (C := []) (ob (zr eI r0.1) (ob (o_b h1901) (ob (zR k (⟨p0⟩ : zh) (⟨(zib (w64 ((zo 1 (p0.Slips.1.length : Int)) - 1)) r1), p1⟩ : zt) _ h1903) ob0))) (by kernel_rfl))
 ·refine zj g1 (fun v1902 h1903 g2 => ?_)
  refine zj g2 (fun v1904 h1905 g3 => ?_)
  refine zPb g3 (fun v1907 hh g4_0 => ?_) (fun v1907 hh g4_0 => ?_)
  ·subst hh
   exact zP (g := (fun r => (zu r, ⟨f8, [[(2, (.cells ((za p0).map .d))), (3, (.cells [(xi p1)])), (6, (.cells ((za p0).map .d))), (8, (.cells [(xi (w64 ((zo 1 (p0.Slips.1.length : Int)) - 1)))])), (9, (.cells [(.fn 77 [] [(.ptr 0 6 0), (.ptr 0 8 0), (.ptr 0 3 0), (.ptr 0 9 0)])]))], f1, f2, f3, f4, f5, f6, f7]⟩, []))) g4_0 (zH (n := 80) (V := [(77, 1, 1, .q (xi (r0.1.length : Int))), (77, 1, 3, .q (xb false)), (77, 5, 1, .q (xi (r0.1.length : Int)))]) (C := [(77, 2000036, (.nor, z0e p0 p1 r0 r1 r2 (decide ((r0.1.length : Int) > 0)) rc f1 f2 f3 f4 f5 f6 f7 f8 v1902)), (77, 0, (.ret, zAh p0 p1 r0 r1 r2 v1902 rc f1 f2 f3 f4 f5 f6 f7 f8 v1907))]) (ob (zr eI r0.1) (ob (o_b h1901) (ob (zr eI r0.1) (ob (zel k p0 p1 r0 r1 r2 (decide ((r0.1.length : Int) > 0)) rc f1 f2 f3 f4 f5 f6 f7 f8 hrc _ h1903) (ob (zx (id := 0) (r' := (.ret, zAh p0 p1 r0 r1 r2 v1902 rc f1 f2 f3 f4 f5 f6 f7 f8 v1907)) (zSd (z4l k p0 p1 r0 r1 r2 v1902 rc f1 f2 f3 f4 f5 f6 f7 f8 hrc) k _ _ h1905) rfl) ob0))))) (by kernel_rfl))
  ·subst hh
   exact zP (g := (fun r => (zu r, ⟨f8, [[(2, (.cells ((za p0).map .d))), (3, (.cells [(xi p1)])), (6, (.cells ((za p0).map .d))), (8, (.cells [(xi (w64 ((zo 1 (p0.Slips.1.length : Int)) - 1)))])), (9, (.cells [(.fn 77 [] [(.ptr 0 6 0), (.ptr 0 8 0), (.ptr 0 3 0), (.ptr 0 9 0)])]))], f1, f2, f3, f4, f5, f6, f7]⟩, []))) g4_0 (zH (n := 80) (V := [(77, 1, 1, .q (xi (r0.1.length : Int))), (77, 1, 3, .q (xb false)), (77, 5, 1, .q (xi (r0.1.length : Int)))]) (C := [(77, 2000036, (.nor, z0e p0 p1 r0 r1 r2 (decide ((r0.1.length : Int) > 0)) rc f1 f2 f3 f4 f5 f6 f7 f8 v1902)), (77, 0, (.nor, zKh p0 p1 r0 r1 r2 v1902 rc f1 f2 f3 f4 f5 f6 f7 f8 v1907))]) (ob (zr eI r0.1) (ob (o_b h1901) (ob (zr eI r0.1) (ob (zel k p0 p1 r0 r1 r2 (decide ((r0.1.length : Int) > 0)) rc f1 f2 f3 f4 f5 f6 f7 f8 hrc _ h1903) (ob (zx (id := 0) (r' := (.nor, zKh p0 p1 r0 r1 r2 v1902 rc f1 f2 f3 f4 f5 f6 f7 f8 v1907)) (zSd (z4l k p0 p1 r0 r1 r2 v1902 rc f1 f2 f3 f4 f5 f6 f7 f8 hrc) k _ _ h1905) rfl) ob0))))) (by kernel_rfl))
noncomputable def z6e (p0 : zd) (p1 : Int) (r0 : (SL Int)) (r1 r2 : Int) (cb : Bool) (rc : zt0) (f1 f2 f3 f4 f5 f6 f7 f8 f9 : Fr) (r : zt1) : St := ⟨(zyj r0 r1 r2 r), ⟨[], [[(zc 2 (za p0)), (3, (.cells [(xi p1)])), (zc 6 (za p0)), (8, (.cells [(xi (w64 ((zo 1 (p0.Slips.1.length : Int)) - 1)))])), (9, (.cells [(.fn 77 [] [(.ptr 0 6 0), (.ptr 0 8 0), (.ptr 0 3 0), (.ptr 0 9 0)])]))], f1, f2, f3, f4, f5, f6, f7, f8, f9]⟩, []⟩
theorem zOl (k : Nat) (p0 : zd) (p1 : Int) (r0 : (SL Int)) (r1 r2 : Int) (cb : Bool) (rc : zt0) (f1 f2 f3 f4 f5 f6 f7 f8 f9 : Fr) (hrc : ∀ (f : Fr) (r0 : (SL Int)) (r1 : Int) (r2 : Int) (r : ((SL Int) × Bool)), rc r0 r1 r2 = some r → zJ TE (ev TE) 77 [(.d (dl eI r0.1 r0.2)), (xi r1), (xi r2), (.ptr 0 6 0), (.ptr 0 8 0), (.ptr 0 3 0), (.ptr 0 9 0)] ⟨f, [[(2, (.cells ((za p0).map .d))), (3, (.cells [(xi p1)])), (6, (.cells ((za p0).map .d))), (8, (.cells [(xi (w64 ((zo 1 (p0.Slips.1.length : Int)) - 1)))])), (9, (.cells [(.fn 77 [] [(.ptr 0 6 0), (.ptr 0 8 0), (.ptr 0 3 0), (.ptr 0 9 0)])]))], f1, f2, f3, f4, f5, f6, f7, f8, f9]⟩ [] = some (zu r, ⟨f, [[(2, (.cells ((za p0).map .d))), (3, (.cells [(xi p1)])), (6, (.cells ((za p0).map .d))), (8, (.cells [(xi (w64 ((zo 1 (p0.Slips.1.length : Int)) - 1)))])), (9, (.cells [(.fn 77 [] [(.ptr 0 6 0), (.ptr 0 8 0), (.ptr 0 3 0), (.ptr 0 9 0)])]))], f1, f2, f3, f4, f5, f6, f7, f8, f9]⟩, [])) (r : zt1) (h : zXj k p0 p1 r0 r1 r2 cb rc = some r) : ev TE 77 (cnd TE 77 36) ⟨(zwj r0 r1 r2 cb), ⟨[], [[(zc 2 (za p0)), (3, (.cells [(xi p1)])), (zc 6 (za p0)), (8, (.cells [(xi (w64 ((zo 1 (p0.Slips.1.length : Int)) - 1)))])), (9, (.cells [(.fn 77 [] [(.ptr 0 6 0), (.ptr 0 8 0), (.ptr 0 3 0), (.ptr 0 9 0)])]))], f1, f2, f3, f4, f5, f6, f7, f8, f9]⟩, []⟩ = some (.nor, z6e p0 p1 r0 r1 r2 cb rc f1 f2 f3 f4 f5 f6 f7 f8 f9 r) := by
 unfold zXj at h
 refine zn h (fun h2201 g1 => ?_) (fun h2201 g1 => ?_)
 ·subst h2201
  refine zj g1 (fun v2202 h2203 g2 => ?_)
  exact zA (g := fun r => (Ex.nor, z6e p0 p1 r0 r1 r2 true rc f1 f2 f3 f4 f5 f6 f7 f8 f9 r)) g2 (zqe [(77, 6, 2, .q (xi (r0.1.length : Int))), (77, 6, 4, .q (.d (.pin [(di v2202)])))] [] (ob (zr eI r0.1) (ob (o_ia (e := eI) 1 h2203 rfl) ob0)) (by kernel_rfl))
 ·subst h2201
  exact zA (g := fun r => (Ex.nor, z6e p0 p1 r0 r1 r2 false rc f1 f2 f3 f4 f5 f6 f7 f8 f9 r)) g1 (zqe [] [] ob0 (by kernel_rfl))
noncomputable def zHz (r0 : (SL Int)) (r1 r2 : Int) (v2102 : zt1) (s22_8 : Int) : TM := [(0, (.d (dl eI r0.1 r0.2))), (1, (xi r1)), (2, (xi r2)), (3, (.ptr 0 6 0)), (4, (.ptr 0 8 0)), (5, (.ptr 0 3 0)), (6, (.ptr 0 9 0)), (10, (.d (.sl [] .nil))), (11, (xb false)), (21, (xb false)), (14, (xi v2102.1)), (36, (xb v2102.2)), (15, (xi s22_8))]
noncomputable def zDr (p0 : zd) (p1 : Int) (r0 : (SL Int)) (r1 r2 : Int) (v2102 : zt1) (rc : zt0) (f1 f2 f3 f4 f5 f6 f7 f8 f9 : Fr) (s22_8 : Int) : St := ⟨(zHz r0 r1 r2 v2102 s22_8), ⟨[], [[(zc 2 (za p0)), (3, (.cells [(xi p1)])), (zc 6 (za p0)), (8, (.cells [(xi (w64 ((zo 1 (p0.Slips.1.length : Int)) - 1)))])), (9, (.cells [(.fn 77 [] [(.ptr 0 6 0), (.ptr 0 8 0), (.ptr 0 3 0), (.ptr 0 9 0)])]))], f1, f2, f3, f4, f5, f6, f7, f8, f9]⟩, []⟩
noncomputable def zcB (r0 : (SL Int)) (r1 r2 : Int) (r : zt19) (v2102 : zt1) : TM := [(0, (.d (dl eI r0.1 r0.2))), (1, (xi r1)), (2, (xi r2)), (3, (.ptr 0 6 0)), (4, (.ptr 0 8 0)), (5, (.ptr 0 3 0)), (6, (.ptr 0 9 0)), (10, (.d (dl eI r.1.1 r.1.2))), (11, (xb true)), (21, (xb false)), (14, (xi v2102.1)), (36, (xb v2102.2)), (15, (xi r.2.1)), (50, (xb true)), (16, (.d (dl eI r.1.1 r.1.2))), (17, (xb r.2.2)), (72, (xb true))]
noncomputable def zMh (p0 : zd) (p1 : Int) (r0 : (SL Int)) (r1 r2 : Int) (v2102 : zt1) (rc : zt0) (f1 f2 f3 f4 f5 f6 f7 f8 f9 : Fr) (r : zt19) : St := ⟨(zcB r0 r1 r2 r v2102), ⟨[], [[(zc 2 (za p0)), (3, (.cells [(xi p1)])), (zc 6 (za p0)), (8, (.cells [(xi (w64 ((zo 1 (p0.Slips.1.length : Int)) - 1)))])), (9, (.cells [(.fn 77 [] [(.ptr 0 6 0), (.ptr 0 8 0), (.ptr 0 3 0), (.ptr 0 9 0)])]))], f1, f2, f3, f4, f5, f6, f7, f8, f9]⟩, []⟩
noncomputable def zIA (r0 : (SL Int)) (r1 r2 : Int) (v2102 : zt1) (r : Int) : TM := [(0, (.d (dl eI r0.1 r0.2))), (1, (xi r1)), (2, (xi r2)), (3, (.ptr 0 6 0)), (4, (.ptr 0 8 0)), (5, (.ptr 0 3 0)), (6, (.ptr 0 9 0)), (10, (.d (.sl [] .nil))), (11, (xb false)), (21, (xb false)), (14, (xi v2102.1)), (36, (xb v2102.2)), (15, (xi r)), (50, (xb false))]
noncomputable def zCh (p0 : zd) (p1 : Int) (r0 : (SL Int)) (r1 r2 : Int) (v2102 : zt1) (rc : zt0) (f1 f2 f3 f4 f5 f6 f7 f8 f9 : Fr) (r : Int) : St := ⟨(zIA r0 r1 r2 v2102 r), ⟨[], [[(zc 2 (za p0)), (3, (.cells [(xi p1)])), (zc 6 (za p0)), (8, (.cells [(xi (w64 ((zo 1 (p0.Slips.1.length : Int)) - 1)))])), (9, (.cells [(.fn 77 [] [(.ptr 0 6 0), (.ptr 0 8 0), (.ptr 0 3 0), (.ptr 0 9 0)])]))], f1, f2, f3, f4, f5, f6, f7, f8, f9]⟩, []⟩
noncomputable def zmr (p0 : zd) (p1 : Int) (r0 : (SL Int)) (r1 r2 : Int) (v2102 : zt1) (rc : zt0) (f1 f2 f3 f4 f5 f6 f7 f8 f9 : Fr) : (((SL Int) × Int × Bool) ⊕ Int) → Ex × St := Sum.elim (fun r => (.ret, zMh p0 p1 r0 r1 r2 v2102 rc f1 f2 f3 f4 f5 f6 f7 f8 f9 r)) (fun r => ((.exit 0), zCh p0 p1 r0 r1 r2 v2102 rc f1 f2 f3 f4 f5 f6 f7 f8 f9 r))
theorem zml (k : Nat) (p0 : zd) (p1 : Int) (r0 : (SL Int)) (r1 r2 : Int) (v2102 : zt1) (rc : zt0) (f1 f2 f3 f4 f5 f6 f7 f8 f9 : Fr) (hrc : ∀ (f : Fr) (r0 : (SL Int)) (r1 : Int) (r2 : Int) (r : ((SL Int) × Bool)), rc r0 r1 r2 = some r → zJ TE (ev TE) 77 [(.d (dl eI r0.1 r0.2)), (xi r1), (xi r2), (.ptr 0 6 0), (.ptr 0 8 0), (.ptr 0 3 0), (.ptr 0 9 0)] ⟨f, [[(2, (.cells ((za p0).map .d))), (3, (.cells [(xi p1)])), (6, (.cells ((za p0).map .d))), (8, (.cells [(xi (w64 ((zo 1 (p0.Slips.1.length : Int)) - 1)))])), (9, (.cells [(.fn 77 [] [(.ptr 0 6 0), (.ptr 0 8 0), (.ptr 0 3 0), (.ptr 0 9 0)])]))], f1, f2, f3, f4, f5, f6, f7, f8, f9]⟩ [] = some (zu r, ⟨f, [[(2, (.cells ((za p0).map .d))), (3, (.cells [(xi p1)])), (6, (.cells ((za p0).map .d))), (8, (.cells [(xi (w64 ((zo 1 (p0.Slips.1.length : Int)) - 1)))])), (9, (.cells [(.fn 77 [] [(.ptr 0 6 0), (.ptr 0 8 0), (.ptr 0 3 0), (.ptr 0 9 0)])]))], f1, f2, f3, f4, f5, f6, f7, f8, f9]⟩, [])) (s22_8 : Int) (x : Int ⊕ (((SL Int) × Int × Bool) ⊕ Int)) (h : z5j k p0 p1 r0 r1 r2 v2102 rc s22_8 = some x) : zE TE 77 (blk TE 77 0) (fun s : Int => zDr p0 p1 r0 r1 r2 v2102 rc f1 f2 f3 f4 f5 f6 f7 f8 f9 s) (zmr p0 p1 r0 r1 r2 v2102 rc f1 f2 f3 f4 f5 f6 f7 f8 f9) s22_8 x := by
 unfold z5j at h
 refine zn h (fun h2301 g1 => ?_) (fun h2301 g1 => ?_)
 ·refine zn g1 (fun h2302 g2 => ?_) (fun h2302 g2 => ?_)
  ·cases g2
  ·refine zO g2 (fun h2303 g3 => ?_)
   refine zn g3 (fun h2304 g4 => ?_) (fun h2304 g4 => ?_)
   ·cases g4
   ·refine zj g4 (fun v2305 h2306 g5 => ?_)
    refine zn g5 (fun h2307 g6 => ?_) (fun h2307 g6 => ?_)
    ·exact zqo [(77, 8, 4, .q (xi (p0.Slips.1.length : Int))), (77, 8, 5, .q (xb true)), (77, 10, 3, .q (xi (r0.1.length : Int))), (77, 10, 5, .q (xi (r0.1.length : Int))), (77, 10, 6, .q (.d (dl eI r0.1 (ccap r0.2)))), (77, 10, 9, .q (.d (dl eI (r0.1 ++ [s22_8]) .ro))), (77, 10, 12, .q (xi (zo 1 s22_8))), (77, 10, 15, .i (.tup [(dl eI v2305.1.1 v2305.1.2), (db v2305.2)]) ⟨[], [[(2, (.cells ((za p0).map .d))), (3, (.cells [(xi p1)])), (6, (.cells ((za p0).map .d))), (8, (.cells [(xi (w64 ((zo 1 (p0.Slips.1.length : Int)) - 1)))])), (9, (.cells [(.fn 77 [] [(.ptr 0 6 0), (.ptr 0 8 0), (.ptr 0 3 0), (.ptr 0 9 0)])]))], f1, f2, f3, f4, f5, f6, f7, f8, f9]⟩ []), (77, 11, 0, .q (xb true))] [] g6 (ob (zr zl p0.Slips.1) (ob (o_b h2301) (ob (zr eI r0.1) (ob (zr eI r0.1) (ob (zod (e := eI) (z := 1) r0.1 r0.2) (ob (o_ad (P := TE.P) (φ := fun _ _ => none) (T := 22) (q := (1, [(di 0)])) (c := (ccap r0.2)) (e := eI) r0.1 s22_8 (by kernel_rfl) (fun _ => rfl) h2302 h2303) (ob (zIb (x := 1) h2304) (ob (hrc ([] : Fr) ((r0.1 ++ [s22_8]), .ro) (or64 r1 (zo 1 s22_8)) r2 _ h2306) (ob (o_b h2307) ob0))))))))) (by kernel_rfl)
    ·exact zqn (w64 (s22_8 + 1)) [] [(77, 8, 4, .q (xi (p0.Slips.1.length : Int))), (77, 8, 5, .q (xb true)), (77, 10, 3, .q (xi (r0.1.length : Int))), (77, 10, 5, .q (xi (r0.1.length : Int))), (77, 10, 6, .q (.d (dl eI r0.1 (ccap r0.2)))), (77, 10, 9, .q (.d (dl eI (r0.1 ++ [s22_8]) .ro))), (77, 10, 12, .q (xi (zo 1 s22_8))), (77, 10, 15, .i (.tup [(dl eI v2305.1.1 v2305.1.2), (db v2305.2)]) ⟨[], [[(2, (.cells ((za p0).map .d))), (3, (.cells [(xi p1)])), (6, (.cells ((za p0).map .d))), (8, (.cells [(xi (w64 ((zo 1 (p0.Slips.1.length : Int)) - 1)))])), (9, (.cells [(.fn 77 [] [(.ptr 0 6 0), (.ptr 0 8 0), (.ptr 0 3 0), (.ptr 0 9 0)])]))], f1, f2, f3, f4, f5, f6, f7, f8, f9]⟩ []), (77, 11, 0, .q (xb false))] [] g6 (ob (zr zl p0.Slips.1) (ob (o_b h2301) (ob (zr eI r0.1) (ob (zr eI r0.1) (ob (zod (e := eI) (z := 1) r0.1 r0.2) (ob (o_ad (P := TE.P) (φ := fun _ _ => none) (T := 22) (q := (1, [(di 0)])) (c := (ccap r0.2)) (e := eI) r0.1 s22_8 (by kernel_rfl) (fun _ => rfl) h2302 h2303) (ob (zIb (x := 1) h2304) (ob (hrc ([] : Fr) ((r0.1 ++ [s22_8]), .ro) (or64 r1 (zo 1 s22_8)) r2 _ h2306) (ob (o_b h2307) ob0))))))))) (by kernel_rfl)
 ·exact zqo [(77, 8, 4, .q (xi (p0.Slips.1.length : Int))), (77, 8, 5, .q (xb false))] [] g1 (ob (zr zl p0.Slips.1) (ob (o_b h2301) ob0)) (by kernel_rfl)
theorem zvp (k : Nat) (p0 : zd) (p1 : Int) (rc : zt0) (f1 f2 f3 f4 f5 f6 f7 f8 f9 : Fr) (hrc : ∀ (f : Fr) (r0 : (SL Int)) (r1 : Int) (r2 : Int) (r : ((SL Int) × Bool)), rc r0 r1 r2 = some r → zJ TE (ev TE) 77 [(.d (dl eI r0.1 r0.2)), (xi r1), (xi r2), (.ptr 0 6 0), (.ptr 0 8 0), (.ptr 0 3 0), (.ptr 0 9 0)] ⟨f, [[(2, (.cells ((za p0).map .d))), (3, (.cells [(xi p1)])), (6, (.cells ((za p0).map .d))), (8, (.cells [(xi (w64 ((zo 1 (p0.Slips.1.length : Int)) - 1)))])), (9, (.cells [(.fn 77 [] [(.ptr 0 6 0), (.ptr 0 8 0), (.ptr 0 3 0), (.ptr 0 9 0)])]))], f1, f2, f3, f4, f5, f6, f7, f8, f9]⟩ [] = some (zu r, ⟨f, [[(2, (.cells ((za p0).map .d))), (3, (.cells [(xi p1)])), (6, (.cells ((za p0).map .d))), (8, (.cells [(xi (w64 ((zo 1 (p0.Slips.1.length : Int)) - 1)))])), (9, (.cells [(.fn 77 [] [(.ptr 0 6 0), (.ptr 0 8 0), (.ptr 0 3 0), (.ptr 0 9 0)])]))], f1, f2, f3, f4, f5, f6, f7, f8, f9]⟩, [])) (r0 : (SL Int)) (r1 r2 : Int) (r : zt14) (h : zRh k p0 p1 rc r0 r1 r2 = some r) : zJ TE (ev TE) 77 [(.d (dl eI r0.1 r0.2)), (xi r1), (xi r2), (.ptr 0 6 0), (.ptr 0 8 0), (.ptr 0 3 0), (.ptr 0 9 0)] ⟨f9, [[(zc 2 (za p0)), (3, (.cells [(xi p1)])), (zc 6 (za p0)), (8, (.cells [(xi (w64 ((zo 1 (p0.Slips.1.length : Int)) - 1)))])), (9, (.cells [(.fn 77 [] [(.ptr 0 6 0), (.ptr 0 8 0), (.ptr 0 3 0), (.ptr 0 9 0)])]))], f1, f2, f3, f4, f5, f6, f7, f8]⟩ [] = some (zu r, ⟨f9, [[(zc 2 (za p0)), (3, (.cells [(xi p1)])), (zc 6 (za p0)), (8, (.cells [(xi (w64 ((zo 1 (p0.Slips.1.length : Int)) - 1)))])), (9, (.cells [(.fn 77 [] [(.ptr 0 6 0), (.ptr 0 8 0), (.ptr 0 3 0), (.ptr 0 9 0)])]))], f1, f2, f3, f4, f5, f6, f7, f8]⟩, []) := by
 unfold zRh at h
 refine zn h (fun h2101 g1 => ?_) (fun h2101 g1 => ?_)
 ·refine zj g1 (fun v2102 h2103 g2 => ?_)
  exact zP (g := (fun r => (zu r, ⟨f9, [[(2, (.cells ((za p0).map .d))), (3, (.cells [(xi p1)])), (6, (.cells ((za p0).map .d))), (8, (.cells [(xi (w64 ((zo 1 (p0.Slips.1.length : Int)) - 1)))])), (9, (.cells [(.fn 77 [] [(.ptr 0 6 0), (.ptr 0 8 0), (.ptr 0 3 0), (.ptr 0 9 0)])]))], f1, f2, f3, f4, f5, f6, f7, f8]⟩, []))) g2 (zH (n := 80) (V := [(77, 1, 1, .q (xi (r0.1.length : Int))), (77, 1, 3, .q (xb true)), (77, 2, 6, .c (.tup [(dl (eL eI) v2102.1.1 v2102.1.2), (db v2102.2)]))]) (C := []) (ob (zr eI r0.1) (ob (o_b h2101) (ob (zR k (⟨p0⟩ : zh) (⟨(zib (w64 ((zo 1 (p0.Slips.1.length : Int)) - 1)) r1), p1⟩ : zt) _ h2103) ob0))) (by kernel_rfl))
 ·refine zj g1 (fun v2102 h2103 g2 => ?_)
  refine zj g2 (fun v2104 h2105 g3 => ?_)
  refine zPb g3 (fun v2107 hh g4_0 => ?_) (fun v2107 hh g4_0 => ?_)
  ·subst hh
   exact zP (g := (fun r => (zu r, ⟨f9, [[(2, (.cells ((za p0).map .d))), (3, (.cells [(xi p1)])), (6, (.cells ((za p0).map .d))), (8, (.cells [(xi (w64 ((zo 1 (p0.Slips.1.length : Int)) - 1)))])), (9, (.cells [(.fn 77 [] [(.ptr 0 6 0), (.ptr 0 8 0), (.ptr 0 3 0), (.ptr 0 9 0)])]))], f1, f2, f3, f4, f5, f6, f7, f8]⟩, []))) g4_0 (zH (n := 80) (V := [(77, 1, 1, .q (xi (r0.1.length : Int))), (77, 1, 3, .q (xb false)), (77, 5, 1, .q (xi (r0.1.length : Int)))]) (C := [(77, 2000036, (.nor, z6e p0 p1 r0 r1 r2 (decide ((r0.1.length : Int) > 0)) rc f1 f2 f3 f4 f5 f6 f7 f8 f9 v2102)), (77, 0, (.ret, zMh p0 p1 r0 r1 r2 v2102 rc f1 f2 f3 f4 f5 f6 f7 f8 f9 v2107))]) (ob (zr eI r0.1) (ob (o_b h2101) (ob (zr eI r0.1) (ob (zOl k p0 p1 r0 r1 r2 (decide ((r0.1.length : Int) > 0)) rc f1 f2 f3 f4 f5 f6 f7 f8 f9 hrc _ h2103) (ob (zx (id := 0) (r' := (.ret, zMh p0 p1 r0 r1 r2 v2102 rc f1 f2 f3 f4 f5 f6 f7 f8 f9 v2107)) (zSd (zml k p0 p1 r0 r1 r2 v2102 rc f1 f2 f3 f4 f5 f6 f7 f8 f9 hrc) k _ _ h2105) rfl) ob0))))) (by kernel_rfl))
  ·subst hh
   exact zP (g := (fun r => (zu r, ⟨f9, [[(2, (.cells ((za p0).map .d))), (3, (.cells [(xi p1)])), (6, (.cells ((za p0).map .d))), (8, (.cells [(xi (w64 ((zo 1 (p0.Slips.1.length : Int)) - 1)))])), (9, (.cells [(.fn 77 [] [(.ptr 0 6 0), (.ptr 0 8 0), (.ptr 0 3 0), (.ptr 0 9 0)])]))], f1, f2, f3, f4, f5, f6, f7, f8]⟩, []))) g4_0 (zH (n := 80) (V := [(77, 1, 1, .q (xi (r0.1.length : Int))), (77, 1, 3, .q (xb false)), (77, 5, 1, .q (xi (r0.1.length : Int)))]) (C := [(77, 2000036, (.nor, z6e p0 p1 r0 r1 r2 (decide ((r0.1.length : Int) > 0)) rc f1 f2 f3 f4 f5 f6 f7 f8 f9 v2102)), (77, 0, (.nor, zCh p0 p1 r0 r1 r2 v2102 rc f1 f2 f3 f4 f5 f6 f7 f8 f9 v2107))]) (ob (zr eI r0.1) (ob (o_b h2101) (ob (zr eI r0.1) (ob (zOl k p0 p1 r0 r1 r2 (decide ((r0.1.length : Int) > 0)) rc f1 f2 f3 f4 f5 f6 f7 f8 f9 hrc _ h2103) (ob (zx (id := 0) (r' := (.nor, zCh p0 p1 r0 r1 r2 v2102 rc f1 f2 f3 f4 f5 f6 f7 f8 f9 v2107)) (zSd (zml k p0 p1 r0 r1 r2 v2102 rc f1 f2 f3 f4 f5 f6 f7 f8 f9 hrc) k _ _ h2105) rfl) ob0))))) (by kernel_rfl))
theorem zpm (k : Nat) (p0 : zd) (p1 : Int) (r0 : (SL Int)) (r1 r2 : Int) (r : zt14) (h : zYl k p0 p1 10 r0 r1 r2 = some r) : zJ TE (ev TE) 77 [(.d (dl eI r0.1 r0.2)), (xi r1), (xi r2), (.ptr 0 6 0), (.ptr 0 8 0), (.ptr 0 3 0), (.ptr 0 9 0)] ⟨[(zc 2 (za p0)), (3, (.cells [(xi p1)])), (zc 6 (za p0)), (8, (.cells [(xi (w64 ((zo 1 (p0.Slips.1.length : Int)) - 1)))])), (9, (.cells [(.fn 77 [] [(.ptr 0 6 0), (.ptr 0 8 0), (.ptr 0 3 0), (.ptr 0 9 0)])]))], []⟩ [] = some (zu r, ⟨[(zc 2 (za p0)), (3, (.cells [(xi p1)])), (zc 6 (za p0)), (8, (.cells [(xi (w64 ((zo 1 (p0.Slips.1.length : Int)) - 1)))])), (9, (.cells [(.fn 77 [] [(.ptr 0 6 0), (.ptr 0 8 0), (.ptr 0 3 0), (.ptr 0 9 0)])]))], []⟩, []) := by
 unfold zYl at h
 exact zJp k p0 p1 _ (fun f1 r0 r1 r2 r h => zpq k p0 p1 _ f1 (fun f2 r0 r1 r2 r h => ziq k p0 p1 _ f1 f2 (fun f3 r0 r1 r2 r h => z9p k p0 p1 _ f1 f2 f3 (fun f4 r0 r1 r2 r h => zKp k p0 p1 _ f1 f2 f3 f4 (fun f5 r0 r1 r2 r h => zqq k p0 p1 _ f1 f2 f3 f4 f5 (fun f6 r0 r1 r2 r h => ztq k p0 p1 _ f1 f2 f3 f4 f5 f6 (fun f7 r0 r1 r2 r h => zXp k p0 p1 _ f1 f2 f3 f4 f5 f6 f7 (fun f8 r0 r1 r2 r h => z0p k p0 p1 _ f1 f2 f3 f4 f5 f6 f7 f8 (fun f9 r0 r1 r2 r h => zvp k p0 p1 _ f1 f2 f3 f4 f5 f6 f7 f8 f9 (fun f r0 r1 r2 r h => by cases h) r0 r1 r2 r h) r0 r1 r2 r h) r0 r1 r2 r h) r0 r1 r2 r h) r0 r1 r2 r h) r0 r1 r2 r h) r0 r1 r2 r h) r0 r1 r2 r h) r0 r1 r2 r h) r0 r1 r2 r h
noncomputable def zGA (p0 : zd) (p1 s1_12 : Int) : TM := [(0, (.d (.agg (za p0)))), (1, (xi p1)), (zsp 2), (zsp 3), (4, (.d (.sl [] .nil))), (5, (xi 0)), (zsp 6), (7, (xi 0)), (20, (xb false)), (zsp 8), (zsp 9), (33, (xi (w64 ((p0.Slips.1.length : Int) + 1)))), (34, (xi s1_12))]
noncomputable def zXr (p0 : zd) (p1 s1_12 : Int) : St := ⟨(zGA p0 p1 s1_12), ⟨[(zc 2 (za p0)), (3, (.cells [(xi p1)])), (zc 6 (za p0)), (8, (.cells [(xi (w64 ((zo 1 (p0.Slips.1.length : Int)) - 1)))])), (9, (.cells [(.fn 77 [] [(.ptr 0 6 0), (.ptr 0 8 0), (.ptr 0 3 0), (.ptr 0 9 0)])]))], []⟩, []⟩
noncomputable def z2z (p0 : zd) (p1 : Int) (r : ((SL Int) × Int × (SL Int) × Bool)) : TM := [(0, (.d (.agg (za p0)))), (1, (xi p1)), (zsp 2), (zsp 3), (4, (.d (dl eI r.1.1 r.1.2))), (5, (xi 0)), (zsp 6), (7, (xi 0)), (20, (xb false)), (zsp 8), (zsp 9), (33, (xi (w64 ((p0.Slips.1.length : Int) + 1)))), (34, (xi r.2.1)), (35, (xb true)), (10, (xi r.2.1)), (11, (.d (dl eI r.2.2.1.1 r.2.2.1.2))), (12, (xb r.2.2.2)), (43, (xb true))]
noncomputable def zUi (p0 : zd) (p1 : Int) (r : ((SL Int) × Int × (SL Int) × Bool)) : St := ⟨(z2z p0 p1 r), ⟨[(zc 2 (za p0)), (3, (.cells [(xi p1)])), (zc 6 (za p0)), (8, (.cells [(xi (w64 ((zo 1 (p0.Slips.1.length : Int)) - 1)))])), (9, (.cells [(.fn 77 [] [(.ptr 0 6 0), (.ptr 0 8 0), (.ptr 0 3 0), (.ptr 0 9 0)])]))], []⟩, []⟩
noncomputable def zTA (p0 : zd) (p1 r : Int) : TM := [(0, (.d (.agg (za p0)))), (1, (xi p1)), (zsp 2), (zsp 3), (4, (.d (.sl [] .nil))), (5, (xi 0)), (zsp 6), (7, (xi 0)), (20, (xb false)), (zsp 8), (zsp 9), (33, (xi (w64 ((p0.Slips.1.length : Int) + 1)))), (34, (xi r)), (35, (xb false))]
noncomputable def zTi (p0 : zd) (p1 r : Int) : St := ⟨(zTA p0 p1 r), ⟨[(zc 2 (za p0)), (3, (.cells [(xi p1)])), (zc 6 (za p0)), (8, (.cells [(xi (w64 ((zo 1 (p0.Slips.1.length : Int)) - 1)))])), (9, (.cells [(.fn 77 [] [(.ptr 0 6 0), (.ptr 0 8 0), (.ptr 0 3 0), (.ptr 0 9 0)])]))], []⟩, []⟩
noncomputable def z3r (p0 : zd) (p1 : Int) : (((SL Int) × Int × (SL Int) × Bool) ⊕ Int) → Ex × St := Sum.elim (fun r => (.ret, zUi p0 p1 r)) (fun r => ((.exit 0), zTi p0 p1 r))
theorem zMm (k : Nat) (p0 : zd) (p1 s1_12 : Int) (x : Int ⊕ (((SL Int) × Int × (SL Int) × Bool) ⊕ Int)) (h : z9k k p0 p1 s1_12 = some x) : zE TE 30 (blk TE 30 0) (fun s : Int => zXr p0 p1 s) (z3r p0 p1) s1_12 x := by
 unfold z9k at h
 refine zn h (fun h2301 g1 => ?_) (fun h2301 g1 => ?_)
 ·refine zj g1 (fun v2302 h2303 g2 => ?_)
  refine zn g2 (fun h2304 g3 => ?_) (fun h2304 g3 => ?_)
  ·exact zqo [(30, 8, 0, .q (xb true)), (30, 10, 2, .i (.tup [(dl eI v2302.1.1 v2302.1.2), (db v2302.2)]) ⟨[(2, (.cells ((za p0).map .d))), (3, (.cells [(xi p1)])), (6, (.cells ((za p0).map .d))), (8, (.cells [(xi (w64 ((zo 1 (p0.Slips.1.length : Int)) - 1)))])), (9, (.cells [(.fn 77 [] [(.ptr 0 6 0), (.ptr 0 8 0), (.ptr 0 3 0), (.ptr 0 9 0)])]))], []⟩ []), (30, 11, 0, .q (xb true)), (30, 12, 2, .q (xi (v2302.1.1.length : Int))), (30, 12, 4, .q (xi (v2302.1.1.length : Int))), (30, 12, 5, .q (.d (dl eI v2302.1.1 (ccap v2302.1.2))))] [] g3 (ob (o_b h2301) (ob (zpm k p0 p1 ([], Cap.nil) 0 s1_12 _ h2303) (ob (o_b h2304) (ob (zr eI v2302.1.1) (ob (zr eI v2302.1.1) (ob (zod (e := eI) (z := 1) v2302.1.1 v2302.1.2) ob0)))))) (by kernel_rfl)
  ·exact zqn (w64 (s1_12 + 1)) [] [(30, 8, 0, .q (xb true)), (30, 10, 2, .i (.tup [(dl eI v2302.1.1 v2302.1.2), (db v2302.2)]) ⟨[(2, (.cells ((za p0).map .d))), (3, (.cells [(xi p1)])), (6, (.cells ((za p0).map .d))), (8, (.cells [(xi (w64 ((zo 1 (p0.Slips.1.length : Int)) - 1)))])), (9, (.cells [(.fn 77 [] [(.ptr 0 6 0), (.ptr 0 8 0), (.ptr 0 3 0), (.ptr 0 9 0)])]))], []⟩ []), (30, 11, 0, .q (xb false))] [] g3 (ob (o_b h2301) (ob (zpm k p0 p1 ([], Cap.nil) 0 s1_12 _ h2303) (ob (o_b h2304) ob0))) (by kernel_rfl)
 ·exact zqo [(30, 8, 0, .q (xb false))] [] g1 (ob (o_b h2301) ob0) (by kernel_rfl)
theorem zYt (k : Nat) (p0 : zd) (p1 : Int) (r : ((SL Int) × Int)) (h : zLo k p0 p1 = some r) : zB TE (ev TE) 30 [(.agg (za p0)), (di p1)] = some (zgh r) := by
 unfold zLo at h
 refine zj h (fun v1 h2 g1 => ?_)
 refine zn g1 (fun h3 g2 => ?_) (fun h3 g2 => ?_)
 ·exact zy (g := zgh) g2 (zqc [(52, 1, 1, .c (di v1)), (52, 2, 1, .q (xb true)), (30, 2, 1, .q (xb true))] [] (ob (zQ k p0 _ h2) (ob (o_b h3) (ob (o_b h3) ob0))) (by kernel_rfl))
 ·refine zj g2 (fun v4 h5 g3 => ?_)
  have y1 := fun (d : D) (P : List Prop) (V : Ovs) (C : Cuts) (q : All P) h => (zqc ([(52, 1, 1, .c (di v1)), (52, 2, 1, .q (xb false)), (76, 1, 1, .c (db v4))] ++ V) C (ob (zQ k p0 _ h2) (ob (o_b h3) (ob (zS k p1 1 5 _ h5) q))) h : zB TE (ev TE) 30 [(.agg (za p0)), (di p1)] = some d)
  refine zn g3 (fun h6 g4 => ?_) (fun h6 g4 => ?_)
  ·exact zy (g := zgh) g4 (y1 _ _ [(52, 4, 4, .q (xb true))] [] (ob (o_b h6) ob0) (by kernel_rfl))
  ·have y2 := fun (d : _) (P : List Prop) (V : Ovs) (C : Cuts) (q : All P) h => y1 d _ ([(52, 4, 4, .q (xb false)), (30, 4, 3, .q (xi (p0.Slips.1.length : Int))), (30, 4, 4, .q (xi (zo 1 (p0.Slips.1.length : Int)))), (30, 7, 3, .q (xi (p0.Slips.1.length : Int)))] ++ V) C (ob (o_b h6) (ob (zr zl p0.Slips.1) q)) h
   refine zn g4 (fun h7 g5 => ?_) (fun h7 g5 => ?_)
   ·cases g5
   ·refine zj g5 (fun v8 h9 g6 => ?_)
    refine zPb g6 (fun v11 hh g7_0 => ?_) (fun v11 hh g7_0 => ?_)
    ·subst hh
     exact zy (g := zgh) g7_0 (y2 _ _ [] [(30, 0, (.ret, zUi p0 p1 v11))] (ob (zIb (x := 1) h7) (ob (zr zl p0.Slips.1) (ob (zx (id := 0) (r' := (.ret, zUi p0 p1 v11)) (zSd (zMm k p0 p1) k _ _ h9) rfl) ob0))) (by kernel_rfl))
    ·subst hh
     exact zy (g := zgh) g7_0 (y2 _ _ [] [(30, 0, (.nor, zTi p0 p1 v11))] (ob (zIb (x := 1) h7) (ob (zr zl p0.Slips.1) (ob (zx (id := 0) (r' := (.nor, zTi p0 p1 v11)) (zSd (zMm k p0 p1) k _ _ h9) rfl) ob0))) (by kernel_rfl))
noncomputable def z7z (s1_0 : Int) (p1 : (SL Int)) (s1_5 : Int) : TM := [(0, (xi s1_0)), (1, (.d (dl eI p1.1 p1.2))), (4, (xi 0)), (7, (.d (dl eI p1.1 p1.2))), (8, (xi (p1.1.length : Int))), (9, (xi s1_5))]
noncomputable def z4m (p1 : (SL Int)) (s1_0 s1_5 : Int) : St := ⟨(z7z s1_0 p1 s1_5), ⟨[], []⟩, []⟩
noncomputable def z5z (r : zt7) (p1 : (SL Int)) : TM := [(0, (xi r.1)), (1, (.d (dl eI p1.1 p1.2))), (4, (xi 0)), (7, (.d (dl eI p1.1 p1.2))), (8, (xi (p1.1.length : Int))), (9, (xi r.2)), (10, (xb false))]
noncomputable def zFe (p1 : (SL Int)) (r : zt7) : St := ⟨(z5z r p1), ⟨[], []⟩, []⟩
noncomputable def zPm (p1 : (SL Int)) : (Int × Int) → Ex × St := fun r => ((.exit 0), zFe p1 r)
theorem zim (k : Nat) (p1 : (SL Int)) (s1_0 s1_5 : Int) (x : (Int × Int) ⊕ (Int × Int)) (h : z3f k p1 s1_0 s1_5 = some x) : zE TE 81 (blk TE 81 0) (fun s : (Int × Int) => z4m p1 s.1 s.2) (zPm p1) (s1_0, s1_5) x := by
 unfold z3f at h
 refine zn h (fun h201 g1 => ?_) (fun h201 g1 => ?_)
 ·refine zj g1 (fun v202 h203 g2 => ?_)
  exact zqn ((if v202 > s1_0 then v202 else s1_0), (w64 (s1_5 + 1))) [] [(81, 2, 0, .q (xb true)), (81, 3, 0, .q (.d (.pin [(di v202)])))] [] g2 (ob (o_b h201) (ob (o_ia (e := eI) 1 h203 rfl) ob0)) (by kernel_rfl)
 ·exact zqo [(81, 2, 0, .q (xb false))] [] g1 (ob (o_b h201) ob0) (by kernel_rfl)
theorem zBi (k : Nat) (p0 : Int) (p1 : (SL Int)) (r : Int) (h : zmf k p0 p1 = some r) : zB TE (ev TE) 81 [(di p0), (dl eI p1.1 p1.2)] = some (z9i r) := by
 unfold zmf at h
 refine zj h (fun v1 h2 g1 => ?_)
 exact zy (g := z9i) g1 (zqc [(81, 1, 1, .q (xi (p1.1.length : Int)))] [(81, 0, (.nor, zFe p1 v1))] (ob (zr eI p1.1) (ob (zx (id := 0) (r' := (.nor, zFe p1 v1)) (zkb (zim k p1) k _ _ h2) rfl) ob0)) (by kernel_rfl))
noncomputable def zhy (p0 : zd) (p1 : Int) (v7 : zt11) (v11 : Int) (v13 : zm) : TM := [(0, (.d (.agg (za p0)))), (1, (xi p1)), (zsp 2), (zsp 3), (4, (xi 0)), (5, (xi 0)), (zsp 6), (7, (xi 0)), (24, (xb false)), (9, (xi v7.2.1)), (10, (xb v7.2.2)), (33, (xb false)), (zsp 11), (12, (xi v11)), (13, (xi v13.Until))]
noncomputable def zum (p0 : zd) (p1 : Int) (v7 : zt11) (v11 : Int) (v13 : zm) : St := ⟨(zhy p0 p1 v7 v11 v13), ⟨[(zc 2 (za p0)), (3, (.cells [(xi p1)])), (6, (.cells [(.d (dl eI p0.Far.1 p0.Far.2)), (xi p0.Step.Low), (xi p0.Step.High), (.d (dl zq p0.Pick.1 p0.Pick.2)), (xi p0.Carry), (.row 0 57 0)])), (11, (.cells [(xi (w64 ((zo 1 (p0.Slips.1.length : Int)) - 1))), (xi v7.2.1)])), (57, .nrow)], []⟩, []⟩
noncomputable def zIh (p0 : zd) (p1 : Int) (v7 : zt11) (v11 : Int) (v13 : zm) (r : Unit) : St := ⟨(zhy p0 p1 v7 v11 v13 ++ [(62, (xb false))]), ⟨[(zc 2 (za p0)), (3, (.cells [(xi p1)])), (6, (.cells [(.d (dl eI p0.Far.1 p0.Far.2)), (xi p0.Step.Low), (xi p0.Step.High), (.d (dl zq p0.Pick.1 p0.Pick.2)), (xi p0.Carry), (.row 0 57 0)])), (11, (.cells [(xi (w64 ((zo 1 (p0.Slips.1.length : Int)) - 1))), (xi v7.2.1)])), (57, .nrow)], []⟩, []⟩
noncomputable def zzm (p0 : zd) (p1 : Int) (v7 : zt11) (v11 : Int) (v13 : zm) : Unit → Ex × St := fun r => ((.exit 0), zIh p0 p1 v7 v11 v13 r)
theorem znq (k : Nat) (p0 : zd) (p1 : Int) (v7 : zt11) (v11 : Int) (v13 : zm) (x : Unit ⊕ Unit) (h : zyh k p0 p1 v7 v11 v13 = some x) : zE TE 33 (blk TE 33 0) (fun s : Unit => zum p0 p1 v7 v11 v13) (zzm p0 p1 v7 v11 v13) () x := by
 unfold zyh at h
 refine zn h (fun h201 g1 => ?_) (fun h201 g1 => ?_)
 ·cases g1
 ·exact zqo [(33, 10, 2, .q (xb false))] [] g1 (ob (o_b h201) ob0) (by kernel_rfl)
theorem z8p (k : Nat) (p0 : zd) (p1 : Int) (v7 : zt11) (v11 : Int) (v13 : zm) : ∀ (s : Unit) (x : Unit ⊕ Unit), (fun s => zyh k p0 p1 v7 v11 v13) s = some x → zE TE 33 (blk TE 33 0) (fun s : Unit => zum p0 p1 v7 v11 v13) (zzm p0 p1 v7 v11 v13) s x := fun s x h => znq k p0 p1 v7 v11 v13 x h
noncomputable def zdB (p0 : zd) (p1 : Int) (v7 : zt11) (r : (Int × Int × Bool)) (s2_14 s2_15 : Int) (v404 : ((SL (SL Int)) × Bool)) : TM := [(0, (.d (.agg (za p0)))), (1, (xi p1)), (zsp 2), (zsp 3), (4, (xi 0)), (5, (xi 0)), (zsp 6), (7, (xi 0)), (24, (xb false)), (9, (xi v7.2.1)), (10, (xb v7.2.2)), (33, (xb false)), (zsp 11), (12, (xi r.1)), (13, (xi r.2.1)), (62, (xb true)), (14, (xi (w64 ((w64 (s2_14 + s2_15)).tdiv 2)))), (16, (xb v404.2)), (80, (xb r.2.2))]
noncomputable def zqg (p0 : zd) (p1 : Int) (v7 : zt11) (s2_14 s2_15 : Int) (s2_30 : (List zm)) (v402 : zm) (v404 : ((SL (SL Int)) × Bool)) (cb : Bool) (r : (Int × Int × Bool)) : St := ⟨(zdB p0 p1 v7 r s2_14 s2_15 v404), ⟨[(zc 2 (za p0)), (3, (.cells [(xi p1)])), (6, (.cells [(.d (dl eI p0.Far.1 p0.Far.2)), (xi p0.Step.Low), (xi p0.Step.High), (.d (dl zq p0.Pick.1 p0.Pick.2)), (xi p0.Carry), (.row 0 57 (s2_30.set p1.toNat (⟨v402.Lines, (w64 ((w64 (s2_14 + s2_15)).tdiv 2))⟩ : zm)).length)])), (11, (.cells [(xi (w64 ((zo 1 (p0.Slips.1.length : Int)) - 1))), (xi v7.2.1)])), (57, (rowO false 2 zl (s2_30.set p1.toNat (⟨v402.Lines, (w64 ((w64 (s2_14 + s2_15)).tdiv 2))⟩ : zm)) true))], []⟩, []⟩
noncomputable def zMA (p0 : zd) (p1 : Int) (v7 : zt11) (s2_14 s2_15 : Int) (v404 : ((SL (SL Int)) × Bool)) (cb : Bool) : TM := [(0, (.d (.agg (za p0)))), (1, (xi p1)), (zsp 2), (zsp 3), (4, (xi 0)), (5, (xi 0)), (zsp 6), (7, (xi 0)), (24, (xb false)), (9, (xi v7.2.1)), (10, (xb v7.2.2)), (33, (xb false)), (zsp 11), (12, (xi s2_14)), (13, (xi s2_15)), (62, (xb true)), (14, (xi (w64 ((w64 (s2_14 + s2_15)).tdiv 2)))), (16, (xb v404.2)), (80, (xb cb))]
theorem z2p (k : Nat) (p0 : zd) (p1 : Int) (v7 : zt11) (s2_14 s2_15 : Int) (s2_30 : (List zm)) (v402 : zm) (v404 : ((SL (SL Int)) × Bool)) (cb : Bool) (r : (Int × Int × Bool)) (h : z2j k p0 p1 v7 s2_14 s2_15 s2_30 v402 v404 cb = some r) : ev TE 33 (cnd TE 33 80) ⟨(zMA p0 p1 v7 s2_14 s2_15 v404 cb), ⟨[(zc 2 (za p0)), (3, (.cells [(xi p1)])), (6, (.cells [(.d (dl eI p0.Far.1 p0.Far.2)), (xi p0.Step.Low), (xi p0.Step.High), (.d (dl zq p0.Pick.1 p0.Pick.2)), (xi p0.Carry), (.row 0 57 (s2_30.set p1.toNat (⟨v402.Lines, (w64 ((w64 (s2_14 + s2_15)).tdiv 2))⟩ : zm)).length)])), (11, (.cells [(xi (w64 ((zo 1 (p0.Slips.1.length : Int)) - 1))), (xi v7.2.1)])), (57, (rowO false 2 zl (s2_30.set p1.toNat (⟨v402.Lines, (w64 ((w64 (s2_14 + s2_15)).tdiv 2))⟩ : zm)) true))], []⟩, []⟩ = some (.nor, zqg p0 p1 v7 s2_14 s2_15 s2_30 v402 v404 cb r) := by
 unfold z2j at h
 refine zn h (fun h501 g1 => ?_) (fun h501 g1 => ?_)
 ·subst h501
  exact zA (g := fun r => (Ex.nor, zqg p0 p1 v7 s2_14 s2_15 s2_30 v402 v404 true r)) g1 (zqe [] [] ob0 (by kernel_rfl))
 ·subst h501
  exact zA (g := fun r => (Ex.nor, zqg p0 p1 v7 s2_14 s2_15 s2_30 v402 v404 false r)) g1 (zqe [] [] ob0 (by kernel_rfl))
noncomputable def z8z (p0 : zd) (p1 : Int) (v7 : zt11) (s2_14 s2_15 : Int) : TM := [(0, (.d (.agg (za p0)))), (1, (xi p1)), (zsp 2), (zsp 3), (4, (xi 0)), (5, (xi 0)), (zsp 6), (7, (xi 0)), (24, (xb false)), (9, (xi v7.2.1)), (10, (xb v7.2.2)), (33, (xb false)), (zsp 11), (12, (xi s2_14)), (13, (xi s2_15))]
noncomputable def zTq (p0 : zd) (p1 : Int) (v7 : zt11) (s2_14 s2_15 : Int) (s2_30 : (List zm)) : St := ⟨(z8z p0 p1 v7 s2_14 s2_15), ⟨[(zc 2 (za p0)), (3, (.cells [(xi p1)])), (6, (.cells [(.d (dl eI p0.Far.1 p0.Far.2)), (xi p0.Step.Low), (xi p0.Step.High), (.d (dl zq p0.Pick.1 p0.Pick.2)), (xi p0.Carry), (.row 0 57 s2_30.length)])), (11, (.cells [(xi (w64 ((zo 1 (p0.Slips.1.length : Int)) - 1))), (xi v7.2.1)])), (57, (rowO false 2 zl s2_30 true))], []⟩, []⟩
noncomputable def zoA (p0 : zd) (p1 : Int) (v7 : zt11) (r : (Int × Int × (List zm))) : TM := [(0, (.d (.agg (za p0)))), (1, (xi p1)), (zsp 2), (zsp 3), (4, (xi 0)), (5, (xi 0)), (zsp 6), (7, (xi 0)), (24, (xb false)), (9, (xi v7.2.1)), (10, (xb v7.2.2)), (33, (xb false)), (zsp 11), (12, (xi r.1)), (13, (xi r.2.1)), (62, (xb false))]
noncomputable def zQh (p0 : zd) (p1 : Int) (v7 : zt11) (r : (Int × Int × (List zm))) : St := ⟨(zoA p0 p1 v7 r), ⟨[(zc 2 (za p0)), (3, (.cells [(xi p1)])), (6, (.cells [(.d (dl eI p0.Far.1 p0.Far.2)), (xi p0.Step.Low), (xi p0.Step.High), (.d (dl zq p0.Pick.1 p0.Pick.2)), (xi p0.Carry), (.row 0 57 r.2.2.length)])), (11, (.cells [(xi (w64 ((zo 1 (p0.Slips.1.length : Int)) - 1))), (xi v7.2.1)])), (57, (rowO false 2 zl r.2.2 true))], []⟩, []⟩
noncomputable def z4q (p0 : zd) (p1 : Int) (v7 : zt11) : (Int × Int × (List zm)) → Ex × St := fun r => ((.exit 0), zQh p0 p1 v7 r)
theorem zWp (k : Nat) (p0 : zd) (p1 : Int) (v7 : zt11) (s2_14 s2_15 : Int) (s2_30 : (List zm)) (x : (Int × Int × (List zm)) ⊕ (Int × Int × (List zm))) (h : znk k p0 p1 v7 s2_14 s2_15 s2_30 = some x) : zE TE 33 (blk TE 33 0) (fun s : (Int × Int × (List zm)) => zTq p0 p1 v7 s.1 s.2.1 s.2.2) (z4q p0 p1 v7) (s2_14, s2_15, s2_30) x := by
 unfold znk at h
 refine zn h (fun h401 g1 => ?_) (fun h401 g1 => ?_)
 ·refine zj g1 (fun v402 h403 g2 => ?_)
  refine zj g2 (fun v404 h405 g3 => ?_)
  refine zj g3 (fun v406 h407 g4 => ?_)
  exact zqn (v406.1, v406.2.1, (s2_30.set p1.toNat (⟨v402.Lines, (w64 ((w64 (s2_14 + s2_15)).tdiv 2))⟩ : zm))) [57] [(33, 10, 2, .q (xb true)), (33, 12, 5, .q (.rp 0 57 s2_30.length p1.toNat 0)), (33, 12, 6, .q (.rp 0 57 s2_30.length p1.toNat 1)), (33, 12, 7, .rs (rowO false 2 zl (s2_30.set p1.toNat (⟨v402.Lines, (w64 ((w64 (s2_14 + s2_15)).tdiv 2))⟩ : zm)) true)), (33, 12, 999, .nm [] [(6, 5, (s2_30.set p1.toNat (⟨v402.Lines, (w64 ((w64 (s2_14 + s2_15)).tdiv 2))⟩ : zm)).length)]), (33, 13, 2, .cr [((dl zl (s2_30.set p1.toNat (⟨v402.Lines, (w64 ((w64 (s2_14 + s2_15)).tdiv 2))⟩ : zm)) (rcap false (s2_30.set p1.toNat (⟨v402.Lines, (w64 ((w64 (s2_14 + s2_15)).tdiv 2))⟩ : zm)))), (rowO false 2 zl (s2_30.set p1.toNat (⟨v402.Lines, (w64 ((w64 (s2_14 + s2_15)).tdiv 2))⟩ : zm)) false))] (.tup [(dl (eL eI) v404.1.1 v404.1.2), (db v404.2)]))] [(33, 2000080, (.nor, zqg p0 p1 v7 s2_14 s2_15 s2_30 v402 v404 v404.2 v406))] g4 (ob (o_b h401) (ob (zqa 26 32 0 57 p1 false 2 zl s2_30 true (by kernel_rfl) (by kernel_rfl) h403) (ob (zqf 52 (1, 1, false) 0 57 0 1 p1 false 2 zl s2_30 true (by kernel_rfl) (by decide) h403) (ob (o_rs (b := false) (z := 2) (e := zl) (l := s2_30) (o := 1) (n := 1) (ds := [(di (w64 ((w64 (s2_14 + s2_15)).tdiv 2)))]) (i := p1) (y' := (⟨v402.Lines, (w64 ((w64 (s2_14 + s2_15)).tdiv 2))⟩ : zm)) h403 (Nat.le_of_ble_eq_true rfl) rfl) (ob (show s2_30.length = (s2_30.set p1.toNat (⟨v402.Lines, (w64 ((w64 (s2_14 + s2_15)).tdiv 2))⟩ : zm)).length by simp) (ob (o_cr false 2 zl (s2_30.set p1.toNat (⟨v402.Lines, (w64 ((w64 (s2_14 + s2_15)).tdiv 2))⟩ : zm)) true 0 57) (ob (zR k (⟨(⟨p0.Far, p0.Step, p0.Pick, p0.Carry, ((s2_30.set p1.toNat (⟨v402.Lines, (w64 ((w64 (s2_14 + s2_15)).tdiv 2))⟩ : zm)), (rcap false (s2_30.set p1.toNat (⟨v402.Lines, (w64 ((w64 (s2_14 + s2_15)).tdiv 2))⟩ : zm))))⟩ : zd)⟩ : zh) (⟨(w64 ((zo 1 (p0.Slips.1.length : Int)) - 1)), v7.2.1⟩ : zt) _ h405) (ob (z2p k p0 p1 v7 s2_14 s2_15 s2_30 v402 v404 v404.2 _ h407) (ob (zlf false 2 zl (s2_30.set p1.toNat (⟨v402.Lines, (w64 ((w64 (s2_14 + s2_15)).tdiv 2))⟩ : zm)) true) ob0))))))))) (by kernel_rfl)
 ·exact zqo [(33, 10, 2, .q (xb false))] [] g1 (ob (o_b h401) ob0) (by kernel_rfl)
theorem zZs (k : Nat) (p0 : zd) (p1 : Int) (r : zt7) (h : zco k p0 p1 = some r) : zB TE (ev TE) 33 [(.agg (za p0)), (di p1)] = some (zKf r) := by
 unfold zco at h
 refine zj h (fun v1 h2 g1 => ?_)
 refine zn g1 (fun h3 g2 => ?_) (fun h3 g2 => ?_)
 ·exact zy (g := zKf) g2 (zqc [(52, 1, 1, .c (di v1)), (52, 2, 1, .q (xb true)), (33, 2, 1, .q (xb true))] [] (ob (zQ k p0 _ h2) (ob (o_b h3) (ob (o_b h3) ob0))) (by kernel_rfl))
 ·refine zj g2 (fun v4 h5 g3 => ?_)
  have y1 := fun (d : D) (P : List Prop) (V : Ovs) (C : Cuts) (q : All P) h => (zqc ([(52, 1, 1, .c (di v1)), (52, 2, 1, .q (xb false)), (79, 1, 2, .c (db v4))] ++ V) C (ob (zQ k p0 _ h2) (ob (o_b h3) (ob (zab k (⟨p0⟩ : zh) p1 _ h5) q))) h : zB TE (ev TE) 33 [(.agg (za p0)), (di p1)] = some d)
  refine zn g3 (fun h6 g4 => ?_) (fun h6 g4 => ?_)
  ·exact zy (g := zKf) g4 (y1 _ _ [(52, 4, 4, .q (xb true))] [] (ob (o_b h6) ob0) (by kernel_rfl))
  ·refine zj g4 (fun v7 h8 g5 => ?_)
   have y2 := fun (d : _) (P : List Prop) (V : Ovs) (C : Cuts) (q : All P) h => y1 d _ ([(52, 4, 4, .q (xb false)), (33, 4, 1, .c (.tup [(dl (eL eI) v7.1.1 v7.1.2), (di v7.2.1), (db v7.2.2)]))] ++ V) C (ob (o_b h6) (ob (z7f k (⟨p0⟩ : zh) _ h8) q)) h
   refine zn g5 (fun h9 g6 => ?_) (fun h9 g6 => ?_)
   ·exact zy (g := zKf) g6 (y2 _ _ [(33, 5, 1, .q (xb true))] [] (ob (o_b h9) ob0) (by kernel_rfl))
   ·refine zn g6 (fun h10 g7 => ?_) (fun h10 g7 => ?_)
    ·cases g7
    ·refine zj g7 (fun v11 h12 g8 => ?_)
     refine zj g8 (fun v13 h14 g9 => ?_)
     have y3 := fun (d : _) (P : List Prop) (V : Ovs) (C : Cuts) (q : All P) h => y2 d _ ([(33, 5, 1, .q (xb false)), (33, 7, 3, .q (xi (p0.Slips.1.length : Int))), (33, 7, 4, .q (xi (zo 1 (p0.Slips.1.length : Int)))), (33, 8, 4, .c (di v11)), (33, 8, 9, .q (.d (.pin [(dl zi v13.Lines.1 v13.Lines.2), (di v13.Until)])))] ++ V) C (ob (o_b h9) (ob (zr zl p0.Slips.1) (ob (zIb (x := 1) h10) (ob (z3e k (⟨p0⟩ : zh) p1 _ h12) (ob (o_ia (e := zl) 2 h14 rfl) q))))) h
     refine zn g9 (fun h15 g10 => ?_) (fun h15 g10 => ?_)
     ·refine zj g10 (fun v16 h17 g11 => ?_)
      refine zj g11 (fun v18 h19 g12 => ?_)
      exact zy (g := zKf) g12 (y3 _ _ [(80, 1, 1, .q (xb true)), (33, 17, 2, .c (di v18))] [(33, 0, (.nor, zIh p0 p1 v7 v11 v13 v16))] (ob (o_b h15) (ob (zx (id := 0) (r' := (.nor, zIh p0 p1 v7 v11 v13 v16)) (z6g (z8p k p0 p1 v7 v11 v13) k _ _ h17) rfl) (ob (zBi k v11 ([0], .ex) _ h19) ob0))) (by kernel_rfl))
     ·refine zO g10 (fun h16 g11 => ?_)
      refine zj g11 (fun v17 h18 g12 => ?_)
      refine zj g12 (fun v19 h20 g13 => ?_)
      exact zy (g := zKf) g13 (y3 _ _ [(80, 1, 1, .q (xb false)), (80, 3, 2, .ns (p0.Slips.1.map zl) p0.Slips.1.length), (33, 17, 2, .c (di v19))] [(33, 0, (.nor, zQh p0 p1 v7 v17))] (ob (o_b h15) (ob (zLz p0.Slips.1 zl) (ob (o_ns (P := TE.P) (φ := fun _ _ => none) (T := 26) (q := (2, [(.sl [] .nil), (di 0)])) (c := p0.Slips.2) (e := zl) p0.Slips.1 (by kernel_rfl) (fun _ => rfl) h16) (ob (rfl : (([] : List (List D)).isEmpty || !(p0.Slips.1.map zl).isEmpty) = true) (ob (o_rh false 2 zl p0.Slips.1) (ob (zx (id := 0) (r' := (.nor, zQh p0 p1 v7 v17)) (zyo (zWp k p0 p1 v7) k _ _ h18) rfl) (ob (zBi k v17.1 ([0], .ex) _ h20) ob0))))))) (by kernel_rfl))
noncomputable def zMz (p0 p1 : (SL Int)) (s1_3 : Bool) (s1_4 : Int) (r : Bool) : TM := [(0, (.d (dl eI p0.1 p0.2))), (1, (.d (dl eI p1.1 p1.2))), (4, (xb false)), (5, (xb s1_3)), (6, (xi s1_4)), (18, (xb r))]
noncomputable def z9b (p0 p1 : (SL Int)) (s1_3 : Bool) (s1_4 : Int) (r : Bool) : St := ⟨(zMz p0 p1 s1_3 s1_4 r), ⟨[], []⟩, []⟩
noncomputable def zoy (p0 p1 : (SL Int)) (s1_3 : Bool) (s1_4 : Int) : TM := [(0, (.d (dl eI p0.1 p0.2))), (1, (.d (dl eI p1.1 p1.2))), (4, (xb false)), (5, (xb s1_3)), (6, (xi s1_4))]
theorem zBg (k : Nat) (p0 p1 : (SL Int)) (s1_3 : Bool) (s1_4 : Int) (r : Bool) (h : zkf k p0 p1 s1_3 s1_4 = some r) : ev TE 32 (rgn TE 32 3) ⟨(zoy p0 p1 s1_3 s1_4), ⟨[], []⟩, []⟩ = some (.nor, z9b p0 p1 s1_3 s1_4 r) := by
 unfold zkf at h
 refine zn h (fun h401 g1 => ?_) (fun h401 g1 => ?_)
 ·exact zA (g := fun r => (Ex.nor, z9b p0 p1 s1_3 s1_4 r)) g1 (zqe [(32, 3, 1, .q (xb true)), (32, 3, 4, .q (xi (p0.1.length : Int)))] [] (ob (o_b h401) (ob (zr eI p0.1) ob0)) (by kernel_rfl))
 ·exact zA (g := fun r => (Ex.nor, z9b p0 p1 s1_3 s1_4 r)) g1 (zqe [(32, 3, 1, .q (xb false))] [] (ob (o_b h401) ob0) (by kernel_rfl))
noncomputable def zLl (p0 p1 : (SL Int)) (s1_3 : Bool) (s1_4 : Int) : St := ⟨(zoy p0 p1 s1_3 s1_4), ⟨[], []⟩, []⟩
noncomputable def zhA (p0 p1 : (SL Int)) (r : zt9) : TM := [(0, (.d (dl eI p0.1 p0.2))), (1, (.d (dl eI p1.1 p1.2))), (4, (xb false)), (5, (xb r.1)), (6, (xi r.2)), (18, (xb false))]
noncomputable def zce (p0 p1 : (SL Int)) (r : zt9) : St := ⟨(zhA p0 p1 r), ⟨[], []⟩, []⟩
noncomputable def zxl (p0 p1 : (SL Int)) : (Bool × Int) → Ex × St := fun r => ((.exit 0), zce p0 p1 r)
theorem zrk (k : Nat) (p0 p1 : (SL Int)) (s1_3 : Bool) (s1_4 : Int) (x : (Bool × Int) ⊕ (Bool × Int)) (h : zcf k p0 p1 s1_3 s1_4 = some x) : zE TE 32 (blk TE 32 0) (fun s : (Bool × Int) => zLl p0 p1 s.1 s.2) (zxl p0 p1) (s1_3, s1_4) x := by
 unfold zcf at h
 refine zj h (fun v301 h302 g1 => ?_)
 refine zn g1 (fun h303 g2 => ?_) (fun h303 g2 => ?_)
 ·subst h303
  refine zj g2 (fun v304 h305 g3 => ?_)
  refine zj g3 (fun v306 h307 g4 => ?_)
  exact zqn ((v304 == v306), (w64 (s1_4 + 1))) [] [(32, 5, 2, .q (.d (.pin [(di v304)]))), (32, 5, 6, .q (.d (.pin [(di v306)])))] [(32, 1000003, (.nor, z9b p0 p1 s1_3 s1_4 true))] g4 (ob (zBg k p0 p1 s1_3 s1_4 _ h302) (ob (o_ia (e := eI) 1 h305 rfl) (ob (o_ia (e := eI) 1 h307 rfl) ob0))) (by kernel_rfl)
 ·subst h303
  exact zqo [] [(32, 1000003, (.nor, z9b p0 p1 s1_3 s1_4 false))] g2 (ob (zBg k p0 p1 s1_3 s1_4 _ h302) ob0) (by kernel_rfl)
theorem zph (k : Nat) (p0 p1 : (SL Int)) (r : Bool) (h : zmg k p0 p1 = some r) : zB TE (ev TE) 32 [(dl eI p0.1 p0.2), (dl eI p1.1 p1.2)] = some (z0h r) := by
 unfold zmg at h
 refine zj h (fun v1 h2 g1 => ?_)
 exact zy (g := z0h) g1 (zqc [(32, 1, 1, .q (xi (p0.1.length : Int))), (32, 1, 3, .q (xi (p1.1.length : Int)))] [(32, 0, (.nor, zce p0 p1 v1))] (ob (zr eI p0.1) (ob (zr eI p1.1) (ob (zx (id := 0) (r' := (.nor, zce p0 p1 v1)) (zkb (zrk k p0 p1) k _ _ h2) rfl) ob0))) (by kernel_rfl))
noncomputable def zFz (v3 : zt7) (v7 : (zp × Int)) (v11 : ((SL (SL zk)) × Int)) (v21 : zt9) (r : Bool) : TM := [(0, (xb false)), (1, (xi v3.1)), (2, (xi v3.2)), (zsp 3), (4, (xi v7.2)), (5, (.d (dl (eL zi) v11.1.1 v11.1.2))), (6, (xi v11.2)), (7, (xb v21.1)), (8, (xi v21.2)), (86, (xb r))]
noncomputable def zC (v3 : zt7) (v7 : (zp × Int)) (v11 : ((SL (SL zk)) × Int)) (v21 : zt9) (r : Bool) : St := ⟨(zFz v3 v7 v11 v21 r), ⟨[(3, (.cells [(xi v7.1.Low), (xi v7.1.High)]))], []⟩, []⟩
noncomputable def zjy (v3 : zt7) (v7 : (zp × Int)) (v11 : ((SL (SL zk)) × Int)) (v21 : zt9) : TM := [(0, (xb false)), (1, (xi v3.1)), (2, (xi v3.2)), (zsp 3), (4, (xi v7.2)), (5, (.d (dl (eL zi) v11.1.1 v11.1.2))), (6, (xi v11.2)), (7, (xb v21.1)), (8, (xi v21.2))]
theorem zDk (k : Nat) (v3 : zt7) (v7 : (zp × Int)) (v11 : ((SL (SL zk)) × Int)) (v21 : zt9) (r : Bool) (h : zif k v3 v7 v11 v21 = some r) : ev TE 23 (rgn TE 23 5) ⟨(zjy v3 v7 v11 v21), ⟨[(3, (.cells [(xi v7.1.Low), (xi v7.1.High)]))], []⟩, []⟩ = some (.nor, zC v3 v7 v11 v21 r) := by
 unfold zif at h
 refine zn h (fun h201 g1 => ?_) (fun h201 g1 => ?_)
 ·exact zA (g := fun r => (Ex.nor, zC v3 v7 v11 v21 r)) g1 (zqe [(23, 5, 2, .q (xb true))] [] (ob (o_b h201) ob0) (by kernel_rfl))
 ·have y1 := fun (d : Ex × St) (P : List Prop) (V : Ovs) (C : Cuts) (q : All P) h => (zqe ([(23, 5, 2, .q (xb false))] ++ V) C (ob (o_b h201) q) h : ev TE 23 (rgn TE 23 5) ⟨(zjy v3 v7 v11 v21), ⟨[(3, (.cells [(xi v7.1.Low), (xi v7.1.High)]))], []⟩, []⟩ = some d)
  refine zn g1 (fun h202 g2 => ?_) (fun h202 g2 => ?_)
  ·exact zA (g := fun r => (Ex.nor, zC v3 v7 v11 v21 r)) g2 (y1 _ _ [(23, 5, 6, .q (xb true))] [] (ob (o_b h202) ob0) (by kernel_rfl))
  ·have y2 := fun (d : _) (P : List Prop) (V : Ovs) (C : Cuts) (q : All P) h => y1 d _ ([(23, 5, 6, .q (xb false))] ++ V) C (ob (o_b h202) q) h
   refine zn g2 (fun h203 g3 => ?_) (fun h203 g3 => ?_)
   ·exact zA (g := fun r => (Ex.nor, zC v3 v7 v11 v21 r)) g3 (y2 _ _ [(23, 5, 10, .q (xb true))] [] (ob (o_b h203) ob0) (by kernel_rfl))
   ·have y3 := fun (d : _) (P : List Prop) (V : Ovs) (C : Cuts) (q : All P) h => y2 d _ ([(23, 5, 10, .q (xb false))] ++ V) C (ob (o_b h203) q) h
    refine zn g3 (fun h204 g4 => ?_) (fun h204 g4 => ?_)
    ·exact zA (g := fun r => (Ex.nor, zC v3 v7 v11 v21 r)) g4 (y3 _ _ [(23, 5, 14, .q (xb true))] [] (ob (o_b h204) ob0) (by kernel_rfl))
    ·have y4 := fun (d : _) (P : List Prop) (V : Ovs) (C : Cuts) (q : All P) h => y3 d _ ([(23, 5, 14, .q (xb false))] ++ V) C (ob (o_b h204) q) h
     refine zn g4 (fun h205 g5 => ?_) (fun h205 g5 => ?_)
     ·exact zA (g := fun r => (Ex.nor, zC v3 v7 v11 v21 r)) g5 (y4 _ _ [(23, 5, 18, .q (xb true))] [] (ob (o_b h205) ob0) (by kernel_rfl))
     ·refine zj g5 (fun v206 h207 g6 => ?_)
      have y5 := fun (d : _) (P : List Prop) (V : Ovs) (C : Cuts) (q : All P) h => y4 d _ ([(23, 5, 18, .q (xb false)), (23, 5, 20, .c (.agg [(di v206.Low), (di v206.High)]))] ++ V) C (ob (o_b h205) (ob (zX k 140 252 _ h207) q)) h
      refine zn g6 (fun h208 g7 => ?_) (fun h208 g7 => ?_)
      ·exact zA (g := fun r => (Ex.nor, zC v3 v7 v11 v21 r)) g7 (y5 _ _ [(23, 5, 23, .q (xb true))] [] (ob (o_b h208) ob0) (by kernel_rfl))
      ·have y6 := fun (d : _) (P : List Prop) (V : Ovs) (C : Cuts) (q : All P) h => y5 d _ ([(23, 5, 23, .q (xb false)), (23, 5, 25, .q (xi (v11.1.1.length : Int)))] ++ V) C (ob (o_b h208) (ob (zr (eL zi) v11.1.1) q)) h
       refine zn g7 (fun h209 g8 => ?_) (fun h209 g8 => ?_)
       ·exact zA (g := fun r => (Ex.nor, zC v3 v7 v11 v21 r)) g8 (y6 _ _ [(23, 5, 28, .q (xb true))] [] (ob (o_b h209) ob0) (by kernel_rfl))
       ·refine zj g8 (fun v210 h211 g9 => ?_)
        have y7 := fun (d : _) (P : List Prop) (V : Ovs) (C : Cuts) (q : All P) h => y6 d _ ([(23, 5, 28, .q (xb false)), (23, 5, 30, .q (.d (.pin [(dl zi v210.1 v210.2)]))), (23, 5, 32, .q (xi (v210.1.length : Int)))] ++ V) C (ob (o_b h209) (ob (o_ia (e := (eL zi)) 1 h211 rfl) (ob (zr zi v210.1) q))) h
        refine zn g9 (fun h212 g10 => ?_) (fun h212 g10 => ?_)
        ·exact zA (g := fun r => (Ex.nor, zC v3 v7 v11 v21 r)) g10 (y7 _ _ [(23, 5, 35, .q (xb true))] [] (ob (o_b h212) ob0) (by kernel_rfl))
        ·refine zj g10 (fun v213 h214 g11 => ?_)
         refine zj g11 (fun v215 h216 g12 => ?_)
         refine zj g12 (fun v217 h218 g13 => ?_)
         have y8 := fun (d : _) (P : List Prop) (V : Ovs) (C : Cuts) (q : All P) h => y7 d _ ([(23, 5, 35, .q (xb false)), (23, 5, 37, .q (.d (.pin [(dl zi v213.1 v213.2)]))), (23, 5, 39, .q (.d (.pin [(di v215.Shelf), (di v215.Many)]))), (23, 5, 41, .c (.agg [(di v217.Shelf), (di v217.Many)]))] ++ V) C (ob (o_b h212) (ob (o_ia (e := (eL zi)) 1 h214 rfl) (ob (o_ia (e := zi) 2 h216 rfl) (ob (zgb k 0 1 _ h218) q)))) h
         refine zn g13 (fun h219 g14 => ?_) (fun h219 g14 => ?_)
         ·exact zA (g := fun r => (Ex.nor, zC v3 v7 v11 v21 r)) g14 (y8 _ _ [(23, 5, 44, .q (xb true))] [] (ob (o_b h219) ob0) (by kernel_rfl))
         ·exact zA (g := fun r => (Ex.nor, zC v3 v7 v11 v21 r)) g14 (y8 _ _ [(23, 5, 44, .q (xb false))] [] (ob (o_b h219) ob0) (by kernel_rfl))
theorem zoh (k : Nat) (r : Bool) (h : zzc k = some r) : zB TE (ev TE) 23 [] = some (z9 r) := by
 unfold zzc at h
 refine zj h (fun v1 h2 g1 => ?_)
 refine zj g1 (fun v3 h4 g2 => ?_)
 refine zj g2 (fun v5 h6 g3 => ?_)
 refine zj g3 (fun v7 h8 g4 => ?_)
 refine zj g4 (fun v9 h10 g5 => ?_)
 refine zj g5 (fun v11 h12 g6 => ?_)
 refine zj g6 (fun v13 h14 g7 => ?_)
 refine zj g7 (fun v15 h16 g8 => ?_)
 refine zj g8 (fun v17 h18 g9 => ?_)
 refine zj g9 (fun v19 h20 g10 => ?_)
 refine zj g10 (fun v21 h22 g11 => ?_)
 refine zj g11 (fun v23 h24 g12 => ?_)
 have y1 := fun (d : D) (P : List Prop) (V : Ovs) (C : Cuts) (q : All P) h => (zqc ([(23, 1, 0, .c (.agg (za v1))), (23, 1, 1, .c (.tup [(di v3.1), (di v3.2)])), (23, 2, 0, .c (.agg (za v5))), (23, 2, 1, .c (.tup [(.agg [(di v7.1.Low), (di v7.1.High)]), (di v7.2)])), (23, 3, 0, .c (.agg (za v9))), (23, 3, 1, .c (.tup [(dl (eL zi) v11.1.1 v11.1.2), (di v11.2)])), (23, 4, 0, .c (.agg (za v13))), (23, 4, 1, .c (.agg [(di v15.Shelf), (di v15.Many)])), (23, 4, 2, .c (.agg [(di v17.Shelf), (di v17.Many)])), (23, 4, 4, .c (.agg [(di v19.Shelf), (di v19.Many)])), (23, 4, 7, .c (.tup [(db v21.1), (di v21.2)]))] ++ V) C (ob (zmb k _ h2) (ob (zVs k v1 3 _ h4) (ob (zmb k _ h6) (ob (zUs k v5 0 _ h8) (ob (zmb k _ h10) (ob (z0s k v9 2 _ h12) (ob (zmb k _ h14) (ob (zgb k 0 1 _ h16) (ob (zgb k 2 3 _ h18) (ob (zgb k 0 1 _ h20) (ob (zkr k v13 0 ([([v15, v17], .ex), ([v19], .ex)], .ex) _ h22) (ob (zDk k v3 v7 v11 v21 _ h24) q)))))))))))) h : zB TE (ev TE) 23 [] = some d)
 refine zn g12 (fun h25 g13 => ?_) (fun h25 g13 => ?_)
 ·subst h25
  exact zy (g := z9) g13 (y1 _ _ [] [(23, 1000005, (.nor, zC v3 v7 v11 v21 true))] ob0 (by kernel_rfl))
 ·subst h25
  refine zj g13 (fun v26 h27 g14 => ?_)
  refine zj g14 (fun v28 h29 g15 => ?_)
  refine zj g15 (fun v30 h31 g16 => ?_)
  refine zj g16 (fun v32 h33 g17 => ?_)
  refine zj g17 (fun v34 h35 g18 => ?_)
  refine zj g18 (fun v36 h37 g19 => ?_)
  refine zj g19 (fun v38 h39 g20 => ?_)
  refine zj g20 (fun v40 h41 g21 => ?_)
  have y2 := fun (d : _) (P : List Prop) (V : Ovs) (C : Cuts) (q : All P) h => y1 d _ ([(23, 7, 0, .c (.agg (za v26))), (23, 7, 4, .c (.tup [(dl zq v28.1.1 v28.1.2), (di v28.2)])), (23, 8, 0, .c (.agg (za v30))), (23, 8, 1, .c (.tup [(dl (eL eI) v32.1.1 v32.1.2), (di v32.2)])), (23, 9, 0, .c (.agg (za v34))), (23, 9, 1, .c (.tup [(dl eI v36.1.1 v36.1.2), (di v36.2)])), (23, 10, 0, .c (.agg (za v38))), (23, 10, 1, .c (.tup [(di v40.1), (di v40.2)]))] ++ V) C (ob (zmb k _ h27) (ob (zJo k v26 ([([2, 1], .ex), ([0, 3], .ex)], .ex) _ h29) (ob (zmb k _ h31) (ob (zSn k v30 _ h33) (ob (zmb k _ h35) (ob (zYt k v34 1 _ h37) (ob (zmb k _ h39) (ob (zZs k v38 3 _ h41) q)))))))) h
  refine zn g21 (fun h42 g22 => ?_) (fun h42 g22 => ?_)
  ·have y3 := fun (d : _) (P : List Prop) (V : Ovs) (C : Cuts) (q : All P) h => y2 d _ ([(23, 11, 2, .q (xb true))] ++ V) C (ob (o_b h42) q) h
   refine zn g22 (fun h43 g23 => ?_) (fun h43 g23 => ?_)
   ·have y4 := fun (d : _) (P : List Prop) (V : Ovs) (C : Cuts) (q : All P) h => y3 d _ ([(23, 11, 6, .q (xb true))] ++ V) C (ob (o_b h43) q) h
    refine zn g23 (fun h44 g24 => ?_) (fun h44 g24 => ?_)
    ·refine zn g24 (fun h45 g25 => ?_) (fun h45 g25 => ?_)
     ·refine zj g25 (fun v46 h47 g26 => ?_)
      refine zj g26 (fun v48 h49 g27 => ?_)
      refine zj g27 (fun v50 h51 g28 => ?_)
      refine zj g28 (fun v52 h53 g29 => ?_)
      refine zj g29 (fun v54 h55 g30 => ?_)
      have y5 := fun (d : _) (P : List Prop) (V : Ovs) (C : Cuts) (q : All P) h => y4 d _ ([(23, 11, 10, .q (xb true)), (23, 11, 14, .q (xb true)), (23, 11, 16, .c (.agg [(di v46.Low), (di v46.High)])), (23, 11, 17, .c (.agg [(di v48.Low), (di v48.High)])), (23, 11, 18, .c (.agg [(di v50.Low), (di v50.High)])), (23, 11, 19, .c (.agg [(di v52.Low), (di v52.High)])), (23, 11, 21, .c (db v54))] ++ V) C (ob (o_b h44) (ob (o_b h45) (ob (zX k 140 252 _ h47) (ob (zX k 95 188 _ h49) (ob (zX k 25 48 _ h51) (ob (zX k 365 654 _ h53) (ob (zRd k v28.1 ([v46, v48, v50, v52], .ex) _ h55) q))))))) h
      refine zn g30 (fun h56 g31 => ?_) (fun h56 g31 => ?_)
      ·have y6 := fun (d : _) (P : List Prop) (V : Ovs) (C : Cuts) (q : All P) h => y5 d _ ([(23, 11, 23, .q (xb true)), (23, 11, 25, .q (xi (v32.1.1.length : Int)))] ++ V) C (ob (o_b h56) (ob (zr (eL eI) v32.1.1) q)) h
       refine zn g31 (fun h57 g32 => ?_) (fun h57 g32 => ?_)
       ·refine zj g32 (fun v58 h59 g33 => ?_)
        refine zn g33 (fun h60 g34 => ?_) (fun h60 g34 => ?_)
        ·exact zy (g := z9) g34 (y6 _ _ [(23, 11, 28, .q (xb true)), (23, 11, 31, .c (db v58)), (23, 11, 33, .q (xb true))] [(23, 1000005, (.nor, zC v3 v7 v11 v21 false))] (ob (o_b h57) (ob (zph k v36.1 ([0], .ex) _ h59) (ob (o_b h60) ob0))) (by kernel_rfl))
        ·exact zy (g := z9) g34 (y6 _ _ [(23, 11, 28, .q (xb true)), (23, 11, 31, .c (db v58)), (23, 11, 33, .q (xb false))] [(23, 1000005, (.nor, zC v3 v7 v11 v21 false))] (ob (o_b h57) (ob (zph k v36.1 ([0], .ex) _ h59) (ob (o_b h60) ob0))) (by kernel_rfl))
       ·exact zy (g := z9) g32 (y6 _ _ [(23, 11, 28, .q (xb false))] [(23, 1000005, (.nor, zC v3 v7 v11 v21 false))] (ob (o_b h57) ob0) (by kernel_rfl))
      ·exact zy (g := z9) g31 (y5 _ _ [(23, 11, 23, .q (xb false))] [(23, 1000005, (.nor, zC v3 v7 v11 v21 false))] (ob (o_b h56) ob0) (by kernel_rfl))
     ·exact zy (g := z9) g25 (y4 _ _ [(23, 11, 10, .q (xb true)), (23, 11, 14, .q (xb false))] [(23, 1000005, (.nor, zC v3 v7 v11 v21 false))] (ob (o_b h44) (ob (o_b h45) ob0)) (by kernel_rfl))
    ·exact zy (g := z9) g24 (y4 _ _ [(23, 11, 10, .q (xb false))] [(23, 1000005, (.nor, zC v3 v7 v11 v21 false))] (ob (o_b h44) ob0) (by kernel_rfl))
   ·exact zy (g := z9) g23 (y3 _ _ [(23, 11, 6, .q (xb false))] [(23, 1000005, (.nor, zC v3 v7 v11 v21 false))] (ob (o_b h43) ob0) (by kernel_rfl))
  ·exact zy (g := z9) g22 (y2 _ _ [(23, 11, 2, .q (xb false))] [(23, 1000005, (.nor, zC v3 v7 v11 v21 false))] (ob (o_b h42) ob0) (by kernel_rfl))
noncomputable def zbA (p0 : zd) (p1 : (SL (SL Int))) (v1 v3 : zt8) (r : Bool) : TM := [(0, (.d (.agg (za p0)))), (1, (.d (dl (eL eI) p1.1 p1.2))), (zsp 2), (4, (xb false)), (5, (.d (dl zq v1.1.1 v1.1.2))), (6, (xi v1.2)), (7, (.d (dl zq v3.1.1 v3.1.2))), (8, (xi v3.2)), (32, (xb r))]
noncomputable def zI (p0 : zd) (p1 : (SL (SL Int))) (v1 v3 : zt8) (r : Bool) : St := ⟨(zbA p0 p1 v1 v3 r), ⟨[(zc 2 (za p0))], []⟩, []⟩
noncomputable def z2A (p0 : zd) (p1 : (SL (SL Int))) (v1 v3 : zt8) : TM := [(0, (.d (.agg (za p0)))), (1, (.d (dl (eL eI) p1.1 p1.2))), (zsp 2), (4, (xb false)), (5, (.d (dl zq v1.1.1 v1.1.2))), (6, (xi v1.2)), (7, (.d (dl zq v3.1.1 v3.1.2))), (8, (xi v3.2))]
theorem zii (k : Nat) (p0 : zd) (p1 : (SL (SL Int))) (v1 v3 : zt8) (r : Bool) (h : zEb k p0 p1 v1 v3 = some r) : ev TE 4 (rgn TE 4 3) ⟨(z2A p0 p1 v1 v3), ⟨[(zc 2 (za p0))], []⟩, []⟩ = some (.nor, zI p0 p1 v1 v3 r) := by
 unfold zEb at h
 refine zj h (fun v201 h202 g1 => ?_)
 refine zn g1 (fun h203 g2 => ?_) (fun h203 g2 => ?_)
 ·exact zA (g := fun r => (Ex.nor, zI p0 p1 v1 v3 r)) g2 (zqe [(4, 3, 2, .c (db v201)), (4, 3, 4, .q (xb true))] [] (ob (zRd k v1.1 v3.1 _ h202) (ob (o_b h203) ob0)) (by kernel_rfl))
 ·exact zA (g := fun r => (Ex.nor, zI p0 p1 v1 v3 r)) g2 (zqe [(4, 3, 2, .c (db v201)), (4, 3, 4, .q (xb false))] [] (ob (zRd k v1.1 v3.1 _ h202) (ob (o_b h203) ob0)) (by kernel_rfl))
noncomputable def zwA (p0 : zd) (p1 : (SL (SL Int))) (v1 : zt8) (v8 : zt17) (v14 : zt8) (v10 : zt7) (r : Bool) : TM := [(0, (.d (.agg (za p0)))), (1, (.d (dl (eL eI) p1.1 p1.2))), (zsp 2), (4, (xb false)), (5, (.d (dl zq v1.1.1 v1.1.2))), (6, (xi v8.2)), (7, (.d (dl zq v14.1.1 v14.1.2))), (8, (xi v14.2)), (32, (xb false)), (9, (.d (dl (eL eI) v8.1.1 v8.1.2))), (10, (xi v10.1)), (45, (xb false)), (47, (xb false)), (67, (xb r))]
noncomputable def zdb (p0 : zd) (p1 : (SL (SL Int))) (v1 : zt8) (v8 : zt17) (v10 : zt7) (v14 : zt8) (r : Bool) : St := ⟨(zwA p0 p1 v1 v8 v14 v10 r), ⟨[(zc 2 (za p0))], []⟩, []⟩
noncomputable def z6s (p0 : zd) (p1 : (SL (SL Int))) (v1 : zt8) (v8 : zt17) (v14 : zt8) (v10 : zt7) : TM := [(0, (.d (.agg (za p0)))), (1, (.d (dl (eL eI) p1.1 p1.2))), (zsp 2), (4, (xb false)), (5, (.d (dl zq v1.1.1 v1.1.2))), (6, (xi v8.2)), (7, (.d (dl zq v14.1.1 v14.1.2))), (8, (xi v14.2)), (32, (xb false)), (9, (.d (dl (eL eI) v8.1.1 v8.1.2))), (10, (xi v10.1)), (45, (xb false)), (47, (xb false))]
theorem zhi (k : Nat) (p0 : zd) (p1 : (SL (SL Int))) (v1 : zt8) (v8 : zt17) (v10 : zt7) (v14 : zt8) (r : Bool) (h : zbc k p0 p1 v1 v8 v10 v14 = some r) : ev TE 4 (rgn TE 4 12) ⟨(z6s p0 p1 v1 v8 v14 v10), ⟨[(zc 2 (za p0))], []⟩, []⟩ = some (.nor, zdb p0 p1 v1 v8 v10 v14 r) := by
 unfold zbc at h
 refine zn h (fun h301 g1 => ?_) (fun h301 g1 => ?_)
 ·exact zA (g := fun r => (Ex.nor, zdb p0 p1 v1 v8 v10 v14 r)) g1 (zqe [(4, 12, 2, .q (xb true))] [] (ob (o_b h301) ob0) (by kernel_rfl))
 ·exact zA (g := fun r => (Ex.nor, zdb p0 p1 v1 v8 v10 v14 r)) g1 (zqe [(4, 12, 2, .q (xb false)), (4, 12, 4, .q (xi (v8.1.1.length : Int)))] [] (ob (o_b h301) (ob (zr (eL eI) v8.1.1) ob0)) (by kernel_rfl))
noncomputable def zzi (p0 : zd) (p1 : (SL (SL Int))) (v1 : zt8) (v8 : zt17) (v10 : zt7) (v14 : zt8) (s3_18 : Int) : St := ⟨(z6s p0 p1 v1 v8 v14 v10 ++ [(67, (xb false)), (11, (xi s3_18))]), ⟨[(zc 2 (za p0))], []⟩, []⟩
noncomputable def z4c (p0 : zd) (p1 : (SL (SL Int))) (v1 : zt8) (v8 : zt17) (v10 : zt7) (v14 : zt8) (r : Int) : St := ⟨(z6s p0 p1 v1 v8 v14 v10 ++ [(67, (xb false)), (11, (xi r)), (71, (xb true)), (85, (xb true))]), ⟨[(zc 2 (za p0))], []⟩, []⟩
noncomputable def z5c (p0 : zd) (p1 : (SL (SL Int))) (v1 : zt8) (v8 : zt17) (v10 : zt7) (v14 : zt8) (r : Int) : St := ⟨(z6s p0 p1 v1 v8 v14 v10 ++ [(67, (xb false)), (11, (xi r)), (71, (xb false))]), ⟨[(zc 2 (za p0))], []⟩, []⟩
noncomputable def zji (p0 : zd) (p1 : (SL (SL Int))) (v1 : zt8) (v8 : zt17) (v10 : zt7) (v14 : zt8) : (Int ⊕ Int) → Ex × St := Sum.elim (fun r => (.ret, z4c p0 p1 v1 v8 v10 v14 r)) (fun r => ((.exit 0), z5c p0 p1 v1 v8 v10 v14 r))
theorem zEe (k : Nat) (p0 : zd) (p1 : (SL (SL Int))) (v1 : zt8) (v8 : zt17) (v10 : zt7) (v14 : zt8) (s3_18 : Int) (x : Int ⊕ (Int ⊕ Int)) (h : zGb k p0 p1 v1 v8 v10 v14 s3_18 = some x) : zE TE 4 (blk TE 4 0) (fun s : Int => zzi p0 p1 v1 v8 v10 v14 s) (zji p0 p1 v1 v8 v10 v14) s3_18 x := by
 unfold zGb at h
 refine zn h (fun h401 g1 => ?_) (fun h401 g1 => ?_)
 ·refine zj g1 (fun v402 h403 g2 => ?_)
  refine zj g2 (fun v404 h405 g3 => ?_)
  refine zn g3 (fun h406 g4 => ?_) (fun h406 g4 => ?_)
  ·exact zqo [(4, 15, 2, .q (xi (v14.1.1.length : Int))), (4, 15, 3, .q (xb true)), (4, 17, 2, .q (.d (.pin [(di v402.Low), (di v402.High)]))), (4, 17, 8, .q (.d (.pin [(dl zi v404.Lines.1 v404.Lines.2), (di v404.Until)]))), (4, 17, 11, .q (xb true))] [] g4 (ob (zr zq v14.1.1) (ob (o_b h401) (ob (o_ia (e := zq) 2 h403 rfl) (ob (o_ia (e := zl) 2 h405 rfl) (ob (o_b h406) ob0))))) (by kernel_rfl)
  ·exact zqn (w64 (s3_18 + 1)) [] [(4, 15, 2, .q (xi (v14.1.1.length : Int))), (4, 15, 3, .q (xb true)), (4, 17, 2, .q (.d (.pin [(di v402.Low), (di v402.High)]))), (4, 17, 8, .q (.d (.pin [(dl zi v404.Lines.1 v404.Lines.2), (di v404.Until)]))), (4, 17, 11, .q (xb false))] [] g4 (ob (zr zq v14.1.1) (ob (o_b h401) (ob (o_ia (e := zq) 2 h403 rfl) (ob (o_ia (e := zl) 2 h405 rfl) (ob (o_b h406) ob0))))) (by kernel_rfl)
 ·exact zqo [(4, 15, 2, .q (xi (v14.1.1.length : Int))), (4, 15, 3, .q (xb false))] [] g1 (ob (zr zq v14.1.1) (ob (o_b h401) ob0)) (by kernel_rfl)
theorem znj (k : Nat) (p0 : zd) (p1 : (SL (SL Int))) (r : Bool) (h : zBb k p0 p1 = some r) : zB TE (ev TE) 4 [(.agg (za p0)), (dl (eL eI) p1.1 p1.2)] = some (z7 r) := by
 unfold zBb at h
 refine zj h (fun v1 h2 g1 => ?_)
 refine zj g1 (fun v3 h4 g2 => ?_)
 refine zj g2 (fun v5 h6 g3 => ?_)
 have y1 := fun (d : D) (P : List Prop) (V : Ovs) (C : Cuts) (q : All P) h => (zqc ([(4, 1, 2, .c (.tup [(dl zq v1.1.1 v1.1.2), (di v1.2)])), (4, 2, 2, .c (.tup [(dl zq v3.1.1 v3.1.2), (di v3.2)]))] ++ V) C (ob (zJo k p0 p1 _ h2) (ob (z4h k p0 p1 _ h4) (ob (zii k p0 p1 v1 v3 _ h6) q))) h : zB TE (ev TE) 4 [(.agg (za p0)), (dl (eL eI) p1.1 p1.2)] = some d)
 refine zn g3 (fun h7 g4 => ?_) (fun h7 g4 => ?_)
 ·subst h7
  exact zy (g := z7) g4 (y1 _ _ [] [(4, 1000003, (.nor, zI p0 p1 v1 v3 true))] ob0 (by kernel_rfl))
 ·subst h7
  refine zj g4 (fun v8 h9 g5 => ?_)
  refine zj g5 (fun v10 h11 g6 => ?_)
  have y2 := fun (d : _) (P : List Prop) (V : Ovs) (C : Cuts) (q : All P) h => y1 d _ ([(4, 5, 1, .c (.tup [(dl (eL eI) v8.1.1 v8.1.2), (di v8.2)])), (4, 6, 1, .c (.tup [(di v10.1), (di v10.2)]))] ++ V) C (ob (zSn k p0 _ h9) (ob (zSl k p0 _ h11) q)) h
  refine zn g6 (fun h12 g7 => ?_) (fun h12 g7 => ?_)
  ·exact zy (g := z7) g7 (y2 _ _ [(4, 7, 2, .q (xb true))] [(4, 1000003, (.nor, zI p0 p1 v1 v3 false))] (ob (o_b h12) ob0) (by kernel_rfl))
  ·refine zn g7 (fun h13 g8 => ?_) (fun h13 g8 => ?_)
   ·refine zn g8 (fun h14 g9 => ?_) (fun h14 g9 => ?_)
    ·refine zj g9 (fun v15 h16 g10 => ?_)
     exact zy (g := z7) g10 (y2 _ _ [(4, 7, 2, .q (xb false)), (4, 9, 1, .q (xb true)), (4, 10, 1, .q (xi (v8.1.1.length : Int))), (4, 10, 3, .q (xb true)), (4, 10, 4, .c (db v15))] [(4, 1000003, (.nor, zI p0 p1 v1 v3 false))] (ob (o_b h12) (ob (o_b h13) (ob (zr (eL eI) v8.1.1) (ob (o_b h14) (ob (zoh k _ h16) ob0))))) (by kernel_rfl))
    ·exact zy (g := z7) g9 (y2 _ _ [(4, 7, 2, .q (xb false)), (4, 9, 1, .q (xb true)), (4, 10, 1, .q (xi (v8.1.1.length : Int))), (4, 10, 3, .q (xb false))] [(4, 1000003, (.nor, zI p0 p1 v1 v3 false))] (ob (o_b h12) (ob (o_b h13) (ob (zr (eL eI) v8.1.1) (ob (o_b h14) ob0)))) (by kernel_rfl))
   ·refine zj g8 (fun v14 h15 g9 => ?_)
    refine zj g9 (fun v16 h17 g10 => ?_)
    have y3 := fun (d : _) (P : List Prop) (V : Ovs) (C : Cuts) (q : All P) h => y2 d _ ([(4, 7, 2, .q (xb false)), (4, 9, 1, .q (xb false)), (4, 11, 2, .c (.tup [(dl zq v14.1.1 v14.1.2), (di v14.2)]))] ++ V) C (ob (o_b h12) (ob (o_b h13) (ob (z4h k p0 v8.1 _ h15) (ob (zhi k p0 p1 v1 v8 v10 v14 _ h17) q)))) h
    refine zn g10 (fun h18 g11 => ?_) (fun h18 g11 => ?_)
    ·subst h18
     exact zy (g := z7) g11 (y3 _ _ [] [(4, 1000003, (.nor, zI p0 p1 v1 v3 false)), (4, 1000012, (.nor, zdb p0 p1 v1 v8 v10 v14 true))] ob0 (by kernel_rfl))
    ·subst h18
     refine zj g11 (fun v19 h20 g12 => ?_)
     refine zPb g12 (fun v22 hh g13_0 => ?_) (fun v22 hh g13_0 => ?_)
     ·subst hh
      exact zy (g := z7) g13_0 (y3 _ _ [] [(4, 1000003, (.nor, zI p0 p1 v1 v3 false)), (4, 1000012, (.nor, zdb p0 p1 v1 v8 v10 v14 false)), (4, 0, (.ret, z4c p0 p1 v1 v8 v10 v14 v22))] (ob (zx (id := 0) (r' := (.ret, z4c p0 p1 v1 v8 v10 v14 v22)) (zSd (zEe k p0 p1 v1 v8 v10 v14) k _ _ h20) rfl) ob0) (by kernel_rfl))
     ·subst hh
      refine zj g13_0 (fun v23 h24 g14 => ?_)
      exact zy (g := z7) g14 (y3 _ _ [(4, 19, 0, .c (db v23))] [(4, 1000003, (.nor, zI p0 p1 v1 v3 false)), (4, 1000012, (.nor, zdb p0 p1 v1 v8 v10 v14 false)), (4, 0, (.nor, z5c p0 p1 v1 v8 v10 v14 v22))] (ob (zx (id := 0) (r' := (.nor, z5c p0 p1 v1 v8 v10 v14 v22)) (zSd (zEe k p0 p1 v1 v8 v10 v14) k _ _ h20) rfl) (ob (zoh k _ h24) ob0)) (by kernel_rfl))
end Go.AM

namespace Go.AM
open Go
def Ok {α : Type} (o : Option α) (Q : α → Prop) : Prop := ∃ a, o = some a ∧ Q a
section
variable {α β : Type}
theorem Ok.pure {a : α} {Q : α → Prop} (h : Q a) : Ok (some a) Q := ⟨a, rfl, h⟩
theorem Ok.bind {o : Option α} {g : α → Option β} {P : α → Prop} {Q : β → Prop} (h : Ok o P) (hg : ∀ a, P a → Ok (g a) Q) : Ok (o.bind g) Q := by
 obtain ⟨a, rfl, ha⟩ := h
 exact hg a ha
theorem Ok.mono {o : Option α} {P Q : α → Prop} (h : Ok o P) (hq : ∀ a, P a → Q a) : Ok o Q := by
 obtain ⟨a, ha, hp⟩ := h
 exact ⟨a, ha, hq a hp⟩
theorem Ok.cond {b : Bool} {x y : Option α} {Q : α → Prop} (ht : b = true → Ok x Q) (hf : b = false → Ok y Q) : Ok (cond b x y) Q := by
 cases b
 ·exact hf rfl
 ·exact ht rfl
theorem Ok.eq {o : Option α} {a : α} (h : Ok o (· = a)) : o = some a := by
 obtain ⟨b, hb, rfl⟩ := h
 exact hb
theorem Ok.imp {o : Option α} {a : α} {Q : α → Prop} (h : Ok o Q) (ho : o = some a) : Q a := by
 obtain ⟨b, hb, hq⟩ := h
 rw [ho] at hb; cases hb; exact hq
theorem Ok.iter {S R : Type} {f : S → Option (S ⊕ R)} {Q : R → Prop} (I : Nat → S → Prop) (n : Nat)
  (h : ∀ j s, j ≤ n → I j s → Ok (f s) (fun x => match x with
   | .inl s' => j < n ∧ I (j + 1) s'
   | .inr r => Q r)) {k : Nat} {s : S} (h0 : I 0 s) (hk : n < k) : Ok (Go.AM.iter f k s) Q := by
 suffices ∀ m j s, j + m = n → I j s → ∀ k, m < k → Ok (Go.AM.iter f k s) Q from this n 0 s (by omega) h0 k hk
 intro m
 induction m with
 | zero =>
  intro j s hj hi k hk
  obtain ⟨k, rfl⟩ : ∃ k', k = k' + 1 := ⟨k - 1, by omega⟩
  obtain ⟨x, hx, hq⟩ := h j s (by omega) hi
  cases x with
  | inl s' => exact absurd hq.1 (by omega)
  | inr r => exact ⟨r, by simp [Go.AM.iter, hx], hq⟩
 | succ m ih =>
  intro j s hj hi k hk
  obtain ⟨k, rfl⟩ : ∃ k', k = k' + 1 := ⟨k - 1, by omega⟩
  obtain ⟨x, hx, hq⟩ := h j s (by omega) hi
  cases x with
  | inl s' =>
   obtain ⟨r, hr, hq'⟩ := ih (j + 1) s' (by omega) hq.2 k (by omega)
   exact ⟨r, by simp [Go.AM.iter, hx, hr], hq'⟩
  | inr r => exact ⟨r, by simp [Go.AM.iter, hx], hq⟩
def Goes {S R : Type} (I : S → Prop) (Q : R → Prop) : S ⊕ R → Prop
 | .inl s => I s
 | .inr r => Q r
theorem Ok.count {S R : Type} {f : S → Option (S ⊕ R)} {Q : R → Prop} (n : Nat) (I : Nat → S → Prop)
  (next : ∀ j s, j < n → I j s → Ok (f s) (Goes (I (j + 1)) Q))
  (last : ∀ s, I n s → Ok (f s) (Goes (fun _ => False) Q)) {k : Nat} {s : S} (h0 : I 0 s) (hk : n < k) : Ok (Go.AM.iter f k s) Q := by
 refine Ok.iter I n (fun j s hj hi => ?_) h0 hk
 by_cases h : j < n
 ·refine (next j s h hi).mono fun x hx => ?_
  cases x with
  | inl s' => exact ⟨h, hx⟩
  | inr r => exact hx
 ·obtain rfl : j = n := by omega
  refine (last s hi).mono fun x hx => ?_
  cases x with
  | inl s' => exact hx.elim
  | inr r => exact hx
end
theorem zL {n : Int} (h1 : -9223372036854775808 ≤ n) (h2 : n ≤ 9223372036854775807) : w64 n = n := by
 have hd : w64 n = if n % 18446744073709551616 ≥ 9223372036854775808 then n % 18446744073709551616 - 18446744073709551616 else n % 18446744073709551616 := by
  show IntKind.wrap .i64 n = _
  have e : IntKind.wrap .i64 n = if (true && decide (n % 18446744073709551616 ≥ 9223372036854775808)) = true then n % 18446744073709551616 - 18446744073709551616 else n % 18446744073709551616 := rfl
  rw [e]
  simp
 rw [hd]
 split <;> omega
theorem zgz {α : Type} {l : List α} {i : Int} (h0 : 0 ≤ i) (h : i.toNat < l.length) : idx l i = some l[i.toNat] := by
 simp [idx, h0, List.getElem?_eq_getElem h]
theorem zcb {α : Type} {l : List α} {i : Nat} (h : i < l.length) : idx l (i : Int) = some l[i] := by
 simp [idx, List.getElem?_eq_getElem h]
theorem zBm {n : Nat} (h : n ≤ 62) : zo 1 (n : Int) = 2 ^ n := by
 unfold zo
 have hm : min (n : Int).toNat 64 = n := by omega
 rw [hm, Int.one_mul, zL]
 ·have : (0 : Int) < 2 ^ n := Int.pow_pos (by omega)
  omega
 ·have h2 : (2 : Nat) ^ n ≤ 2 ^ 62 := Nat.pow_le_pow_right (by omega) h
  have h3 : ((2 ^ n : Nat) : Int) ≤ ((2 ^ 62 : Nat) : Int) := by exact_mod_cast h2
  have h4 : ((2 ^ n : Nat) : Int) = (2 : Int) ^ n := by push_cast; rfl
  rw [← h4]; omega
theorem zlt {x i : Nat} (hi : i < 64) (hx : x < 2 ^ 63) : (zSc (zSi (x : Int) (i : Int)) 1 == 1) = x.testBit i := by
 have hm : min (i : Int).toNat 64 = i := by omega
 have hs : zSi (x : Int) (i : Int) = ((x >>> i : Nat) : Int) := by
  unfold zSi
  rw [hm, Nat.shiftRight_eq_div_pow]
  have : (2 : Int) ^ i = ((2 ^ i : Nat) : Int) := by push_cast; rfl
  rw [this, ← Int.ofNat_fdiv]
 have hle : x >>> i < 2 ^ 63 := by
  rw [Nat.shiftRight_eq_div_pow]
  exact Nat.lt_of_le_of_lt (Nat.div_le_self _ _) hx
 rw [hs]
 unfold zSc
 have hb : (BitVec.ofInt 64 ((x >>> i : Nat) : Int) &&& BitVec.ofInt 64 1).toNat = (x >>> i) % 2 := by
  rw [BitVec.toNat_and, BitVec.ofInt_natCast, BitVec.toNat_ofNat]
  have : (BitVec.ofInt 64 1).toNat = 1 := by decide
  rw [this, Nat.and_one_is_mod]
  omega
 rw [hb, zL (by omega) (by omega), Nat.testBit_eq_decide_div_mod_eq, Nat.shiftRight_eq_div_pow]
 generalize x / 2 ^ i % 2 = y at *
 cases h : decide (y = 1) <;> simp at h ⊢ <;> omega
def dif (x y : Nat) : Nat := x &&& (2 ^ 64 - 1 - y)
theorem zKm {x y : Nat} (hx : x < 2 ^ 63) (hy : y < 2 ^ 63) : zib (x : Int) (y : Int) = ((dif x y : Nat) : Int) ∧ dif x y < 2 ^ 63 ∧ dif x y ≤ x ∧ ∀ i, (dif x y).testBit i = (x.testBit i && !y.testBit i) := by
 unfold dif
 have hb : (BitVec.ofInt 64 (x : Int) &&& ~~~ BitVec.ofInt 64 (y : Int)).toNat = x &&& (2 ^ 64 - 1 - y) := by
  rw [BitVec.toNat_and, BitVec.toNat_not, BitVec.ofInt_natCast, BitVec.ofInt_natCast, BitVec.toNat_ofNat, BitVec.toNat_ofNat, Nat.mod_eq_of_lt (by omega), Nat.mod_eq_of_lt (by omega)]
 refine ⟨?_, ?_, ?_, ?_⟩
 ·unfold zib
  rw [hb, zL]
  ·omega
  ·have : x &&& (2 ^ 64 - 1 - y) ≤ x := Nat.and_le_left
   omega
 ·exact Nat.lt_of_le_of_lt Nat.and_le_left hx
 ·exact Nat.and_le_left
 ·intro i
  rw [Nat.testBit_and]
  have h1 : 2 ^ 64 - 1 - y = 2 ^ 64 - (y + 1) := by omega
  rw [h1, Nat.testBit_two_pow_sub_succ (by omega)]
  cases hxi : x.testBit i with
  | false => simp
  | true =>
   have : i < 63 := by
    apply Classical.byContradiction
    intro hn
    have : x < 2 ^ i := Nat.lt_of_lt_of_le hx (Nat.pow_le_pow_right (by omega) (by omega))
    rw [Nat.testBit_lt_two_pow this] at hxi
    cases hxi
   simp; omega
open Classical in
theorem zdu {κ ν : Type} {q : κ → κ → Bool} (hq : ∀ a b, q a b = true ↔ a = b) (k k' : κ) (v : ν) : ∀ m, zV q k' (mset q k v m) = if k' = k then some v else zV q k' m
 | [] => by
  simp only [mset, zV]
  by_cases h : k' = k
  ·rw [(hq k' k).2 h, if_pos h]; rfl
  ·have : q k' k = false := by cases hb : q k' k; rfl; exact absurd ((hq _ _).1 hb) h
   rw [this, if_neg h]; rfl
 | p :: t => by
  have ih := zdu hq k k' v t
  simp only [mset]
  cases hk : q k p.1 with
  | true =>
   have hk' := (hq _ _).1 hk
   simp only [cond_true, zV]
   by_cases h : k' = k
   ·rw [if_pos h, h, hk]; rfl
   ·have : q k' p.1 = false := by cases hb : q k' p.1; rfl; exact absurd ((hq _ _).1 hb) (by rw [← hk']; exact h)
    rw [this, if_neg h]; rfl
  | false =>
   simp only [cond_false, zV]
   cases hp : q k' p.1 with
   | true =>
    by_cases h : k' = k
    ·rw [h, hk] at hp; cases hp
    ·rw [if_neg h]; rfl
   | false => exact ih
end Go.AM
set_option linter.unusedVariables false
namespace Go.AM
open Go
theorem zve (c x : Bool) : cond c (some x) (some false) = some (c && x) := by cases c <;> rfl
theorem z6 {j n : Nat} (h : j < n) (hn : n < 9223372036854775808) : w64 ((j : Int) + 1) = ((j + 1 : Nat) : Int) := by
 rw [zL (by omega) (by omega)]; push_cast; rfl
theorem zCn {n : Nat} (hn : n < 9223372036854775808) : w64 ((n : Int) - 1) = (n : Int) - 1 := zL (by omega) (by omega)
theorem zFb {α : Type} {j : Nat} {l : List α} (h : j < l.length) : decide ((j : Int) < (l.length : Int)) = true := by simp; omega
theorem zkc {α : Type} {l : List α} : decide ((l.length : Int) < (l.length : Int)) = false := by simp
theorem Ok.everyI {α : Type} {f : Bool × Int → Option ((Bool × Int) ⊕ (Bool × Int))} (l : List α) (p : Nat → α → Prop)
  (next : ∀ acc (j : Nat) (h : j < l.length), Ok (f (acc, (j : Int))) (fun x => ∃ r, x = .inl (r, ((j + 1 : Nat) : Int)) ∧ (r = true ↔ acc = true ∧ p j l[j])))
  (last : ∀ acc, f (acc, (l.length : Int)) = some (.inr (acc, (l.length : Int)))) {k : Nat} {acc : Bool} (hk : l.length < k) :
  Ok (Go.AM.iter f k (acc, 0)) (fun r => r.1 = true ↔ acc = true ∧ ∀ j (h : j < l.length), p j l[j]) := by
 refine Ok.count l.length (fun j s => s.2 = (j : Int) ∧ (s.1 = true ↔ acc = true ∧ ∀ i (h : i < l.length), i < j → p i l[i])) ?_ ?_ ⟨rfl, by simp⟩ hk
 ·rintro j ⟨a, i⟩ hj ⟨hi, ha⟩
  obtain rfl : i = (j : Int) := hi
  refine (next a j hj).mono ?_
  rintro x ⟨r, rfl, hr⟩
  refine ⟨rfl, hr.trans ?_⟩
  rw [ha]
  constructor
  ·rintro ⟨⟨h1, h2⟩, h3⟩
   refine ⟨h1, fun i h hij => ?_⟩
   by_cases e : i = j
   ·subst e; exact h3
   ·exact h2 i h (by omega)
  ·rintro ⟨h1, h2⟩
   exact ⟨⟨h1, fun i h hij => h2 i h (by omega)⟩, h2 j hj (by omega)⟩
 ·rintro ⟨a, i⟩ ⟨hi, ha⟩
  obtain rfl : i = (l.length : Int) := hi
  rw [last a]
  refine Ok.pure ?_
  show a = true ↔ _
  rw [ha]
  exact ⟨fun h => ⟨h.1, fun i hi => h.2 i hi hi⟩, fun h => ⟨h.1, fun i hi _ => h.2 i hi⟩⟩
def ex (f : Nat → Nat) : Nat → List Nat
 | 0 => []
 | m + 1 => List.replicate (f m) m ++ ex f m
def hi (f : Nat → Nat) (m : Nat) : Nat → List Nat
 | 0 => []
 | d + 1 => List.replicate (f (m + d)) (m + d) ++ hi f m d
theorem zfu (f : Nat → Nat) (m : Nat) : ∀ d, hi f m (d + 1) = hi f (m + 1) d ++ List.replicate (f m) m
 | 0 => by simp [hi]
 | d + 1 => by
  have ih := zfu f m d
  rw [hi, ih, hi]
  have : m + 1 + d = m + (d + 1) := by omega
  rw [this, List.append_assoc]
theorem zIp {f g : Nat → Nat} {m : Nat} : ∀ {d}, (∀ j, m ≤ j → j < m + d → f j = g j) → hi f m d = hi g m d
 | 0, _ => rfl
 | d + 1, h => by
  rw [hi, hi, h (m + d) (by omega) (by omega), zIp fun j h1 h2 => h j h1 (by omega)]
theorem zxu {f g : Nat → Nat} : ∀ {n}, (∀ j, j < n → f j = g j) → ex f n = ex g n
 | 0, _ => rfl
 | n + 1, h => by rw [ex, ex, h n (by omega), zxu fun j hj => h j (by omega)]
theorem zhv (f : Nat → Nat) : ∀ n, hi f 0 n = ex f n
 | 0 => rfl
 | n + 1 => by rw [hi, ex, zhv f n]; simp
theorem zFr {f : Nat → Nat} : ∀ {n}, ex f n = [] ↔ ∀ j, j < n → f j = 0
 | 0 => by simp [ex]
 | n + 1 => by
  rw [ex, List.append_eq_nil_iff, zFr, List.replicate_eq_nil_iff]
  constructor
  ·rintro ⟨h1, h2⟩ j hj
   by_cases e : j = n
   ·rw [e]; exact h1
   ·exact h2 j (by omega)
  ·intro h
   exact ⟨h n (by omega), fun j hj => h j (by omega)⟩
theorem zgx {f : Nat → Nat} {x : Nat} : ∀ {n}, x ∈ ex f n → x < n ∧ 0 < f x
 | 0, h => by simp [ex] at h
 | n + 1, h => by
  rw [ex, List.mem_append, List.mem_replicate] at h
  rcases h with ⟨h1, rfl⟩ | h
  ·exact ⟨by omega, by omega⟩
  ·have := zgx h
   exact ⟨by omega, this.2⟩
theorem z3o {f : Nat → Nat} {b : Nat} : ∀ {n}, (∀ j, j < n → f j ≤ b) → (ex f n).length ≤ b * n
 | 0, _ => by simp [ex]
 | n + 1, h => by
  have := z3o (n := n) fun j hj => h j (by omega)
  have := h n (by omega)
  rw [ex, List.length_append, List.length_replicate, Nat.mul_succ]
  omega
theorem z9x (r c m : Nat) (t : List Nat) : (List.replicate c m ++ t).drop r = List.replicate (c - r) m ++ t.drop (r - c) := by
 rw [List.drop_append, List.drop_replicate, List.length_replicate]
theorem zxx (r c m : Nat) (t : List Nat) : (List.replicate c m ++ t).take r = List.replicate (min r c) m ++ t.take (r - c) := by
 rw [List.take_append, List.take_replicate, List.length_replicate]
def topF (b : Nat → Nat) (far : Nat → Int) : Nat → Int
 | 0 => 0
 | j + 1 => if 0 < b j then far j else topF b far j
theorem zZu {b : Nat → Nat} {far : Nat → Int} {x : Nat} {t : List Nat} : ∀ {n}, ex b n = x :: t → topF b far n = far x
 | 0, h => by simp [ex] at h
 | n + 1, h => by
  rw [ex] at h
  rw [topF]
  by_cases hb : 0 < b n
  ·rw [if_pos hb]
   obtain ⟨c, hc⟩ : ∃ c, b n = c + 1 := ⟨b n - 1, by omega⟩
   rw [hc, List.replicate_succ, List.cons_append] at h
   injection h with h1 h2
   rw [h1]
  ·rw [if_neg hb]
   have : b n = 0 := by omega
   rw [this] at h
   exact zZu (by simpa using h)
def wk (C : Nat) (far : Nat → Int) : Nat → List Nat → Int
 | _, [] => 0
 | 0, x :: t => 2 * far x + wk C far (C - 1) t
 | r + 1, _ :: t => wk C far r t
theorem z6u (C : Nat) (far : Nat → Int) : ∀ (r : Nat) (l : List Nat), wk C far r l = wk C far 0 (l.drop r)
 | 0, _ => by simp
 | r + 1, [] => by simp [wk]
 | r + 1, x :: t => by rw [wk, List.drop_succ_cons, z6u C far r t]
theorem zYy {C : Nat} (hC : 0 < C) (far : Nat → Int) (x : Nat) (t : List Nat) : wk C far 0 (x :: t) = 2 * far x + wk C far 0 ((x :: t).drop C) := by
 rw [wk, z6u C far (C - 1) t]
 obtain ⟨c, rfl⟩ : ∃ c, C = c + 1 := ⟨C - 1, by omega⟩
 simp
theorem zDl {C : Nat} {far : Nat → Int} {b : Int} (hb : 0 ≤ b) : ∀ (l : List Nat) (r : Nat), (∀ x ∈ l, 0 ≤ far x ∧ far x ≤ b) → 0 ≤ wk C far r l ∧ wk C far r l ≤ 2 * b * l.length
 | [], r, _ => by cases r <;> simp [wk]
 | x :: t, 0, h => by
  have := zDl (C := C) hb t (C - 1) fun y hy => h y (by simp [hy])
  have hx := h x (by simp)
  rw [wk, List.length_cons]
  push_cast
  rw [Int.mul_add]
  omega
 | x :: t, r + 1, h => by
  have := zDl (C := C) hb t r fun y hy => h y (by simp [hy])
  rw [wk, List.length_cons]
  push_cast
  rw [Int.mul_add]
  omega
end Go.AM
set_option linter.unusedVariables false
namespace Go.AM
open Go
abbrev nF (f : zd) : Nat := f.Far.1.length
abbrev nS (f : zd) : Nat := f.Slips.1.length
def fr (f : zd) (i : Nat) : Int := (f.Far.1[i]?).getD 0
theorem zTz {f : zd} {i : Nat} (h : i < nF f) : f.Far.1[i] = fr f i := by
 unfold fr
 rw [List.getElem?_eq_getElem h]; rfl
theorem zep {f : zd} {i : Nat} (h : i < nF f) : idx f.Far.1 (i : Int) = some (fr f i) := by rw [zcb h, zTz h]
def frB (f : zd) : Nat → Int
 | 0 => 0
 | i + 1 => fr f i
def sh (l : List zk) (i : Nat) : Int := ((l[i]?).map (·.Shelf)).getD 0
def shB (l : List zk) : Nat → Int
 | 0 => -1
 | i + 1 => sh l i
theorem z4i {l : List zk} {i : Nat} (h : i < l.length) : l[i].Shelf = sh l i := by
 unfold sh
 rw [List.getElem?_eq_getElem h]; rfl
def zOb (lo hi : Int) (s : zp) : Prop := lo ≤ s.Low ∧ s.Low ≤ s.High ∧ s.High ≤ hi
def zrc (n : Nat) (l : List zk) : Prop := ∀ j (h : j < l.length), (shB l j + 1 ≤ l[j].Shelf ∧ l[j].Shelf ≤ (n : Int) - 1) ∧ (1 ≤ l[j].Many ∧ l[j].Many ≤ 20)
def zYd (n : Nat) (s : zm) : Prop := ((0 ≤ s.Until ∧ s.Until ≤ 100000) ∧ 0 < s.Lines.1.length) ∧ zrc n s.Lines.1
structure Fine (f : zd) : Prop where
 nfar : 1 ≤ nF f ∧ nF f ≤ 12
 npick : f.Pick.1.length = nF f
 step : zOb 1 10 f.Step
 carry : 1 ≤ f.Carry ∧ f.Carry ≤ 20
 nslips : nS f ≤ 9
 far : ∀ i, i < nF f → frB f i ≤ fr f i ∧ fr f i ≤ 500
 pick : ∀ i (h : i < f.Pick.1.length), zOb 0 300 f.Pick.1[i]
 slips : ∀ i (h : i < nS f), zYd (nF f) f.Slips.1[i]
structure zeb (f : zd) : Prop where
 far : nF f < 9223372036854775808
 pick : f.Pick.1.length < 9223372036854775808
 slips : nS f < 9223372036854775808
 lines : ∀ s ∈ f.Slips.1, s.Lines.1.length < 9223372036854775808
structure Fuel (k : Nat) (f : zd) : Prop where
 k0 : 5000 < k
 far : nF f < k
 pick : f.Pick.1.length < k
 slips : nS f < k
 lines : ∀ s ∈ f.Slips.1, s.Lines.1.length < k
theorem z6h (k : Nat) (a b c : Int) : ztb k a b c = some (decide (b ≤ a) && decide (a ≤ c)) := by
 simp only [ztb, zve]
theorem zij (k : Nat) (a b c : Int) : zY k a b c = some (decide (b ≤ a) && decide (a ≤ c)) := by
 simp only [zY, zve]
theorem zIs (k : Nat) (s : zp) (a b : Int) : zig k s a b = some (decide (a ≤ s.Low) && (decide (s.Low ≤ s.High) && decide (s.High ≤ b))) := by
 simp only [zig, zve]
theorem zts (k : Nat) (s : zp) (a b : Int) : zdc k s a b = some (decide (a ≤ s.Low) && (decide (s.Low ≤ s.High) && decide (s.High ≤ b))) := by
 simp only [zdc, zve]
theorem zAx (k : Nat) (f : zd) : Ok (zbg k f) (fun r => r = true ↔ (1 ≤ nF f ∧ nF f ≤ 12) ∧ f.Pick.1.length = nF f ∧ zOb 1 10 f.Step ∧ (1 ≤ f.Carry ∧ f.Carry ≤ 20) ∧ nS f ≤ 9) := by
 simp only [zbg, z6h, zIs, Option.bind_some, zve]
 refine Ok.pure ?_
 simp only [Bool.and_eq_true, decide_eq_true_eq, beq_iff_eq, nF, nS, zOb]
 omega
theorem z0x {k : Nat} {f : zd} (hs : zeb f) (hk : Fuel k f) (acc : Bool) : Ok (iter (fun s => zOe k f s.1 s.2.1 s.2.2) k (acc, 0, 0)) (fun r => r.1 = true ↔ acc = true ∧ ∀ i, i < nF f → frB f i ≤ fr f i ∧ fr f i ≤ 500) := by
 refine Ok.count (nF f) (fun j s => s.2.2 = (j : Int) ∧ s.2.1 = frB f j ∧ (s.1 = true ↔ acc = true ∧ ∀ i, i < j → frB f i ≤ fr f i ∧ fr f i ≤ 500)) ?_ ?_ ⟨rfl, rfl, by simp⟩ hk.far
 ·rintro j ⟨a, d, i⟩ hj ⟨hi, hd, ha⟩
  obtain rfl : i = (j : Int) := hi
  obtain rfl : d = frB f j := hd
  simp only [zOe, zwh, zFb hj, cond_true, zep hj, z6h, Option.bind_some, zve, z6 hj hs.far]
  refine Ok.pure ⟨rfl, rfl, ?_⟩
  simp only [Bool.and_eq_true, decide_eq_true_eq]
  have ha' : a = true ↔ acc = true ∧ ∀ i, i < j → frB f i ≤ fr f i ∧ fr f i ≤ 500 := ha
  rw [ha']
  constructor
  ·rintro ⟨⟨h1, h2⟩, h3⟩
   refine ⟨h1, fun i hij => ?_⟩
   by_cases e : i = j
   ·subst e; exact h3
   ·exact h2 i (by omega)
  ·rintro ⟨h1, h2⟩
   exact ⟨⟨h1, fun i hij => h2 i (by omega)⟩, h2 j (by omega)⟩
 ·rintro ⟨a, d, i⟩ ⟨hi, hd, ha⟩
  obtain rfl : i = (nF f : Int) := hi
  simp only [zOe, zkc, cond_false]
  exact Ok.pure ha
theorem zux {k : Nat} {f : zd} (hs : zeb f) (hk : Fuel k f) (v : Bool × Int × Int) (acc : Bool) : Ok (iter (fun s => zQe k f v s.1 s.2) k (acc, 0)) (fun r => r.1 = true ↔ acc = true ∧ ∀ i (h : i < f.Pick.1.length), zOb 0 300 f.Pick.1[i]) := by
 refine Ok.everyI f.Pick.1 (fun _ s => zOb 0 300 s) (fun a j hj => ?_) (fun a => by simp [zQe]) hk.pick
 simp only [zQe, zuh, zFb hj, cond_true, zcb hj, zIs, Option.bind_some, zve]
 refine Ok.pure ⟨_, by rw [z6 hj hs.pick], ?_⟩
 simp only [Bool.and_eq_true, decide_eq_true_eq, zOb]
theorem z7r {l : List zk} : ∀ {j}, j ≤ l.length → (∀ i (h : i < l.length), i < j → shB l i + 1 ≤ l[i].Shelf) → -1 ≤ shB l j
 | 0, _, _ => by simp [shB]
 | j + 1, hj, h => by
  have ih := z7r (j := j) (by omega) fun i hi hij => h i hi (by omega)
  have := h j (by omega) (by omega)
  rw [z4i (by omega)] at this
  simp only [shB]
  omega
theorem zoq {n : Nat} {l : List zk} (h : zrc n l) : ∀ i, i < l.length → (i : Int) ≤ sh l i
 | 0, hi => by
  have := (h 0 hi).1.1
  rw [z4i hi] at this
  simpa [shB] using this
 | i + 1, hi => by
  have ih := zoq h i (by omega)
  have := (h (i + 1) hi).1.1
  rw [z4i hi] at this
  simp only [shB] at this
  push_cast
  omega
theorem z3h {n : Nat} {l : List zk} (h : zrc n l) : l.length ≤ n := by
 cases hl : l.length with
 | zero => omega
 | succ m =>
  have h1 := zoq h m (by omega)
  have h2 := (h m (by omega)).1.2
  rw [z4i (by omega)] at h2
  omega
theorem zOw {k : Nat} {f : zd} (hs : zeb f) (v3 : Bool × Int × Int) (v5 : Bool × Int) (i0 : Int) (s : zm) (hl : s.Lines.1.length < 9223372036854775808) (hlk : s.Lines.1.length < k) (acc : Bool) (hn : acc = true → nF f ≤ 12) :
  Ok (iter (fun t => zme k f v3 v5 i0 s t.1 t.2.1 t.2.2) k (acc, (-1), 0)) (fun r => r.1 = true ↔ acc = true ∧ zrc (nF f) s.Lines.1) := by
 let P := fun i (h : i < s.Lines.1.length) => (shB s.Lines.1 i + 1 ≤ s.Lines.1[i].Shelf ∧ s.Lines.1[i].Shelf ≤ (nF f : Int) - 1) ∧ (1 ≤ s.Lines.1[i].Many ∧ s.Lines.1[i].Many ≤ 20)
 refine Ok.count s.Lines.1.length (fun j t => t.2.2 = (j : Int) ∧ t.2.1 = shB s.Lines.1 j ∧ (t.1 = true ↔ acc = true ∧ ∀ i (h : i < s.Lines.1.length), i < j → P i h)) ?_ ?_ ⟨rfl, rfl, by simp⟩ hlk
 ·rintro j ⟨a, d, i⟩ hj ⟨hi, hd, ha⟩
  obtain rfl : i = (j : Int) := hi
  obtain rfl : d = shB s.Lines.1 j := hd
  simp only [zme, zYg, zFb hj, cond_true, zcb hj, z6h, Option.bind_some, zve, z6 hj hl, zCn hs.far]
  refine Ok.pure ⟨rfl, by rw [z4i hj]; rfl, ?_⟩
  simp only [Bool.and_eq_true, decide_eq_true_eq]
  cases a with
  | false =>
   constructor
   ·rintro ⟨h, _⟩; cases h
   ·rintro ⟨h1, h2⟩
    exact absurd (ha.2 ⟨h1, fun i h hij => h2 i h (by omega)⟩) (by simp)
  | true =>
   obtain ⟨h1, h2⟩ := ha.1 rfl
   have hw : w64 (shB s.Lines.1 j + 1) = shB s.Lines.1 j + 1 := by
    have hlow := z7r (l := s.Lines.1) (j := j) (by omega) fun i hi hij => (h2 i hi hij).1.1
    have hn := hn h1
    have hup : shB s.Lines.1 j ≤ 12 := by
     cases j with
     | zero => simp [shB]
     | succ j =>
      have := (h2 j (by omega) (by omega)).1.2
      rw [z4i (by omega)] at this
      simp only [shB]
      have : ((nF f : Nat) : Int) ≤ 12 := by exact_mod_cast hn
      omega
    exact zL (by omega) (by omega)
   rw [hw]
   constructor
   ·rintro ⟨_, h3⟩
    refine ⟨h1, fun i h hij => ?_⟩
    by_cases e : i = j
    ·subst e; exact h3
    ·exact h2 i h (by omega)
   ·rintro ⟨_, h3⟩
    exact ⟨rfl, h3 j hj (by omega)⟩
 ·rintro ⟨a, d, i⟩ ⟨hi, hd, ha⟩
  obtain rfl : i = (s.Lines.1.length : Int) := hi
  simp only [zme, zkc, cond_false]
  refine Ok.pure ?_
  show a = true ↔ _
  have ha' : a = true ↔ acc = true ∧ ∀ i (h : i < s.Lines.1.length), i < s.Lines.1.length → P i h := ha
  rw [ha']
  exact ⟨fun h => ⟨h.1, fun i hi => h.2 i hi hi⟩, fun h => ⟨h.1, fun i hi _ => h.2 i hi⟩⟩
theorem zRx {k : Nat} {f : zd} (hs : zeb f) (hk : Fuel k f) (v3 : Bool × Int × Int) (v5 : Bool × Int) (acc : Bool) (hn : acc = true → nF f ≤ 12) : Ok (iter (fun s => zTe k f v3 v5 s.1 s.2) k (acc, 0)) (fun r => r.1 = true ↔ acc = true ∧ ∀ i (h : i < nS f), zYd (nF f) f.Slips.1[i]) := by
 refine Ok.count (nS f) (fun j s => s.2 = (j : Int) ∧ (s.1 = true ↔ acc = true ∧ ∀ i (h : i < nS f), i < j → zYd (nF f) f.Slips.1[i])) ?_ ?_ ⟨rfl, by simp⟩ hk.slips
 ·rintro j ⟨a, i⟩ hj ⟨hi, ha⟩
  obtain rfl : i = (j : Int) := hi
  have hm := List.getElem_mem hj
  simp only [zTe, z5g, zFb hj, cond_true, zcb hj, z6h, Option.bind_some, zve]
  refine Ok.bind (zOw hs v3 v5 _ _ (hs.lines _ hm) (hk.lines _ hm) _ fun h => ?_) fun r hr => ?_
  ·simp only [Bool.and_eq_true] at h
   exact hn (ha.1 h.1).1
  ·refine Ok.pure ⟨by rw [z6 hj hs.slips], ?_⟩
   show r.1 = true ↔ _
   rw [hr]
   simp only [Bool.and_eq_true, decide_eq_true_eq]
   have ha' : a = true ↔ acc = true ∧ ∀ i (h : i < nS f), i < j → zYd (nF f) f.Slips.1[i] := ha
   rw [ha']
   constructor
   ·rintro ⟨⟨⟨h1, h5⟩, h2, h3⟩, h4⟩
    refine ⟨h1, fun i h hij => ?_⟩
    by_cases e : i = j
    ·subst e; exact ⟨⟨h2, by omega⟩, h4⟩
    ·exact h5 i h (by omega)
   ·rintro ⟨h1, h2⟩
    obtain ⟨⟨h3, h4⟩, h5⟩ := h2 j hj (by omega)
    exact ⟨⟨⟨h1, fun i h hij => h2 i h (by omega)⟩, h3, by omega⟩, h5⟩
 ·rintro ⟨a, i⟩ ⟨hi, ha⟩
  obtain rfl : i = (nS f : Int) := hi
  simp only [zTe, zkc, cond_false]
  refine Ok.pure ?_
  show a = true ↔ _
  have ha' : a = true ↔ acc = true ∧ ∀ i (h : i < nS f), i < nS f → zYd (nF f) f.Slips.1[i] := ha
  rw [ha']
  exact ⟨fun h => ⟨h.1, fun i hi => h.2 i hi hi⟩, fun h => ⟨h.1, fun i hi _ => h.2 i hi⟩⟩
open Classical in
theorem zBu {k : Nat} {f : zd} (hs : zeb f) (hk : Fuel k f) : Ok (zRc k f) (fun r => r = if Fine f then 0 else 30) := by
 unfold zRc
 refine Ok.bind (zAx k f) fun v1 h1 => ?_
 refine Ok.bind (z0x hs hk v1) fun v3 h3 => ?_
 refine Ok.bind (zux hs hk v3 v3.1) fun v5 h5 => ?_
 refine Ok.bind (zRx hs hk v3 v5 v5.1 fun h => ?_) fun v7 h7 => ?_
 ·exact (h1.1 (h3.1 (h5.1 h).1).1).1.2
 have fin : v7.1 = true ↔ Fine f := by
  rw [h7, h5, h3, h1]
  exact ⟨fun h => ⟨h.1.1.1.1, h.1.1.1.2.1, h.1.1.1.2.2.1, h.1.1.1.2.2.2.1, h.1.1.1.2.2.2.2, h.1.1.2, h.1.2, h.2⟩, fun h => ⟨⟨⟨⟨h.nfar, h.npick, h.step, h.carry, h.nslips⟩, h.far⟩, h.pick⟩, h.slips⟩⟩
 refine Ok.cond (fun hb => Ok.pure ?_) (fun hb => Ok.pure ?_)
 ·rw [if_neg]
  intro hF
  rw [fin.2 hF] at hb
  cases hb
 ·rw [if_pos (fin.1 (by simpa using hb))]
theorem zPw {f : zd} (h : Fine f) : ∀ i, i < nF f → 0 ≤ fr f i
 | 0, hi => by have := (h.far 0 hi).1; simpa [frB] using this
 | i + 1, hi => by
  have := (h.far (i + 1) hi).1
  have ih := zPw h i (by omega)
  simp only [frB] at this
  omega
end Go.AM
set_option linter.unusedVariables false
namespace Go.AM
open Go
theorem zjs (f g : Nat → Int) : ∀ n i, eqI f g i n = true ↔ ∀ j, i ≤ j → j < i + n → f j = g j
 | 0, i => by simp [eqI]; omega
 | n + 1, i => by
  simp only [eqI, Bool.and_eq_true, zjs f g n (i + 1), beq_iff_eq]
  constructor
  ·rintro ⟨h0, h⟩ j h1 h2
   by_cases hj : j = i
   ·rw [hj]; exact h0
   ·exact h j (by omega) (by omega)
  ·intro h
   exact ⟨h i (by omega) (by omega), fun j h1 h2 => h j (by omega) (by omega)⟩
def put1 (g : Nat → Nat) (x : zk) : Nat → Nat := fun j => if j = x.Shelf.toNat then x.Many.toNat else g j
def pc (l : List zk) : Nat → Nat := l.foldl put1 fun _ => 0
theorem zns (l : List zk) (x : zk) : pc (l ++ [x]) = put1 (pc l) x := by simp [pc]
def slp (f : zd) (i : Nat) : zm := (f.Slips.1[i]?).getD ⟨([], .nil), 0⟩
theorem zIo {f : zd} {i : Nat} (h : i < nS f) : f.Slips.1[i] = slp f i := by
 unfold slp
 rw [List.getElem?_eq_getElem h]; rfl
theorem zPe {f : zd} {i : Nat} (h : i < nS f) : idx f.Slips.1 (i : Int) = some (slp f i) := by rw [zcb h, zIo h]
theorem zaf {f : zd} (hF : Fine f) {i : Nat} (h : i < nS f) : zYd (nF f) (slp f i) := by
 have := hF.slips i h
 rwa [zIo h] at this
abbrev lns (f : zd) (i : Nat) : List zk := (slp f i).Lines.1
theorem zbi {n : Nat} {l : List zk} (h : zrc n l) {i : Nat} (hi : i < l.length) : 0 ≤ l[i].Shelf ∧ l[i].Shelf < n := by
 have h1 := zoq h i hi
 rw [← z4i hi] at h1
 have := (h i hi).1.2
 omega
theorem zKw {n : Nat} {l : List zk} (h : zrc n l) : (∀ j, pc l j ≤ 20) ∧ ∀ j, n ≤ j → pc l j = 0 := by
 have key : ∀ m, m ≤ l.length → (∀ j, pc (l.take m) j ≤ 20) ∧ ∀ j, n ≤ j → pc (l.take m) j = 0 := by
  intro m
  induction m with
  | zero => intro _; simp [pc]
  | succ m ih =>
   intro hm
   obtain ⟨h1, h2⟩ := ih (by omega)
   rw [List.take_succ_eq_append_getElem (by omega), zns]
   have hl := h m (by omega)
   have hs := zbi h (i := m) (by omega)
   refine ⟨fun j => ?_, fun j hj => ?_⟩
   ·unfold put1
    split
    ·omega
    ·exact h1 j
   ·unfold put1
    rw [if_neg (by omega)]
    exact h2 j hj
 have := key l.length (Nat.le_refl _)
 rwa [List.take_length] at this
theorem ziw {k : Nat} {f : zd} (hs : zeb f) (hk : Fuel k f) (hF : Fine f) {i : Nat} (hi : i < nS f) : Ok (zoc k ⟨f⟩ (i : Int)) (fun g => ∀ j, g j = ((pc (lns f i) j : Nat) : Int)) := by
 unfold zoc
 have hm := List.getElem_mem hi
 rw [zIo hi] at hm
 have hfine := zaf hF hi
 simp only [zPe hi, Option.bind_some]
 refine Ok.bind (P := fun v : Int × (Nat → Int) => ∀ j, v.2 j = ((pc (lns f i) j : Nat) : Int)) ?_ fun v hv => Ok.pure hv
 refine Ok.count (lns f i).length (fun j s => s.1 = (j : Int) ∧ ∀ t, s.2 t = ((pc ((lns f i).take j) t : Nat) : Int)) ?_ ?_ ⟨rfl, by simp [pc]⟩ (hk.lines _ hm)
 ·rintro j ⟨a, g⟩ hj ⟨ha, hg⟩
  obtain rfl : a = (j : Int) := ha
  have hl : (shB (lns f i) j + 1 ≤ (lns f i)[j].Shelf ∧ _) ∧ (1 ≤ (lns f i)[j].Many ∧ (lns f i)[j].Many ≤ 20) := hfine.2 j hj
  have hsh : 0 ≤ (lns f i)[j].Shelf ∧ (lns f i)[j].Shelf < nF f := zbi hfine.2 hj
  have hn := hF.nfar.2
  simp only [zad, zFb hj, cond_true, zcb hj, Option.bind_some]
  have e : (decide (0 ≤ (lns f i)[j].Shelf) && decide ((lns f i)[j].Shelf < 12)) = true := by
   simp only [Bool.and_eq_true, decide_eq_true_eq]; omega
  rw [e, cond_true]
  refine Ok.pure ⟨z6 hj (hs.lines _ hm), fun t => ?_⟩
  rw [List.take_succ_eq_append_getElem hj, zns]
  simp only [upd, put1]
  have hg' := hg t
  simp only at hg'
  split
  ·omega
  ·exact hg'
 ·rintro ⟨a, g⟩ ⟨ha, hg⟩
  obtain rfl : a = ((lns f i).length : Int) := ha
  simp only [zad, zkc, cond_false]
  refine Ok.pure fun t => ?_
  have := hg t
  rwa [List.take_length] at this
def zZ (f : zd) (i : Nat) : Int := wk f.Carry.toNat (fr f) 0 (ex (pc (lns f i)) (nF f))
theorem z5w {f : zd} (hF : Fine f) {i : Nat} (h : i < nF f) : 0 ≤ fr f i ∧ fr f i ≤ 500 := ⟨zPw hF i h, (hF.far i h).2⟩
theorem zur {f : zd} (hF : Fine f) {g : Nat → Nat} : ∀ x ∈ ex g (nF f), 0 ≤ fr f x ∧ fr f x ≤ 500 := fun x hx => z5w hF (zgx hx).1
theorem zvk {f : zd} (hF : Fine f) {i : Nat} (hi : i < nS f) : 0 ≤ zZ f i ∧ zZ f i ≤ 240000 := by
 have h1 := zKw (zaf hF hi).2
 have h2 := z3o (f := pc (lns f i)) (b := 20) (n := nF f) fun j _ => h1.1 j
 have h3 := zDl (C := f.Carry.toNat) (b := 500) (by omega) (ex (pc (lns f i)) (nF f)) 0 (zur hF)
 have h4 := hF.nfar.2
 unfold zZ
 have : ((ex (pc (lns f i)) (nF f)).length : Int) ≤ 240 := by
  have : 20 * nF f ≤ 240 := by omega
  omega
 omega
theorem zbw (k : Nat) : zpf k = some fun _ => 0 := rfl
theorem zrx {k : Nat} {f : zd} (hk : Fuel k f) (hF : Fine f) (i : Int) (v1 : (SL Int) × Int × Int × (SL zp) × Int × (SL zm) × Int) (n : Int) {g : Nat → Int} {lf : Nat → Nat} (hg : ∀ t, t < 12 → g t = ((lf t : Nat) : Int)) (h20 : ∀ t, lf t ≤ 20) :
  Ok (iter (fun s => zuc k ⟨f⟩ i v1 n s.1 s.2.1 s.2.2.1 s.2.2.2) k (f.Carry, (nF f : Int) - 1, g, fun _ => 0)) (fun r => ∃ a b : Nat → Nat, (∀ t, t < 12 → r.2.2.1 t = ((a t : Nat) : Int)) ∧ (∀ t, t < 12 → r.2.2.2 t = ((b t : Nat) : Int)) ∧
   ex a (nF f) = (ex lf (nF f)).drop f.Carry.toNat ∧ ex b (nF f) = (ex lf (nF f)).take f.Carry.toNat ∧ (∀ t, nF f ≤ t → a t = lf t) ∧ (∀ t, a t ≤ lf t) ∧ ∀ t, nF f ≤ t → b t = 0) := by
 have hC := hF.carry
 refine Ok.count (nF f) (fun j s => ∃ m r : Nat, m + j = nF f ∧ s.2.1 = (m : Int) - 1 ∧ s.1 = (r : Int) ∧ r ≤ 20 ∧ ∃ a b : Nat → Nat, (∀ t, t < 12 → s.2.2.1 t = ((a t : Nat) : Int)) ∧ (∀ t, t < 12 → s.2.2.2 t = ((b t : Nat) : Int)) ∧
   (∀ t, t < m → a t = lf t ∧ b t = 0) ∧ (ex lf (nF f)).drop f.Carry.toNat = hi a m j ++ (ex lf m).drop r ∧ (ex lf (nF f)).take f.Carry.toNat = hi b m j ++ (ex lf m).take r ∧ (∀ t, nF f ≤ t → a t = lf t) ∧ (∀ t, a t ≤ lf t) ∧ ∀ t, nF f ≤ t → b t = 0) ?_ ?_ ?_ hk.far
 ·rintro j ⟨s1, s2, s3, s4⟩ hj ⟨m, r, hm, h2, h1, hr, a, b, ha, hb, hlow, hd, ht, hx, hle, hy⟩
  obtain ⟨m, rfl⟩ : ∃ m', m = m' + 1 := ⟨m - 1, by omega⟩
  have hn := hF.nfar.2
  obtain rfl : s2 = (m : Int) := by simp only at h2; omega
  obtain rfl : s1 = (r : Int) := h1
  simp only [zuc]
  have e1 : decide ((m : Int) ≥ 0) = true := by simp
  have e2 : decide ((m : Int) < 12) = true := by simp; omega
  have e3 : s3 m = ((lf m : Nat) : Int) := by
   have := ha m (by omega)
   simp only at this
   rw [this, (hlow m (by omega)).1]
  have e4 : (if s3 m < (r : Int) then s3 m else (r : Int)) = ((min r (lf m) : Nat) : Int) := by
   rw [e3]
   split <;> omega
  have hb20 := h20 m
  simp only [e1, e2, Bool.and_self, cond_true, Int.toNat_natCast, e4]
  rw [e3, zL (by omega) (by omega), zL (by omega) (by omega), zL (by omega) (by omega)]
  refine Ok.pure ⟨m, r - min r (lf m), by omega, rfl, by show _ = _; omega, by omega, fun t => if t = m then lf m - r else a t, fun t => if t = m then min r (lf m) else b t, fun t ht => ?_, fun t ht => ?_, fun t ht => ?_, ?_, ?_, fun t ht => ?_, fun t => ?_, fun t ht => ?_⟩
  ·simp only [upd]
   split
   ·omega
   ·exact ha t ht
  ·simp only [upd]
   split
   ·rfl
   ·exact hb t ht
  ·dsimp only
   rw [if_neg (by omega), if_neg (by omega)]
   exact hlow t (by omega)
  ·rw [hd, zfu, ex, z9x, ← List.append_assoc]
   rw [if_pos rfl]
   have : r - min r (lf m) = r - lf m := by omega
   rw [this, zIp (g := a) (m := m + 1) (fun t h1 h2 => if_neg (by omega))]
  ·rw [ht, zfu, ex, zxx, ← List.append_assoc]
   rw [if_pos rfl]
   have : r - min r (lf m) = r - lf m := by omega
   rw [this, zIp (g := b) (m := m + 1) (fun t h1 h2 => if_neg (by omega))]
  ·dsimp only; rw [if_neg (by omega)]; exact hx t ht
  ·dsimp only
   split
   ·rename_i e; subst e; omega
   ·exact hle t
  ·dsimp only; rw [if_neg (by omega)]; exact hy t ht
 ·rintro ⟨s1, s2, s3, s4⟩ ⟨m, r, hm, h2, h1, hr, a, b, ha, hb, hlow, hd, ht, hx, hle, hy⟩
  obtain rfl : m = 0 := by omega
  obtain rfl : s2 = -1 := by simp only at h2; omega
  simp only [zuc]
  have e1 : decide ((-1 : Int) ≥ 0) = false := by decide
  rw [e1, cond_false]
  rw [zhv] at hd ht
  simp only [ex, List.drop_nil, List.take_nil, List.append_nil] at hd ht
  exact Ok.pure ⟨a, b, ha, hb, hd.symm, ht.symm, hx, hle, hy⟩
 ·refine ⟨nF f, f.Carry.toNat, by omega, rfl, by show f.Carry = _; omega, by omega, lf, fun _ => 0, hg, fun _ _ => rfl, fun t _ => ⟨rfl, rfl⟩, by simp [hi], by simp [hi], fun _ _ => rfl, fun _ => Nat.le_refl _, fun _ _ => rfl⟩
theorem zNx {k : Nat} {f : zd} (hs : zeb f) (hk : Fuel k f) (hF : Fine f) (i : Int) (v1 : (SL Int) × Int × Int × (SL zp) × Int × (SL zm) × Int) (n : Int) (v : Int × Int × (Nat → Int) × (Nat → Int)) {b : Nat → Nat} (hb : ∀ t, t < 12 → v.2.2.2 t = ((b t : Nat) : Int)) :
  Ok (iter (fun s => zAc k ⟨f⟩ i v1 n v s.1 s.2) k (0, 0)) (fun r => r.1 = topF b (fr f) (nF f)) := by
 have hn := hF.nfar.2
 refine Ok.count (nF f) (fun j s => s.2 = (j : Int) ∧ s.1 = topF b (fr f) j) ?_ ?_ ⟨rfl, rfl⟩ hk.far
 ·rintro j ⟨s1, s2⟩ hj ⟨h2, h1⟩
  obtain rfl : s2 = (j : Int) := h2
  obtain rfl : s1 = _ := h1
  simp only [zAc, zCe, zFb hj, cond_true, Int.toNat_natCast]
  have e2 : (decide (0 ≤ (j : Int)) && decide ((j : Int) < 12)) = true := by simp; omega
  have e3 : decide (v.2.2.2 j > 0) = decide (0 < b j) := by
   rw [hb j (by omega)]
   simp
  rw [e2, cond_true, e3, zep hj]
  simp only [Option.bind_some]
  cases hbj : decide (0 < b j) with
  | true =>
   simp only [cond_true, Option.bind_some]
   refine Ok.pure ⟨z6 hj hs.far, ?_⟩
   show fr f j = _
   rw [topF, if_pos (by simpa using hbj)]
  | false =>
   simp only [cond_false, Option.bind_some]
   refine Ok.pure ⟨z6 hj hs.far, ?_⟩
   show topF b (fr f) j = _
   rw [topF, if_neg (by simpa using hbj)]
 ·rintro ⟨s1, s2⟩ ⟨h2, h1⟩
  obtain rfl : s2 = (nF f : Int) := h2
  simp only [zAc, zkc, cond_false]
  exact Ok.pure h1
theorem zMt {k : Nat} {f : zd} (hs : zeb f) (hk : Fuel k f) (hF : Fine f) {i : Nat} (hi : i < nS f) : Ok (zTc k ⟨f⟩ (i : Int)) (fun r => r = zZ f i) := by
 unfold zTc zxe
 simp only [Option.bind_some]
 refine Ok.bind (ziw hs hk hF hi) fun g hg => ?_
 have hpc := zKw (zaf hF hi).2
 have hW := zvk hF hi
 have hlen : (ex (pc (lns f i)) (nF f)).length ≤ 240 := by
  have := z3o (f := pc (lns f i)) (b := 20) (n := nF f) fun j _ => hpc.1 j
  have := hF.nfar.2
  omega
 have hC := hF.carry
 refine Ok.bind (P := fun v : (Nat → Int) × Int => v.2 = zZ f i) ?_ fun v hv => Ok.pure hv
 refine Ok.iter (fun j s => ∃ lf : Nat → Nat, (∀ t, t < 12 → s.1 t = ((lf t : Nat) : Int)) ∧ (∀ t, lf t ≤ 20) ∧ (∀ t, nF f ≤ t → lf t = 0) ∧ 0 ≤ s.2 ∧ s.2 + wk f.Carry.toNat (fr f) 0 (ex lf (nF f)) = zZ f i ∧ (ex lf (nF f)).length + j ≤ 240) 240 ?_ ⟨pc (lns f i), fun t _ => hg t, hpc.1, hpc.2, Int.le_refl _, by simp [zZ], by omega⟩ (by have := hk.k0; omega)
 rintro j ⟨s1, s2⟩ hj ⟨lf, h1, h20, hz, h0, hw, hl⟩
 simp only [zDe, zbw, Option.bind_some]
 refine Ok.cond (fun hb => ?_) (fun hb => ?_)
 ·have hne : ex lf (nF f) ≠ [] := by
   intro he
   have hall := zFr.1 he
   have : eqI s1 (fun _ => 0) 0 12 = true := (zjs _ _ 12 0).2 fun t _ ht => by
    have := h1 t (by omega)
    simp only at this
    rw [this]
    by_cases e : t < nF f
    ·rw [hall t e]; rfl
    ·rw [hz t (by omega)]; rfl
   rw [this] at hb
   cases hb
  rw [zCn hs.far]
  refine Ok.bind (zrx hk hF _ _ _ h1 h20) fun v ⟨a, b, ha, hb', hd, ht, hx, hle, hy⟩ => ?_
  refine Ok.bind (zNx hs hk hF _ _ _ _ hb') fun w hw' => ?_
  rw [hw']
  obtain ⟨x, t, hxt⟩ : ∃ x t, ex lf (nF f) = x :: t := by
   cases h : ex lf (nF f) with
   | nil => exact absurd h hne
   | cons x t => exact ⟨x, t, rfl⟩
  have htop : topF b (fr f) (nF f) = fr f x := by
   obtain ⟨c, hc⟩ : ∃ c, f.Carry.toNat = c + 1 := ⟨f.Carry.toNat - 1, by omega⟩
   refine zZu (t := t.take c) ?_
   rw [ht, hxt, hc, List.take_succ_cons]
  have hfx : 0 ≤ fr f x ∧ fr f x ≤ 500 := zur hF x (by rw [hxt]; simp)
  rw [htop]
  have hcons := zYy (C := f.Carry.toNat) (by omega) (fr f) x t
  rw [← hxt, ← hd] at hcons
  have hwa := zDl (C := f.Carry.toNat) (b := 500) (by omega) (ex a (nF f)) 0 (zur hF)
  have hw : s2 + wk f.Carry.toNat (fr f) 0 (ex lf (nF f)) = zZ f i := hw
  have h0 : 0 ≤ s2 := h0
  rw [zL (n := 2 * fr f x) (by omega) (by omega), zL (by omega) (by omega)]
  refine Ok.pure ⟨?_, a, ha, fun t => by have := hle t; have := h20 t; omega, fun t ht => by rw [hx t ht]; exact hz t ht, by show 0 ≤ s2 + _; omega, by show s2 + 2 * fr f x + _ = _; omega, ?_⟩
  ·rw [hxt] at hl; simp at hl; omega
  ·rw [hd, List.length_drop]
   rw [hxt] at hl ⊢
   simp only [List.length_cons] at hl ⊢
   omega
 ·refine Ok.pure ?_
  have hall : eqI s1 (fun _ => 0) 0 12 = true := by simpa using hb
  have hall := (zjs _ _ 12 0).1 hall
  have he : ex lf (nF f) = [] := zFr.2 fun t ht => by
   have hn := hF.nfar.2
   have e1 := h1 t (by omega)
   have e2 := hall t (by omega) (by omega)
   simp only at e1 e2
   rw [e1] at e2
   omega
  have hw : s2 + wk f.Carry.toNat (fr f) 0 (ex lf (nF f)) = zZ f i := hw
  rw [he] at hw
  simp only [wk] at hw
  show s2 = _
  omega
end Go.AM
set_option linter.unusedVariables false
namespace Go.AM
open Go
def pk (f : zd) (i : Nat) : zp := (f.Pick.1[i]?).getD ⟨0, 0⟩
theorem z5s {f : zd} {i : Nat} (h : i < f.Pick.1.length) : f.Pick.1[i] = pk f i := by
 unfold pk
 rw [List.getElem?_eq_getElem h]; rfl
theorem zWn {f : zd} (hF : Fine f) {i : Nat} (h : i < nF f) : zOb 0 300 (pk f i) := by
 have hp : i < f.Pick.1.length := by rw [hF.npick]; exact h
 have := hF.pick i hp
 rwa [z5s hp] at this
theorem znu {f : zd} (hF : Fine f) {n : Int} (h : 0 ≤ n ∧ n < nF f) : idx f.Pick.1 n = some (pk f n.toNat) := by
 have hp : n.toNat < f.Pick.1.length := by rw [hF.npick]; omega
 rw [zgz h.1 hp, z5s hp]
def pks (f : zd) (v : zp → Int) (l : List zk) : Int := (l.map fun x => x.Many * v (pk f x.Shelf.toNat)).sum
theorem zul (f : zd) (v : zp → Int) (l : List zk) (x : zk) : pks f v (l ++ [x]) = pks f v l + x.Many * v (pk f x.Shelf.toNat) := by simp [pks, List.sum_append]
def zyc (f : zd) (i : Nat) (v : zp → Int) : Int := zZ f i * v f.Step + pks f v (lns f i)
theorem zNj {a b x y : Int} (ha : 0 ≤ a) (hax : a ≤ x) (hb : 0 ≤ b) (hby : b ≤ y) : 0 ≤ a * b ∧ a * b ≤ x * y :=
 ⟨Int.mul_nonneg ha hb, Int.mul_le_mul hax hby hb (by omega)⟩
theorem zQn {f : zd} (hF : Fine f) {v : zp → Int} (hv : ∀ s, zOb 0 300 s → 0 ≤ v s ∧ v s ≤ 300) {l : List zk} (hl : zrc (nF f) l) : ∀ j, j ≤ l.length → 0 ≤ pks f v (l.take j) ∧ pks f v (l.take j) ≤ 6000 * j
 | 0, _ => by simp [pks]
 | j + 1, hj => by
  have ih := zQn hF hv hl j (by omega)
  have h1 := zbi hl (i := j) (by omega)
  have h2 := (hl j (by omega)).2
  have h3 := hv _ (zWn hF (i := l[j].Shelf.toNat) (by omega))
  have h4 := zNj (a := l[j].Many) (b := v (pk f l[j].Shelf.toNat)) (x := 20) (y := 300) (by omega) h2.2 h3.1 h3.2
  rw [List.take_succ_eq_append_getElem (by omega), zul]
  push_cast
  omega
theorem zLk {f : zd} (hF : Fine f) {v : zp → Int} (hv : ∀ s, zOb 0 300 s → 0 ≤ v s ∧ v s ≤ 300) (hv' : 0 ≤ v f.Step ∧ v f.Step ≤ 10) {i : Nat} (hi : i < nS f) : (0 ≤ zZ f i * v f.Step ∧ zZ f i * v f.Step ≤ 2400000) ∧ 0 ≤ zyc f i v ∧ zyc f i v ≤ 2472000 := by
 have h1 := zvk hF hi
 have h2 := zNj h1.1 h1.2 hv'.1 hv'.2
 have h3 := zQn hF hv (zaf hF hi).2 (lns f i).length (Nat.le_refl _)
 have h4 := z3h (zaf hF hi).2
 have h5 := hF.nfar.2
 rw [List.take_length] at h3
 have h6 : ((lns f i).length : Int) ≤ 12 := by
  have : (lns f i).length ≤ nF f := h4
  omega
 unfold zyc
 omega
theorem zhp : ∀ s, zOb 0 300 s → 0 ≤ s.Low ∧ s.Low ≤ 300 := fun s h => ⟨h.1, by have := h.2; omega⟩
theorem zxn : ∀ s, zOb 0 300 s → 0 ≤ s.High ∧ s.High ≤ 300 := fun s h => ⟨by have := h.1; have := h.2.1; omega, h.2.2⟩
theorem zMp {f : zd} (hF : Fine f) : 0 ≤ f.Step.Low ∧ f.Step.Low ≤ 10 := by have := hF.step; unfold zOb at this; omega
theorem zSo {f : zd} (hF : Fine f) : 0 ≤ f.Step.High ∧ f.Step.High ≤ 10 := by have := hF.step; unfold zOb at this; omega
theorem zmx {k : Nat} {f : zd} (hs : zeb f) (hk : Fuel k f) (hF : Fine f) {i : Nat} (hi : i < nS f) : Ok (zCd k ⟨f⟩ (i : Int)) (fun r => r = zyc f i (·.Low)) := by
 unfold zCd z0f
 have hm := List.getElem_mem hi
 rw [zIo hi] at hm
 have hfine := zaf hF hi
 have hin := zLk hF zhp (zMp hF) hi
 refine Ok.bind (P := fun r => r = zyc f i (·.Low)) (Ok.bind (zMt hs hk hF hi) fun st hst => ?_) fun r hr => Ok.pure hr
 subst hst
 simp only [zZc, Option.bind_some, zPe hi]
 rw [zL (by omega) (by omega)]
 refine Ok.bind (P := fun v : Int × Int => v.1 = zyc f i (·.Low)) ?_ fun v hv => Ok.pure hv
 refine Ok.count (lns f i).length (fun j s => s.2 = (j : Int) ∧ s.1 = zZ f i * f.Step.Low + pks f (·.Low) ((lns f i).take j)) ?_ ?_ ⟨rfl, by simp [pks]⟩ (hk.lines _ hm)
 ·rintro j ⟨a, b⟩ hj ⟨hb, ha⟩
  obtain rfl : b = (j : Int) := hb
  obtain rfl : a = _ := ha
  have h1 := zbi hfine.2 hj
  have h2 := (hfine.2 j hj).2
  have h3 := zhp _ (zWn hF (i := (lns f i)[j].Shelf.toNat) (by show (slp f i).Lines.1[j].Shelf.toNat < _; omega))
  have h4 := zNj (a := (lns f i)[j].Many) (b := (pk f (lns f i)[j].Shelf.toNat).Low) (x := 20) (y := 300) (by show 0 ≤ (slp f i).Lines.1[j].Many; omega) h2.2 h3.1 h3.2
  have h5 := zQn hF zhp hfine.2 j (Nat.le_of_lt hj)
  have h6 := z3h hfine.2
  have h7 := hF.nfar.2
  have h8 : (j : Int) ≤ 12 := by
   have : j < (slp f i).Lines.1.length := hj
   omega
  simp only [zwd, zFb hj, cond_true, zcb hj, Option.bind_some, zZc]
  rw [znu hF h1]
  simp only [Option.bind_some]
  have h5' : 0 ≤ pks f (fun x => x.Low) (List.take j (lns f i)) ∧ pks f (fun x => x.Low) (List.take j (lns f i)) ≤ 6000 * j := h5
  rw [zL (n := (lns f i)[j].Many * (pk f (lns f i)[j].Shelf.toNat).Low) (by omega) (by omega), zL (by omega) (by omega)]
  refine Ok.pure ⟨z6 hj (hs.lines _ hm), ?_⟩
  rw [List.take_succ_eq_append_getElem hj, zul]
  show _ + _ = _
  omega
 ·rintro ⟨a, b⟩ ⟨hb, ha⟩
  obtain rfl : b = ((lns f i).length : Int) := hb
  simp only [zwd, zkc, cond_false]
  rw [List.take_length] at ha
  exact Ok.pure ha
theorem zRu {k : Nat} {f : zd} (hs : zeb f) (hk : Fuel k f) (hF : Fine f) {i : Nat} (hi : i < nS f) : Ok (zpc k ⟨f⟩ (i : Int)) (fun r => r = zyc f i (·.High)) := by
 unfold zpc zBe
 have hm := List.getElem_mem hi
 rw [zIo hi] at hm
 have hfine := zaf hF hi
 have hin := zLk hF zxn (zSo hF) hi
 refine Ok.bind (P := fun r => r = zyc f i (·.High)) (Ok.bind (zMt hs hk hF hi) fun st hst => ?_) fun r hr => Ok.pure hr
 subst hst
 simp only [zjd, Option.bind_some, zPe hi]
 rw [zL (by omega) (by omega)]
 refine Ok.bind (P := fun v : Int × Int => v.1 = zyc f i (·.High)) ?_ fun v hv => Ok.pure hv
 refine Ok.count (lns f i).length (fun j s => s.2 = (j : Int) ∧ s.1 = zZ f i * f.Step.High + pks f (·.High) ((lns f i).take j)) ?_ ?_ ⟨rfl, by simp [pks]⟩ (hk.lines _ hm)
 ·rintro j ⟨a, b⟩ hj ⟨hb, ha⟩
  obtain rfl : b = (j : Int) := hb
  obtain rfl : a = _ := ha
  have h1 := zbi hfine.2 hj
  have h2 := (hfine.2 j hj).2
  have h3 := zxn _ (zWn hF (i := (lns f i)[j].Shelf.toNat) (by show (slp f i).Lines.1[j].Shelf.toNat < _; omega))
  have h4 := zNj (a := (lns f i)[j].Many) (b := (pk f (lns f i)[j].Shelf.toNat).High) (x := 20) (y := 300) (by show 0 ≤ (slp f i).Lines.1[j].Many; omega) h2.2 h3.1 h3.2
  have h5 := zQn hF zxn hfine.2 j (Nat.le_of_lt hj)
  have h6 := z3h hfine.2
  have h7 := hF.nfar.2
  have h8 : (j : Int) ≤ 12 := by
   have : j < (slp f i).Lines.1.length := hj
   omega
  simp only [zFc, zFb hj, cond_true, zcb hj, Option.bind_some, zjd]
  rw [znu hF h1]
  simp only [Option.bind_some]
  have h5' : 0 ≤ pks f (fun x => x.High) (List.take j (lns f i)) ∧ pks f (fun x => x.High) (List.take j (lns f i)) ≤ 6000 * j := h5
  rw [zL (n := (lns f i)[j].Many * (pk f (lns f i)[j].Shelf.toNat).High) (by omega) (by omega), zL (by omega) (by omega)]
  refine Ok.pure ⟨z6 hj (hs.lines _ hm), ?_⟩
  rw [List.take_succ_eq_append_getElem hj, zul]
  show _ + _ = _
  omega
 ·rintro ⟨a, b⟩ ⟨hb, ha⟩
  obtain rfl : b = ((lns f i).length : Int) := hb
  simp only [zFc, zkc, cond_false]
  rw [List.take_length] at ha
  exact Ok.pure ha
theorem z3w {f : zd} (hs : zeb f) (k : Nat) (n : Int) : zsb k ⟨f⟩ n = some (decide (0 ≤ n) && decide (n ≤ (nS f : Int) - 1)) := by
 simp only [zsb, z6h, zCn hs.slips, Option.bind_some]
end Go.AM
set_option linter.unusedVariables false
namespace Go.AM
open Go
theorem z4n (k : Nat) (a b : Int) : zK k a b = some ⟨a, b⟩ := rfl
end Go.AM
set_option linter.unusedVariables false
namespace Go.AM
open Go
section
variable (T U : Nat → Int)
def InT : Int → List Nat → Prop
 | _, [] => True
 | now, x :: t => now + T x ≤ U x ∧ InT (now + T x) t
def lsum (u : Int) : List Nat → Int
 | [] => 0
 | x :: t => (if U x ≤ u then T x else 0) + lsum u t
def zub (l : List Nat) : Prop := ∀ x ∈ l, lsum T U (U x) l ≤ U x
def CanL (p : Nat) (l : List Nat) : Prop := ∃ g : Nat → Nat, (∀ i ∈ l, g i < p) ∧ ∀ q, zub T U (l.filter fun i => g i == q)
variable {T U} {u : Int}
theorem zJs {l l' : List Nat} (h : l.Perm l') : lsum T U u l = lsum T U u l' := by
 induction h with
 | nil => rfl
 | cons x _ ih => simp only [lsum, ih]
 | swap x y l => simp only [lsum]; omega
 | trans _ _ h1 h2 => rw [h1, h2]
theorem z8m (hT : ∀ i, 0 ≤ T i) : ∀ l, 0 ≤ lsum T U u l
 | [] => by simp [lsum]
 | x :: t => by
  have := z8m hT t
  have := hT x
  simp only [lsum]
  split <;> omega
theorem zht (hT : ∀ i, 0 ≤ T i) {l l' : List Nat} (h : l.Sublist l') : lsum T U u l ≤ lsum T U u l' := by
 induction h with
 | slnil => exact Int.le_refl _
 | cons x _ ih =>
  have := hT x
  simp only [lsum]
  split <;> omega
 | cons_cons x _ ih => simp only [lsum]; omega
theorem zub.perm {l l' : List Nat} (h : l.Perm l') (hf : zub T U l) : zub T U l' := fun x hx => by
 rw [← zJs h]
 exact hf x (h.mem_iff.2 hx)
theorem zub.sub (hT : ∀ i, 0 ≤ T i) {l l' : List Nat} (h : l.Sublist l') (hf : zub T U l') : zub T U l := fun x hx => by
 have := hf x (h.subset hx)
 have := zht (U := U) (u := U x) hT h
 omega
theorem zub.nil : zub T U [] := fun x hx => by cases hx
theorem InT.low (hT : ∀ i, 0 ≤ T i) : ∀ {l : List Nat} {now : Int}, InT T U now l → ∀ u, (∃ x ∈ l, U x ≤ u) → now + lsum T U u l ≤ u
 | [], _, _, u, ⟨x, hx, _⟩ => by cases hx
 | x :: t, now, h, u, hex => by
  obtain ⟨h1, h2⟩ := h
  have hTx := hT x
  simp only [lsum]
  by_cases ht : ∃ y ∈ t, U y ≤ u
  ·have := InT.low hT h2 u ht
   split <;> omega
  ·have hx : U x ≤ u := by
    obtain ⟨y, hy, hyu⟩ := hex
    rcases List.mem_cons.1 hy with rfl | hy
    ·exact hyu
    ·exact absurd ⟨y, hy, hyu⟩ ht
   have h0 : lsum T U u t = 0 := by
    have : ∀ l : List Nat, (¬ ∃ y ∈ l, U y ≤ u) → lsum T U u l = 0 := by
     intro l
     induction l with
     | nil => intro _; rfl
     | cons a l ih =>
      intro h
      simp only [lsum]
      rw [if_neg (fun e => h ⟨a, by simp, e⟩), ih fun ⟨y, hy, e⟩ => h ⟨y, by simp [hy], e⟩]
      omega
    exact this t ht
   rw [if_pos hx, h0]
   omega
theorem InT.fits (hT : ∀ i, 0 ≤ T i) {l : List Nat} (h : InT T U 0 l) : zub T U l := fun x hx => by
 have := InT.low hT h (U x) ⟨x, hx, Int.le_refl _⟩
 omega
theorem InT.of_sorted (hT : ∀ i, 0 ≤ T i) : ∀ {l : List Nat} {now : Int}, l.Pairwise (fun a b => U a ≤ U b) → (∀ x ∈ l, now + lsum T U (U x) l ≤ U x) → InT T U now l
 | [], _, _, _ => trivial
 | x :: t, now, hs, h => by
  rw [List.pairwise_cons] at hs
  have hx := h x (by simp)
  have h0 := z8m (U := U) (u := U x) hT t
  simp only [lsum, Int.le_refl, if_true] at hx
  refine ⟨by omega, InT.of_sorted hT hs.2 fun y hy => ?_⟩
  have := h y (by simp [hy])
  simp only [lsum] at this
  rw [if_pos (hs.1 y hy)] at this
  omega
theorem zub.inT (hT : ∀ i, 0 ≤ T i) {l : List Nat} (hs : l.Pairwise fun a b => U a ≤ U b) (h : zub T U l) : InT T U 0 l :=
 InT.of_sorted hT hs fun x hx => by have := h x hx; omega
theorem CanL.perm {p : Nat} {l l' : List Nat} (h : l.Perm l') : CanL T U p l → CanL T U p l' := fun ⟨g, h1, h2⟩ =>
 ⟨g, fun i hi => h1 i (h.mem_iff.2 hi), fun q => (h2 q).perm (h.filter _)⟩
theorem CanL.sub (hT : ∀ i, 0 ≤ T i) {p : Nat} {l l' : List Nat} (h : l.Sublist l') : CanL T U p l' → CanL T U p l := fun ⟨g, h1, h2⟩ =>
 ⟨g, fun i hi => h1 i (h.subset hi), fun q => (h2 q).sub hT (h.filter _)⟩
theorem CanL.more {p q : Nat} (hpq : p ≤ q) {l : List Nat} : CanL T U p l → CanL T U q l := fun ⟨g, h1, h2⟩ =>
 ⟨g, fun i hi => by have := h1 i hi; omega, h2⟩
theorem CanL.nil (p : Nat) : CanL T U p [] := ⟨fun _ => 0, fun i hi => (by cases hi), fun q => zub.nil⟩
theorem CanL.zero {l : List Nat} : CanL T U 0 l ↔ l = [] := by
 constructor
 ·rintro ⟨g, h1, _⟩
  cases l with
  | nil => rfl
  | cons x t => exact absurd (h1 x (by simp)) (by omega)
 ·rintro rfl; exact .nil 0
theorem CanL.step {p : Nat} {l : List Nat} {a : Nat} (ha : a ∈ l) : CanL T U (p + 1) l ↔ ∃ sub : Nat → Bool, sub a = true ∧ zub T U (l.filter sub) ∧ CanL T U p (l.filter fun i => !sub i) := by
 constructor
 ·rintro ⟨g, h1, h2⟩
  refine ⟨fun i => g i == g a, by simp, h2 _, fun i => if g i = p then g a else g i, fun i hi => ?_, fun q => ?_⟩
  ·have hi' := List.mem_filter.1 hi
   have hlt := h1 i hi'.1
   have hne : g i ≠ g a := by simpa using hi'.2
   dsimp only
   split
   ·have := h1 a ha; omega
   ·omega
  ·by_cases hq : q = g a
   ·subst hq
    have e : ((l.filter fun i => !(g i == g a)).filter fun i => (if g i = p then g a else g i) == g a) = (l.filter fun i => g i == p).filter fun i => !(g i == g a) := by
     rw [List.filter_filter, List.filter_filter]
     refine List.filter_congr fun i _ => ?_
     by_cases h : g i = g a
     ·simp [h]
     ·by_cases h' : g i = p <;> simp [h, h']
    rw [e]
    by_cases hp : g a = p
    ·have : (l.filter fun i => g i == p).filter (fun i => !(g i == g a)) = [] := by
      rw [List.filter_filter]
      refine List.filter_eq_nil_iff.2 fun i _ => ?_
      rw [hp]; simp
     rw [this]
     exact .nil
    ·have : (l.filter fun i => g i == p).filter (fun i => !(g i == g a)) = l.filter fun i => g i == p := by
      rw [List.filter_filter]
      refine List.filter_congr fun i _ => ?_
      by_cases h : g i = p
      ·have : ¬ p = g a := fun e => hp e.symm
       simp [h, this]
      ·simp [h]
     rw [this]
     exact h2 p
   ·by_cases hqp : q = p
    ·have : ((l.filter fun i => !(g i == g a)).filter fun i => (if g i = p then g a else g i) == q) = [] := by
      rw [List.filter_filter]
      refine List.filter_eq_nil_iff.2 fun i _ => ?_
      subst hqp
      by_cases h : g i = q
      ·have : ¬ g a = q := fun e => hq e.symm
       simp [h, this]
      ·simp [h]
     rw [this]
     exact .nil
    ·have : ((l.filter fun i => !(g i == g a)).filter fun i => (if g i = p then g a else g i) == q) = l.filter fun i => g i == q := by
      rw [List.filter_filter]
      refine List.filter_congr fun i _ => ?_
      by_cases h : g i = p
      ·have e1 : (g a == q) = false := by simp; omega
       have e2 : (p == q) = false := by simp; omega
       simp [h, e1, e2]
      ·by_cases h' : g i = q
       ·simp [h', hqp, hq]
       ·simp [h, h']
     rw [this]
     exact h2 q
 ·rintro ⟨sub, hsa, hf, g, h1, h2⟩
  refine ⟨fun i => if sub i then p else g i, fun i hi => ?_, fun q => ?_⟩
  ·dsimp only
   cases hs : sub i with
   | true => simp
   | false =>
    have := h1 i (List.mem_filter.2 ⟨hi, by simp [hs]⟩)
    simp; omega
  ·by_cases hq : q = p
   ·have : (l.filter fun i => (if sub i = true then p else g i) == q) = l.filter sub := by
     refine List.filter_congr fun i hi => ?_
     cases hs : sub i with
     | true => simp [hq]
     | false =>
      have := h1 i (List.mem_filter.2 ⟨hi, by simp [hs]⟩)
      simp; omega
    rw [this]
    exact hf
   ·have : (l.filter fun i => (if sub i = true then p else g i) == q) = (l.filter fun i => !sub i).filter fun i => g i == q := by
     rw [List.filter_filter]
     refine List.filter_congr fun i hi => ?_
     cases hs : sub i with
     | true => simp; omega
     | false => simp
    rw [this]
    exact h2 q
end
end Go.AM
set_option linter.unusedVariables false
namespace Go.AM
open Go
abbrev TT (f : zd) (i : Nat) : Int := zyc f i (·.High)
abbrev UU (f : zd) (i : Nat) : Int := (slp f i).Until
def mem (n S : Nat) : List Nat := (List.range n).filter fun i => S.testBit i
def cst (q : List Nat) : List Int := q.map fun i : Nat => (i : Int)
theorem zVg (q : List Nat) : (cst q).length = q.length := by simp [cst]
theorem zfg {n S i : Nat} : i ∈ mem n S ↔ i < n ∧ S.testBit i = true := by simp [mem]
theorem zNt (n S : Nat) : mem (n + 1) S = mem n S ++ (if S.testBit n then [n] else []) := by
 simp only [mem, List.range_succ, List.filter_append]
 cases h : S.testBit n <;> simp [h]
theorem zos (n S : Nat) : (mem n S).Nodup := List.nodup_range.filter _
theorem zfs (n S : Nat) : (mem n S).length ≤ n := by
 have := List.length_filter_le (fun i => S.testBit i) (List.range n)
 simpa [mem] using this
theorem z6r {q : List Nat} {i : Nat} (h : i < q.length) : idx (cst q) (i : Int) = some ((q[i] : Nat) : Int) := by
 rw [zcb (by rw [zVg]; exact h)]
 simp [cst]
theorem z3s {f : zd} (hF : Fine f) {i : Nat} (h : i < nS f) : 0 ≤ UU f i ∧ UU f i ≤ 100000 := (zaf hF h).1.1
theorem zgp {f : zd} (hF : Fine f) {i : Nat} (h : i < nS f) : 0 ≤ TT f i ∧ TT f i ≤ 2472000 := (zLk hF zxn (zSo hF) h).2
theorem z7v {k : Nat} {f : zd} (hs : zeb f) (hk : Fuel k f) (hF : Fine f) : Ok (zOd k ⟨f⟩) (fun r => r.1 = (List.range (nS f)).map (TT f)) := by
 unfold zOd
 refine Ok.bind (P := fun v : Int × List Int => v.2 = (List.range (nS f)).map (TT f)) ?_ fun v hv => Ok.pure hv
 have h9 := hF.nslips
 refine Ok.count (nS f) (fun j s => s.1 = (j : Int) ∧ s.2 = (List.range j).map (TT f)) ?_ ?_ ⟨rfl, rfl⟩ hk.slips
 ·rintro j ⟨a, l⟩ hj ⟨ha, hl⟩
  obtain rfl : a = (j : Int) := ha
  obtain rfl : l = _ := hl
  obtain ⟨t, ht, rfl⟩ := zRu hs hk hF hj
  have e : decide (((List.range j).map (TT f)).length + 1 ≤ LIM) = true := by simp [LIM]; omega
  simp only [zWc, zFb hj, cond_true, ht, Option.bind_some, e]
  refine Ok.pure ⟨z6 hj hs.slips, ?_⟩
  rw [List.range_succ, List.map_append]
  rfl
 ·rintro ⟨a, l⟩ ⟨ha, hl⟩
  obtain rfl : a = (nS f : Int) := ha
  simp only [zWc, zkc, cond_false]
  exact Ok.pure hl
theorem zby {k : Nat} {f : zd} (hs : zeb f) (hk : Fuel k f) (hF : Fine f) {S : Nat} (hS : S < 2 ^ nS f) (p2 : SL Int) : Ok (iter (fun s => zvc k ⟨f⟩ (S : Int) p2 s.1 s.2) k (0, ([] : List Int))) (fun r => r.2 = cst (mem (nS f) S)) := by
 have h9 := hF.nslips
 have h2 : S < 2 ^ 63 := by
  have : 2 ^ nS f ≤ 2 ^ 9 := Nat.pow_le_pow_right (by omega) h9
  omega
 refine Ok.count (nS f) (fun j s => s.1 = (j : Int) ∧ s.2 = cst (mem j S)) ?_ ?_ ⟨rfl, rfl⟩ hk.slips
 ·rintro j ⟨a, l⟩ hj ⟨ha, hl⟩
  obtain rfl : a = (j : Int) := ha
  obtain rfl : l = _ := hl
  have e1 : decide ((j : Int) < 0) = false := by simp
  have hml := zfs j S
  have e2 : decide ((cst (mem j S)).length + 1 ≤ LIM) = true := by rw [zVg]; simp [LIM]; omega
  simp only [zvc, zFb hj, cond_true, e1, cond_false, zlt (show j < 64 by omega) h2, e2]
  cases hb : S.testBit j with
  | true =>
   simp only [cond_true]
   refine Ok.pure ⟨z6 hj hs.slips, ?_⟩
   rw [zNt, hb]
   simp [cst]
  | false =>
   simp only [cond_false]
   refine Ok.pure ⟨z6 hj hs.slips, ?_⟩
   rw [zNt, hb]
   simp
 ·rintro ⟨a, l⟩ ⟨ha, hl⟩
  obtain rfl : a = (nS f : Int) := ha
  simp only [zvc, zkc, cond_false]
  exact Ok.pure hl
abbrev Srt (f : zd) (q : List Nat) : Prop := q.Pairwise fun a b => UU f a ≤ UU f b
theorem zDw {k : Nat} {f : zd} (hk : Fuel k f) (hF : Fine f) (v1 : Int × List Int) (v3 : Int × Int × List Int) (h3 : v3.1 = 0) (i : Int) {P0 R : List Nat} {x : Nat} (hP : Srt f P0) (hin : ∀ y ∈ P0 ++ x :: R, y < nS f) (hlen : P0.length < 100) :
  Ok (iter (fun s => z9c k ⟨f⟩ v1 v3 i s.1 s.2) k ((P0.length : Int), cst (P0 ++ x :: R))) (fun r => ∃ P', r.2 = cst (P' ++ R) ∧ Srt f P' ∧ P'.Perm (x :: P0)) := by
 refine Ok.iter (fun j s => ∃ m, m + j = P0.length ∧ s.1 = (m : Int) ∧ s.2 = cst (P0.take m ++ x :: (P0.drop m ++ R)) ∧ ∀ q ∈ P0.drop m, UU f x < UU f q) P0.length ?_ ⟨P0.length, by omega, rfl, by simp, by simp⟩ (by have := hk.k0; omega)
 rintro j ⟨a, l⟩ hj ⟨m, hm, ha, hl, hq⟩
 obtain rfl : a = (m : Int) := ha
 obtain rfl : l = _ := hl
 have hx : x < nS f := hin x (by simp)
 have ends : (∀ m', m = m' + 1 → ∀ h : m' < P0.length, ¬ UU f x < UU f P0[m']) → ∃ P', cst (P0.take m ++ x :: (P0.drop m ++ R)) = cst (P' ++ R) ∧ Srt f P' ∧ P'.Perm (x :: P0) := by
  intro hend
  refine ⟨P0.take m ++ x :: P0.drop m, by simp, ?_, ?_⟩
  ·have hP' : Srt f (P0.take m ++ P0.drop m) := by rw [List.take_append_drop]; exact hP
   rw [Srt, List.pairwise_append] at hP' ⊢
   obtain ⟨a1, a2, a3⟩ := hP'
   refine ⟨a1, List.pairwise_cons.2 ⟨fun q hq' => Int.le_of_lt (hq q hq'), a2⟩, fun y hy z hz => ?_⟩
   rcases List.mem_cons.1 hz with rfl | hz
   ·cases m with
    | zero => simp at hy
    | succ m =>
     have hml : m < P0.length := by omega
     have h1 := hend m rfl hml
     have hyp : UU f y ≤ UU f P0[m] := by
      rw [List.take_succ_eq_append_getElem hml] at hy a1
      rcases List.mem_append.1 hy with hy | hy
      ·exact (List.pairwise_append.1 a1).2.2 y hy _ (by simp)
      ·simp at hy; rw [hy]; exact Int.le_refl _
     omega
   ·exact a3 y hy z hz
  ·have : (P0.take m ++ x :: P0.drop m).Perm (x :: (P0.take m ++ P0.drop m)) := List.perm_middle
   rwa [List.take_append_drop] at this
 simp only [z9c, z8d, h3]
 cases m with
 | zero =>
  have e : decide (((0 : Nat) : Int) > 0) = false := by decide
  simp only [e, cond_false, Option.bind_some]
  exact Ok.pure (ends fun m' hm' => by omega)
 | succ m =>
  have hml : m < P0.length := by omega
  have e : decide (((m + 1 : Nat) : Int) > 0) = true := by simp
  have e1 : w64 (((m + 1 : Nat) : Int) - 1) = (m : Int) := by rw [zL (by omega) (by omega)]; omega
  have hp : P0[m] < nS f := hin _ (by simp)
  have hsplit : P0.take (m + 1) ++ x :: (P0.drop (m + 1) ++ R) = P0.take m ++ P0[m] :: x :: (P0.drop (m + 1) ++ R) := by
   rw [List.take_succ_eq_append_getElem hml, List.append_assoc]; rfl
  have hlt : (P0.take m).length = m := by rw [List.length_take]; omega
  have at0 : ∀ (c : Nat) (W : List Nat), idx (cst (P0.take m ++ c :: W)) (m : Int) = some (c : Int) := fun c W => by
   rw [z6r (by rw [List.length_append, List.length_cons, hlt]; omega), List.getElem_append_right (by omega)]
   simp [hlt]
  have at1 : ∀ (c d : Nat) (W : List Nat), idx (cst (P0.take m ++ c :: d :: W)) ((m + 1 : Nat) : Int) = some (d : Int) := fun c d W => by
   rw [z6r (by rw [List.length_append, List.length_cons, List.length_cons, hlt]; omega), List.getElem_append_right (by omega)]
   simp [hlt]
  have set0 : ∀ (c d : Nat) (W : List Nat), (cst (P0.take m ++ c :: W)).set m (d : Int) = cst (P0.take m ++ d :: W) := fun c d W => by
   unfold cst
   rw [List.map_append, List.map_append, List.set_append_right _ _ (by rw [List.length_map, hlt]; omega), List.length_map, hlt, Nat.sub_self]
   rfl
  have set1 : ∀ (c d e : Nat) (W : List Nat), (cst (P0.take m ++ c :: d :: W)).set (m + 1) (e : Int) = cst (P0.take m ++ c :: e :: W) := fun c d e W => by
   unfold cst
   rw [List.map_append, List.map_append, List.set_append_right _ _ (by rw [List.length_map, hlt]; omega), List.length_map, hlt, Nat.add_sub_cancel_left]
   rfl
  have i1 : idx (cst (P0.take (m + 1) ++ x :: (P0.drop (m + 1) ++ R))) ((m + 1 : Nat) : Int) = some (x : Int) := by
   rw [hsplit]; exact at1 _ _ _
  have i2 : idx (cst (P0.take (m + 1) ++ x :: (P0.drop (m + 1) ++ R))) (m : Int) = some ((P0[m] : Nat) : Int) := by
   rw [hsplit]; exact at0 _ _
  have u1 := z3s hF hx
  have u2 := z3s hF hp
  have s1 : (cst (P0.take (m + 1) ++ x :: (P0.drop (m + 1) ++ R))).set ((m + 1 : Nat) : Int).toNat ((P0[m] : Nat) : Int) = cst (P0.take m ++ P0[m] :: P0[m] :: (P0.drop (m + 1) ++ R)) := by
   rw [hsplit, Int.toNat_natCast]; exact set1 _ _ _ _
  have i3 : idx ((cst (P0.take (m + 1) ++ x :: (P0.drop (m + 1) ++ R))).set ((m + 1 : Nat) : Int).toNat ((P0[m] : Nat) : Int)) (m : Int) = some ((P0[m] : Nat) : Int) := by
   rw [s1]; exact at0 _ _
  have hset : ((cst (P0.take (m + 1) ++ x :: (P0.drop (m + 1) ++ R))).set ((m + 1 : Nat) : Int).toNat ((P0[m] : Nat) : Int)).set (m : Int).toNat (x : Int) = cst (P0.take m ++ x :: (P0.drop m ++ R)) := by
   rw [s1, Int.toNat_natCast, set0, List.drop_eq_getElem_cons hml]; rfl
  have hus : (slp f x).Until = UU f x := rfl
  have hup : (slp f P0[m]).Until = UU f P0[m] := rfl
  simp only [e, cond_true, e1, i1, i2, Option.bind_some, zPe hx, zPe hp, hus, hup]
  rw [zL (by omega) (by omega)]
  cases hb : decide (UU f x - UU f P0[m] < 0) with
  | true =>
   simp only [cond_true, i3, Option.bind_some, hset]
   refine Ok.pure ⟨by omega, m, by omega, rfl, rfl, fun q hq' => ?_⟩
   rw [List.drop_eq_getElem_cons hml] at hq'
   rcases List.mem_cons.1 hq' with rfl | hq'
   ·have : UU f x - UU f P0[m] < 0 := by simpa using hb
    omega
   ·exact hq q hq'
  | false =>
   simp only [cond_false]
   refine Ok.pure (ends fun m' hm' h => ?_)
   obtain rfl : m = m' := by omega
   have : ¬ UU f x - UU f P0[m] < 0 := by simpa using hb
   omega
theorem zNw {k : Nat} {f : zd} (hk : Fuel k f) (hF : Fine f) {q0 : List Nat} (v1 : Int × List Int) (h1 : v1.2 = cst q0) (v3 : Int × Int × List Int) (h3 : v3.1 = 0) (hin : ∀ y ∈ q0, y < nS f) (hlen : q0.length ≤ 9) :
  Ok (iter (fun s => zec k ⟨f⟩ v1 v3 s.1 s.2) k (1, cst q0)) (fun r => ∃ q, r.2 = cst q ∧ Srt f q ∧ q.Perm q0) := by
 refine Ok.count (q0.length - 1) (fun j s => s.1 = ((j + 1 : Nat) : Int) ∧ ∃ q, s.2 = cst q ∧ Srt f (q.take (j + 1)) ∧ q.Perm q0) ?_ ?_ ⟨rfl, q0, rfl, by cases q0 <;> simp [Srt], .refl _⟩ (by have := hk.k0; omega)
 ·rintro j ⟨a, l⟩ hj ⟨ha, q, hl, hsq, hp⟩
  obtain rfl : a = ((j + 1 : Nat) : Int) := ha
  obtain rfl : l = cst q := hl
  have hq := hp.length_eq
  have hjq : j + 1 < q.length := by omega
  have e : decide (((j + 1 : Nat) : Int) < (v1.2.length : Int)) = true := by rw [h1, zVg]; simp; omega
  simp only [zec, e, cond_true]
  have hsp : q = q.take (j + 1) ++ q[j + 1] :: q.drop (j + 2) := by
   rw [← List.drop_eq_getElem_cons hjq, List.take_append_drop]
  have hl : (q.take (j + 1)).length = j + 1 := by simp; omega
  have st : (((j + 1 : Nat) : Int), cst q) = (((q.take (j + 1)).length : Int), cst (q.take (j + 1) ++ q[j + 1] :: q.drop (j + 2))) := by rw [← hsp, hl]
  rw [st]
  refine Ok.bind (zDw hk hF v1 v3 h3 _ hsq (fun y hy => hin y (hp.mem_iff.1 (by rw [hsp]; exact hy))) (by omega)) fun v ⟨P', e1, e2, e3⟩ => ?_
  have hPl : P'.length = j + 2 := by have := e3.length_eq; simp only [List.length_cons, hl] at this; omega
  refine Ok.pure ⟨by rw [zL (by omega) (by omega)]; push_cast; omega, P' ++ q.drop (j + 2), e1, ?_, ?_⟩
  ·show Srt f ((P' ++ q.drop (j + 2)).take (j + 1 + 1))
   rw [List.take_append_of_le_length (by omega), List.take_of_length_le (by omega)]
   exact e2
  ·refine List.Perm.trans ?_ hp
   have : (q[j + 1] :: q.take (j + 1) ++ q.drop (j + 2)).Perm q := by
    conv => rhs; rw [hsp]
    exact List.perm_middle.symm
   exact (e3.append_right _).trans this
 ·rintro ⟨a, l⟩ ⟨ha, q, hl, hsq, hp⟩
  obtain rfl : a = ((q0.length - 1 + 1 : Nat) : Int) := ha
  obtain rfl : l = cst q := hl
  have hq := hp.length_eq
  have e : decide (((q0.length - 1 + 1 : Nat) : Int) < (v1.2.length : Int)) = false := by rw [h1, zVg]; simp; omega
  simp only [zec, e, cond_false]
  refine Ok.pure ⟨q, rfl, ?_, hp⟩
  rwa [List.take_of_length_le (by omega)] at hsq
theorem zQw {k : Nat} {f : zd} (hk : Fuel k f) (hF : Fine f) {q : List Nat} (p1 : Int) {p2 : SL Int} (h2 : p2.1 = (List.range (nS f)).map (TT f)) (v1 v5 : Int × List Int) (h5 : v5.2 = cst q) (hin : ∀ y ∈ q, y < nS f) (hlen : q.length ≤ 9) :
  Ok (iter (fun s => zac k ⟨f⟩ p1 p2 v1 v5 s.1 s.2) k (0, 0)) (fun r => match r with
   | .inl _ => ¬ InT (TT f) (UU f) 0 q
   | .inr _ => InT (TT f) (UU f) 0 q) := by
 refine Ok.count q.length (fun j s => s.2 = (j : Int) ∧ (0 ≤ s.1 ∧ s.1 ≤ 3000000 * (j : Int)) ∧ (InT (TT f) (UU f) 0 q ↔ InT (TT f) (UU f) s.1 (q.drop j))) ?_ ?_ ⟨rfl, by simp, by simp⟩ (by have := hk.k0; omega)
 ·rintro j ⟨now, a⟩ hj ⟨ha, hb, hi⟩
  obtain rfl : a = (j : Int) := ha
  have hx : q[j] < nS f := hin _ (by simp)
  have ht := zgp hF hx
  have hu := z3s hF hx
  have hb : 0 ≤ now ∧ now ≤ 3000000 * j := hb
  have e1 : decide ((j : Int) < (v5.2.length : Int)) = true := by rw [h5, zVg]; simp; omega
  have e2 : idx p2.1 ((q[j] : Nat) : Int) = some (TT f q[j]) := by
   rw [h2, zcb (by simpa using hx)]; simp
  have e3 : idx v5.2 (j : Int) = some ((q[j] : Nat) : Int) := by rw [h5]; exact z6r hj
  simp only [zac, e1, cond_true, e3, e2, Option.bind_some, zPe hx]
  rw [zL (n := now + TT f q[j]) (by omega) (by omega)]
  rw [List.drop_eq_getElem_cons hj] at hi
  refine Ok.cond (fun hc => Ok.pure ?_) (fun hc => Ok.pure ?_)
  ·show ¬ InT (TT f) (UU f) 0 q
   rw [hi]
   rintro ⟨h, _⟩
   have : now + TT f q[j] > UU f q[j] := by simpa using hc
   have h : now + TT f q[j] ≤ UU f q[j] := h
   omega
  ·have : ¬ now + TT f q[j] > UU f q[j] := by simpa using hc
   refine ⟨by rw [zL (by omega) (by omega)]; push_cast; rfl, by show 0 ≤ now + _ ∧ now + _ ≤ _; push_cast; omega, ?_⟩
   rw [hi]
   exact ⟨fun h => h.2, fun h => ⟨by show now + TT f q[j] ≤ UU f q[j]; omega, h⟩⟩
 ·rintro ⟨now, a⟩ ⟨ha, hb, hi⟩
  obtain rfl : a = (q.length : Int) := ha
  have e1 : decide ((q.length : Int) < (v5.2.length : Int)) = false := by rw [h5, zVg]; simp
  simp only [zac, e1, cond_false]
  refine Ok.pure ?_
  show InT (TT f) (UU f) 0 q
  rw [hi]
  simp [InT]
theorem zLm {f : zd} (hF : Fine f) (i : Nat) : 0 ≤ TT f i := by
 by_cases h : i < nS f
 ·exact (zgp hF h).1
 ·have hl : lns f i = [] := by
   show (slp f i).Lines.1 = []
   unfold slp
   rw [List.getElem?_eq_none (by have e : f.Slips.1.length = nS f := rfl; omega)]; rfl
  have h0 : zZ f i = 0 := by
   unfold zZ
   rw [hl]
   have : ex (pc []) (nF f) = [] := zFr.2 fun j _ => rfl
   rw [this]; rfl
  show 0 ≤ zyc f i _
  unfold zyc
  rw [hl, h0]
  simp [pks]
theorem z4x {k : Nat} {f : zd} (hs : zeb f) (hk : Fuel k f) (hF : Fine f) {S : Nat} (hS : S < 2 ^ nS f) {p2 : SL Int} (h2 : p2.1 = (List.range (nS f)).map (TT f)) :
  Ok (zse k ⟨f⟩ (S : Int) p2) (fun r => (r.2 = true ∧ zub (TT f) (UU f) (mem (nS f) S) ∧ ∃ q, r.1.1 = cst q ∧ q.Perm (mem (nS f) S) ∧ InT (TT f) (UU f) 0 q) ∨ (r.2 = false ∧ ¬ zub (TT f) (UU f) (mem (nS f) S))) := by
 unfold zse
 have h9 := hF.nslips
 have hml := zfs (nS f) S
 obtain ⟨k', rfl⟩ : ∃ k', k = k' + 1 := ⟨k - 1, by have := hk.k0; omega⟩
 refine Ok.bind (zby hs hk hF hS p2) fun v1 h1 => ?_
 have hlen : v1.2.length ≤ 9 := by rw [h1, zVg]; omega
 have o3 : iter (fun s => zud (k' + 1) ⟨f⟩ v1 s.1 s.2.1 s.2.2) (k' + 1) (0, 20, v1.2) = some (0, 20, v1.2) := by
  have e : decide ((20 : Int) ≤ (v1.2.length : Int)) = false := by simp; omega
  simp [iter, zud, e]
 rw [o3]
 simp only [Option.bind_some]
 rw [show w64 (0 + 1) = 1 by rfl, h1]
 refine Ok.bind (zNw hk hF v1 h1 _ rfl (fun y hy => (zfg.1 hy).1) (by omega)) fun v5 ⟨q, h5, hsq, hp⟩ => ?_
 have hq := hp.length_eq
 have e1 : decide ((cst (mem (nS f) S)).length = v5.2.length) = true := by rw [h5, zVg, zVg]; simp; omega
 have e2 : decide (v1.2.length = v5.2.length) = true := by rw [h1]; exact e1
 have e3 : iter (fun _ : Unit => zNb (k' + 1) ⟨f⟩ v1 (0, 20, v1.2) v5) (k' + 1) () = some () := by
  have e : decide ((20 : Int) < (v1.2.length : Int)) = false := by simp; omega
  simp [iter, zNb, e]
 rw [h1] at e3
 rw [e1]
 simp only [cond_true]
 have e3' : iter (fun _ : Unit => zNb (k' + 1) ⟨f⟩ v1 (0, 20, cst (mem (nS f) S)) v5) (k' + 1) () = some () := e3
 rw [e3']
 simp only [Option.bind_some]
 have hin : ∀ y ∈ q, y < nS f := fun y hy => (zfg.1 (hp.mem_iff.1 hy)).1
 refine Ok.bind (zQw hk hF _ h2 v1 v5 h5 hin (by omega)) fun v h => ?_
 cases v with
 | inl v =>
  refine Ok.pure (.inr ⟨rfl, fun hf => h ?_⟩)
  exact (hf.perm hp.symm).inT (zLm hF) hsq
 | inr v =>
  refine Ok.pure (.inl ⟨rfl, (InT.fits (zLm hF) h).perm hp, q, h5, hp, h⟩)
end Go.AM
set_option linter.unusedVariables false
namespace Go.AM
open Go
theorem zYu {x y : Nat} (hx : x < 2 ^ 63) (hy : y < 2 ^ 63) : zSc (x : Int) (y : Int) = ((x &&& y : Nat) : Int) := by
 unfold zSc
 rw [BitVec.toNat_and, BitVec.ofInt_natCast, BitVec.ofInt_natCast, BitVec.toNat_ofNat, BitVec.toNat_ofNat, Nat.mod_eq_of_lt (by omega), Nat.mod_eq_of_lt (by omega), zL]
 ·omega
 ·have : x &&& y ≤ x := Nat.and_le_left
  omega
def low (S : Nat) : Nat := ((List.range 9).find? fun i => S.testBit i).getD 0
theorem z4y : ((List.range 512).all fun S => S == 0 || (zSc (S : Int) (w64 (0 - (S : Int))) == ((2 ^ low S : Nat) : Int) && S.testBit (low S))) = true := by kernel_rfl
theorem zSy : ((List.range 512).all fun p => (List.range 9).all fun a => (zSc (p : Int) ((2 ^ a : Nat) : Int) == 0) == !p.testBit a) = true := by kernel_rfl
theorem zYo {S n i : Nat} (h : S < 2 ^ n) (hb : S.testBit i = true) : i < n := by
 apply Classical.byContradiction
 intro hn
 rw [Nat.testBit_lt_two_pow (Nat.lt_of_lt_of_le h (Nat.pow_le_pow_right (by omega) (by omega)))] at hb
 cases hb
theorem zmz {S : Nat} (h0 : S ≠ 0) (h : S < 512) : S.testBit (low S) = true ∧ ∀ p : Nat, p < 512 → (zSc (p : Int) (zSc (S : Int) (w64 (0 - (S : Int)))) == 0) = !p.testBit (low S) := by
 have h1 := List.all_eq_true.1 z4y S (List.mem_range.2 h)
 simp only [Bool.or_eq_true, beq_iff_eq, Bool.and_eq_true] at h1
 rcases h1 with h1 | ⟨h1, h2⟩
 ·exact absurd h1 h0
 ·refine ⟨h2, fun p hp => ?_⟩
  have h3 := List.all_eq_true.1 zSy p (List.mem_range.2 hp)
  have h4 := List.all_eq_true.1 h3 (low S) (List.mem_range.2 (zYo (n := 9) h h2))
  rw [h1]
  exact beq_iff_eq.1 h4
theorem zBt {n S : Nat} (h : S < 2 ^ n) (h0 : S ≠ 0) : mem n S ≠ [] := by
 intro he
 apply h0
 apply Nat.eq_of_testBit_eq
 intro i
 rw [Nat.zero_testBit]
 cases hb : S.testBit i with
 | false => rfl
 | true =>
  have : i ∈ mem n S := zfg.2 ⟨zYo h hb, hb⟩
  rw [he] at this
  cases this
def msk (p : Nat → Bool) : Nat → Nat
 | 0 => 0
 | m + 1 => msk p m ||| (if p m then 2 ^ m else 0)
theorem zdv (p : Nat → Bool) (i : Nat) : ∀ n, (msk p n).testBit i = (decide (i < n) && p i)
 | 0 => by simp [msk]
 | n + 1 => by
  rw [msk, Nat.testBit_or, zdv p i n]
  by_cases hi : i = n
  ·subst hi
   cases h : p i <;> simp
  ·have e : (if p n then 2 ^ n else 0 : Nat).testBit i = false := by
    split
    ·rw [Nat.testBit_two_pow]; simp; omega
    ·simp
   rw [e]
   by_cases h : i < n
   ·simp [h]; omega
   ·have : ¬ i < n + 1 := by omega
    simp [h, this]
theorem zWs {S n : Nat} (h : ∀ i, S.testBit i = true → i < n) : S < 2 ^ n := by
 apply Nat.lt_pow_two_of_testBit
 intro i hi
 cases hb : S.testBit i with
 | false => rfl
 | true => have := h i hb; omega
theorem zTk {x S : Nat} : x &&& S = x ↔ ∀ i, x.testBit i = true → S.testBit i = true := by
 constructor
 ·intro h i hi
  rw [← h, Nat.testBit_and] at hi
  exact (Bool.and_eq_true_iff.1 hi).2
 ·intro h
  apply Nat.eq_of_testBit_eq
  intro i
  rw [Nat.testBit_and]
  cases hb : x.testBit i with
  | false => rfl
  | true => rw [h i hb]; rfl
theorem z2t : ∀ (p x S : Nat), p &&& S = p → x &&& S = x → x < p → x ≤ (p - 1) &&& S := by
 intro p
 induction p using Nat.strongRecOn with
 | _ p ih =>
  intro x S hp hx hlt
  have hp2 : p / 2 &&& S / 2 = p / 2 := by rw [← Nat.and_div_two, hp]
  have hx2 : x / 2 &&& S / 2 = x / 2 := by rw [← Nat.and_div_two, hx]
  have hd : ((p - 1) &&& S) / 2 = (p - 1) / 2 &&& S / 2 := Nat.and_div_two
  have hmx : x % 2 = 1 → S % 2 = 1 := fun h => by
   rw [← hx] at h
   exact (Nat.and_mod_two_eq_one.1 h).2
  by_cases hb : p % 2 = 1
  ·have e : (p - 1) / 2 = p / 2 := by omega
   rw [e, hp2] at hd
   omega
  ·have e : (p - 1) / 2 = p / 2 - 1 := by omega
   have hlt2 : x / 2 < p / 2 := by omega
   have h1 := ih (p / 2) (by omega) (x / 2) (S / 2) hp2 hx2 hlt2
   rw [e] at hd
   rw [← hd] at h1
   by_cases hxo : x % 2 = 1
   ·have : ((p - 1) &&& S) % 2 = 1 := Nat.and_mod_two_eq_one.2 ⟨by omega, hmx hxo⟩
    omega
   ·omega
section
variable {T U : Nat → Int}
theorem zRr {n S x : Nat} (hS : S < 2 ^ 63) (hx : x < 2 ^ 63) : mem n (dif S x) = (mem n S).filter fun i => !x.testBit i := by
 unfold mem
 rw [List.filter_filter]
 refine List.filter_congr fun i _ => ?_
 rw [(zKm hS hx).2.2.2 i, Bool.and_comm]
theorem z1p {n S x : Nat} (h : x &&& S = x) : mem n x = (mem n S).filter fun i => x.testBit i := by
 unfold mem
 rw [List.filter_filter]
 refine List.filter_congr fun i _ => ?_
 cases hb : x.testBit i with
 | false => rfl
 | true => rw [zTk.1 h i hb]; rfl
theorem zrq {n S a p : Nat} (hn : n ≤ 9) (hS : S < 2 ^ n) (ha : S.testBit a = true) : CanL T U (p + 1) (mem n S) ↔ ∃ x, x &&& S = x ∧ x.testBit a = true ∧ zub T U (mem n x) ∧ CanL T U p (mem n (dif S x)) := by
 have hb : 2 ^ n ≤ 2 ^ 9 := Nat.pow_le_pow_right (by omega) hn
 rw [CanL.step (zfg.2 ⟨zYo hS ha, ha⟩)]
 constructor
 ·rintro ⟨sub, h1, h2, h3⟩
  have hm : ∀ i, (msk (fun i => S.testBit i && sub i) n).testBit i = (decide (i < n) && (S.testBit i && sub i)) := fun i => zdv _ i n
  have hs : msk (fun i => S.testBit i && sub i) n &&& S = msk (fun i => S.testBit i && sub i) n := zTk.2 fun i hi => by
   rw [hm] at hi
   simp only [Bool.and_eq_true] at hi
   exact hi.2.1
  have hlt : msk (fun i => S.testBit i && sub i) n < 2 ^ n := zWs fun i hi => by
   rw [hm] at hi
   simp only [Bool.and_eq_true, decide_eq_true_eq] at hi
   exact hi.1
  refine ⟨_, hs, ?_, ?_, ?_⟩
  ·rw [hm, ha, h1]; simp [zYo hS ha]
  ·rw [z1p hs]
   have : (mem n S).filter (fun i => (msk (fun i => S.testBit i && sub i) n).testBit i) = (mem n S).filter sub := List.filter_congr fun i hi => by
    obtain ⟨h, h'⟩ := zfg.1 hi
    rw [hm, h']; simp [h]
   rw [this]; exact h2
  ·rw [zRr (by omega) (by omega)]
   have : (mem n S).filter (fun i => !(msk (fun i => S.testBit i && sub i) n).testBit i) = (mem n S).filter fun i => !sub i := List.filter_congr fun i hi => by
    obtain ⟨h, h'⟩ := zfg.1 hi
    rw [hm, h']; simp [h]
   rw [this]; exact h3
 ·rintro ⟨x, h1, h2, h3, h4⟩
  have hlt : x ≤ S := by rw [← h1]; exact Nat.and_le_right
  refine ⟨fun i => x.testBit i, h2, ?_, ?_⟩
  ·rw [← z1p h1]; exact h3
  ·rw [← zRr (by omega) (by omega)]; exact h4
end
def Ros (f : zd) (p S : Nat) (rows : List (SL Int)) : Prop := rows.length = p ∧ ∃ qs : List (List Nat), rows.map (·.1) = qs.map cst ∧ qs.flatten.Perm (mem (nS f) S) ∧ ∀ q ∈ qs, InT (TT f) (UU f) 0 q
abbrev Can (f : zd) (p S : Nat) : Prop := CanL (TT f) (UU f) p (mem (nS f) S)
def zlp (f : zd) (p S : Nat) (l : SL (SL Int)) : Prop := (l.2 = .nil → ¬ Can f p S) ∧ (l.2 ≠ .nil → Can f p S ∧ Ros f p S l.1)
abbrev Memo := List (zt × SL (SL Int))
def zsf (f : zd) (u : Memo) : Prop := ∀ p S : Nat, S < 2 ^ nS f → ∀ l, zV zw ⟨(S : Int), (p : Int)⟩ u = some l → zlp f p S l
theorem zDu (a b : zt) : zw a b = true ↔ a = b := by
 cases a; cases b
 simp [zw]
theorem zsf.set {f : zd} {u : Memo} (h : zsf f u) {p S : Nat} {l : SL (SL Int)} (hl : zlp f p S l) : zsf f (mset zw ⟨(S : Int), (p : Int)⟩ l u) := by
 intro p' S' hS' l' h'
 rw [zdu zDu] at h'
 split at h'
 ·rename_i e
  simp only [zt.mk.injEq] at e
  obtain ⟨e1, e2⟩ := e
  obtain rfl : S' = S := by omega
  obtain rfl : p' = p := by omega
  simp only [Option.some.injEq] at h'
  subst h'
  exact hl
 ·exact h p' S' hS' l' h'
abbrev RcT := Memo → zt → Option (SL (SL Int) × Memo)
def RcOK (f : zd) (p : Nat) (rc : RcT) : Prop := ∀ (u : Memo) (S : Nat), zsf f u → S < 2 ^ nS f → Ok (rc u ⟨(S : Int), (p : Int)⟩) (fun r => zsf f r.2 ∧ zlp f p S r.1)
theorem zuw {k : Nat} {f : zd} (hs : zeb f) (hk : Fuel k f) (hF : Fine f) (p1 : zt) {v1 : SL Int} (h1 : v1.1 = (List.range (nS f)).map (TT f)) (u0 : Memo) {S p : Nat} (hS : S < 2 ^ nS f) (h0 : S ≠ 0) (hp : p < 8) {rc : RcT} (hrc : RcOK f p rc) {u : Memo} (hu : zsf f u) :
  Ok (iter (fun s => zbd k ⟨f⟩ p1 v1 u0 ⟨(S : Int), ((p + 1 : Nat) : Int)⟩ rc s.1 s.2) k ((S : Int), u)) (fun r => match r with
   | .inl v => zsf f v.2 ∧ ¬ Can f (p + 1) S
   | .inr v => zsf f v.2.2.2.2.2 ∧ v.1.2 ≠ .nil ∧ Can f (p + 1) S ∧ Ros f (p + 1) S v.1.1) := by
 have h9 := hF.nslips
 have hb : 2 ^ nS f ≤ 2 ^ 9 := Nat.pow_le_pow_right (by omega) h9
 obtain ⟨hla, hlow⟩ := zmz h0 (show S < 512 by omega)
 have hstep := zrq (T := TT f) (U := UU f) (p := p) h9 hS hla
 refine Ok.iter (fun j s => ∃ x : Nat, s.1 = (x : Int) ∧ x &&& S = x ∧ x + j ≤ 511 ∧ zsf f s.2 ∧ ∀ y, y &&& S = y → x < y → y.testBit (low S) = true → ¬ (zub (TT f) (UU f) (mem (nS f) y) ∧ Can f p (dif S y))) 511 ?_ ⟨S, rfl, Nat.and_self S, by omega, hu, fun y hy hlt => absurd (show y ≤ S by rw [← hy]; exact Nat.and_le_right) (by omega)⟩ (by have := hk.k0; omega)
 rintro j ⟨a, u⟩ hj ⟨x, ha, hx, hxj, hm, hall⟩
 obtain rfl : a = (x : Int) := ha
 have hm : zsf f u := hm
 have hxS : x ≤ S := by rw [← hx]; exact Nat.and_le_right
 have next : ∀ (u' : Memo), zsf f u' → x ≠ 0 → (x.testBit (low S) = true → ¬ (zub (TT f) (UU f) (mem (nS f) x) ∧ Can f p (dif S x))) →
   ∃ y : Nat, zSc (w64 ((x : Int) - 1)) (S : Int) = (y : Int) ∧ y &&& S = y ∧ y + (j + 1) ≤ 511 ∧ zsf f u' ∧ ∀ z, z &&& S = z → y < z → z.testBit (low S) = true → ¬ (zub (TT f) (UU f) (mem (nS f) z) ∧ Can f p (dif S z)) := by
  intro u' hu' hx0 hno
  have e : w64 ((x : Int) - 1) = ((x - 1 : Nat) : Int) := by rw [zL (by omega) (by omega)]; omega
  refine ⟨(x - 1) &&& S, by rw [e, zYu (by omega) (by omega)], ?_, ?_, hu', fun z hz hlt hzb => ?_⟩
  ·rw [Nat.and_assoc, Nat.and_self]
  ·have : (x - 1) &&& S ≤ x - 1 := Nat.and_le_left
   omega
  ·by_cases hzx : x < z
   ·exact hall z hz hzx hzb
   ·by_cases e : z = x
    ·subst e; exact hno hzb
    ·have := z2t x z S hx hz (by omega)
     omega
 simp only [zbd, hlow x (by omega)]
 cases hbx : x.testBit (low S) with
 | false =>
  simp only [Bool.not_false, cond_true]
  refine Ok.cond (fun hz => Ok.pure ?_) (fun hz => Ok.pure ?_)
  ·have hx0 : x = 0 := by have := beq_iff_eq.1 hz; omega
   refine ⟨hm, fun hc => ?_⟩
   obtain ⟨y, y1, y2, y3, y4⟩ := hstep.1 hc
   refine hall y y1 ?_ y2 ⟨y3, y4⟩
   rw [hx0]
   apply Nat.pos_of_ne_zero
   rintro rfl
   simp at y2
  ·have hx0 : x ≠ 0 := fun e => by subst e; simp at hz
   obtain ⟨y, e, r⟩ := next u hm hx0 (fun h => by rw [hbx] at h; cases h)
   exact ⟨by omega, y, e, r⟩
 | true =>
  have hx0 : x ≠ 0 := by rintro rfl; simp at hbx
  simp only [Bool.not_true, cond_false]
  refine Ok.bind (z4x hs hk hF (S := x) (by omega) h1) fun v hv => ?_
  rcases hv with ⟨h2, hfit, q, hq, hqp, hqi⟩ | ⟨h2, hno⟩
  ·rw [h2]
   simp only [Bool.not_true, cond_false]
   have hd := zKm (x := S) (y := x) (by omega) (by omega)
   have e1 : w64 (((p + 1 : Nat) : Int) - 1) = (p : Int) := by rw [zL (by omega) (by omega)]; omega
   rw [hd.1, e1]
   refine Ok.bind (hrc u (dif S x) hm (by have := hd.2.2.1; omega)) fun w ⟨w1, w2⟩ => ?_
   refine Ok.cond (fun hn => ?_) (fun hn => ?_)
   ·have hne : w.1.2 ≠ .nil := by simpa using hn
    obtain ⟨hc, hr1, qs, hr2, hr3, hr4⟩ := w2.2 hne
    have e2 : decide (([v.1] : List (SL Int)).length + w.1.1.length ≤ LIM) = true := by rw [hr1]; simp [LIM]; omega
    rw [e2]
    refine Ok.pure ⟨w1, ?_, hstep.2 ⟨x, hx, hbx, hfit, hc⟩, ?_, q :: qs, ?_, ?_, fun y hy => ?_⟩
    ·show cond w.1.1.isEmpty Cap.ex Cap.ro ≠ .nil
     cases w.1.1.isEmpty <;> simp
    ·show ([v.1] ++ w.1.1).length = _
     simp [hr1]
    ·show ([v.1] ++ w.1.1).map _ = _
     simp [hr2, hq]
    ·rw [List.flatten_cons]
     have hpp : (q ++ qs.flatten).Perm (mem (nS f) x ++ mem (nS f) (dif S x)) := hqp.append hr3
     refine hpp.trans ?_
     rw [zRr (by omega) (by omega), z1p hx]
     exact List.filter_append_perm _ _
    ·rcases List.mem_cons.1 hy with rfl | hy
     ·exact hqi
     ·exact hr4 y hy
   ·have hne : w.1.2 = .nil := by simpa using hn
    obtain ⟨y, e, r⟩ := next w.2 w1 hx0 (fun _ h => w2.1 hne h.2)
    exact Ok.pure ⟨by omega, y, e, r⟩
  ·rw [h2]
   simp only [Bool.not_false, cond_true]
   obtain ⟨y, e, r⟩ := next u hm hx0 (fun _ h => hno h.1)
   exact Ok.pure ⟨by omega, y, e, r⟩
theorem z1v {k : Nat} {f : zd} (hs : zeb f) (hk : Fuel k f) (hF : Fine f) (p1 : zt) {v1 : SL Int} (h1 : v1.1 = (List.range (nS f)).map (TT f)) {p : Nat} (hp : p ≤ 8) {rc : RcT} (hrc : ∀ p', p = p' + 1 → RcOK f p' rc) : RcOK f p (zzb k ⟨f⟩ p1 v1 rc) := by
 intro u S hu hS
 unfold zzb
 refine Ok.cond (fun hf => ?_) (fun hf => ?_)
 ·obtain ⟨l, hl⟩ := Option.isSome_iff_exists.1 hf
  rw [hl]
  exact Ok.pure ⟨hu, hu p S hS l hl⟩
 ·refine Ok.cond (fun h0 => ?_) (fun h0 => ?_)
  ·have hS0 : S = 0 := by
    simp only [Bool.and_eq_true, beq_iff_eq] at h0
    have := h0.1
    omega
   subst hS0
   obtain ⟨mp, hmp⟩ : ∃ mp, mp = max 1 p := ⟨_, rfl⟩
   have e0 : (if (p : Int) > 1 then (p : Int) else 1) = (mp : Int) := by split <;> omega
   simp only [e0]
   have e1 : (decide (0 ≤ (mp : Int)) && decide ((mp : Int) ≤ (LIM : Int))) = true := by
    have : mp ≤ 8 := by omega
    have h8 : LIM = 4398046511104 := rfl
    simp only [Bool.and_eq_true, decide_eq_true_eq]
    omega
   have e2 : (decide (0 ≤ (p : Int)) && decide ((p : Int) ≤ ((List.replicate (mp : Int).toNat (([], Cap.nil) : SL Int) : List (SL Int)).length : Int))) = true := by
    rw [List.length_replicate, Int.toNat_natCast]
    simp only [Bool.and_eq_true, decide_eq_true_eq]
    omega
   rw [e1, e2]
   simp only [cond_true, Int.toNat_natCast]
   have hem : mem (nS f) 0 = [] := by simp [mem]
   have hnil : (List.replicate p ([] : List Nat)).flatten = [] := by simp
   refine Ok.pure ⟨hu, fun h => (by cases h), fun _ => ⟨by show CanL _ _ _ _; rw [hem]; exact CanL.nil p, ?_, List.replicate p [], ?_, by rw [hem, hnil], fun q hq => by rw [List.eq_of_mem_replicate hq]; trivial⟩⟩
   ·show ((List.replicate mp (([], Cap.nil) : SL Int)).take p).length = p
    rw [List.length_take, List.length_replicate]; omega
   ·show ((List.replicate mp (([], Cap.nil) : SL Int)).take p).map _ = _
    rw [List.take_replicate, Nat.min_eq_left (by omega)]
    simp [cst]
  ·have hS0 : S ≠ 0 := by
    rintro rfl
    simp at h0
   cases p with
   | zero =>
    have e : decide (((0 : Nat) : Int) > 0) = false := by decide
    rw [e]
    have hg : zlp f 0 S ([], .nil) := ⟨fun _ hc => zBt hS hS0 (CanL.zero.1 hc), fun h => absurd rfl h⟩
    exact Ok.pure ⟨hu.set hg, hg⟩
   | succ p =>
    have e : decide (((p + 1 : Nat) : Int) > 0) = true := by simp
    rw [e]
    simp only [cond_true]
    refine Ok.bind (zuw hs hk hF p1 h1 u hS hS0 (by omega) (hrc p rfl) hu) fun v hv => ?_
    cases v with
    | inl v =>
     have hg : zlp f (p + 1) S ([], .nil) := ⟨fun _ => hv.2, fun h => absurd rfl h⟩
     exact Ok.pure ⟨zsf.set hv.1 hg, hg⟩
    | inr v =>
     obtain ⟨v1, v2, v3, v4⟩ := hv
     have hg : zlp f (p + 1) S v.1 := ⟨fun h => absurd h v2, fun _ => ⟨v3, v4⟩⟩
     exact Ok.pure ⟨v1.set hg, hg⟩
theorem zws {k : Nat} {f : zd} (hs : zeb f) (hk : Fuel k f) (hF : Fine f) (p1 : zt) {v1 : SL Int} (h1 : v1.1 = (List.range (nS f)).map (TT f)) : ∀ (m p : Nat), p < m → p ≤ 8 → RcOK f p (zhc k ⟨f⟩ p1 v1 m)
 | 0, p, h, _ => by omega
 | m + 1, p, h, h8 => z1v hs hk hF p1 h1 h8 fun p' hp' => zws hs hk hF p1 h1 m p' (by omega) (by omega)
theorem zAw {k : Nat} {f : zd} (hs : zeb f) (hk : Fuel k f) (hF : Fine f) {p S : Nat} (hp : p ≤ 8) (hS : S < 2 ^ nS f) : Ok (zN k ⟨f⟩ ⟨(S : Int), (p : Int)⟩) (fun r => (r.2 = true ↔ Can f p S) ∧ (r.2 = true → r.1.2 ≠ .nil ∧ Ros f p S r.1.1)) := by
 unfold zN
 refine Ok.bind (z7v hs hk hF) fun v1 h1 => ?_
 refine Ok.bind (zws hs hk hF _ h1 9 p (by omega) hp [] S (fun p S _ l hl => by simp [zV] at hl) hS) fun v ⟨h2, h3⟩ => Ok.pure ?_
 by_cases hn : v.1.2 = .nil
 ·have e : (!decide (v.1.2 = .nil)) = false := by simp [hn]
  exact ⟨⟨fun h => (by rw [e] at h; cases h), fun h => absurd h (h3.1 hn)⟩, fun h => (by rw [e] at h; cases h)⟩
 ·have e : (!decide (v.1.2 = .nil)) = true := by simp [hn]
  exact ⟨⟨fun _ => (h3.2 hn).1, fun _ => e⟩, fun _ => ⟨hn, (h3.2 hn).2⟩⟩
end Go.AM
namespace Go.AM
open Go
section
variable {α β : Type}
theorem zLt {n : Nat} (h : n ≤ 1000000) : decide (n ≤ LIM) = true := decide_eq_true (by show _ ≤ 4398046511104; omega)
end
end Go.AM
namespace Go.AM
open Go
section
variable {α β : Type}
theorem zxt : ∀ {l l' : List Int}, l.Pairwise (· < ·) → l'.Pairwise (· < ·) → (∀ x, x ∈ l ↔ x ∈ l') → l = l'
 | [], [], _, _, _ => rfl
 | [], b :: t, _, _, h => by have := (h b).2 (.head _); cases this
 | a :: t, [], _, _, h => by have := (h a).1 (.head _); cases this
 | a :: t, b :: t', h1, h2, h => by
  obtain ⟨h3, h4⟩ := List.pairwise_cons.1 h1
  obtain ⟨h5, h6⟩ := List.pairwise_cons.1 h2
  have hab : a = b := by
   have ha := (h a).1 (.head _)
   have hb := (h b).2 (.head _)
   cases ha with
   | head => rfl
   | tail _ ha =>
    cases hb with
    | head => rfl
    | tail _ hb =>
     have := h5 a ha
     have := h3 b hb
     omega
  subst hab
  rw [zxt h4 h6 fun x => ?_]
  have hx := h x
  constructor
  ·intro hm
   have := h3 x hm
   cases hx.1 (.tail _ hm) with
   | head => omega
   | tail _ h => exact h
  ·intro hm
   have := h5 x hm
   cases hx.2 (.tail _ hm) with
   | head => omega
   | tail _ h => exact h
theorem zPz {x y : Nat} (hx : x < 2 ^ 63) (hy : y < 2 ^ 63) : or64 (x : Int) (y : Int) = ((x ||| y : Nat) : Int) := by
 unfold or64
 have hb : (BitVec.ofInt 64 (x : Int) ||| BitVec.ofInt 64 (y : Int)).toNat = x ||| y := by
  rw [BitVec.toNat_or, BitVec.ofInt_natCast, BitVec.ofInt_natCast, BitVec.toNat_ofNat, BitVec.toNat_ofNat, Nat.mod_eq_of_lt (by omega), Nat.mod_eq_of_lt (by omega)]
 have h2 : x ||| y < 2 ^ 63 := Nat.or_lt_two_pow hx hy
 rw [hb, zL (by omega) (by omega)]
end
end Go.AM
set_option linter.unusedVariables false
namespace Go.AM
open Go
theorem zDz (k : Nat) {S j : Nat} (hj : j < 64) (hS : S < 2 ^ 63) : zze k (S : Int) (j : Int) = some (S.testBit j) := by
 have e : decide ((j : Int) < 0) = false := by simp
 simp only [zze, e, cond_false, zlt hj hS]
structure zsv (S n : Nat) (l : List Int) : Prop where
 climbs : l.Pairwise (· < ·)
 mem : ∀ x, x ∈ l ↔ ∃ i : Nat, x = (i : Int) ∧ i < n ∧ S.testBit i = true
 len : l.length ≤ n
theorem zsv.eq {S n : Nat} {l l' : List Int} (h : zsv S n l) (h' : zsv S n l') : l = l' := zxt h.climbs h'.climbs fun x => (h.mem x).trans (h'.mem x).symm
def ints (l : List Nat) : List Int := l.map fun i : Nat => (i : Int)
theorem zjj (l : List Nat) : (ints l).length = l.length := by simp [ints]
theorem zqs (l : List Nat) (i : Nat) : ints (l ++ [i]) = ints l ++ [(i : Int)] := by simp [ints]
theorem zLp {a c : List Nat} (h : ints a = ints c) : a = c := by
 refine (List.map_inj_right (f := fun i : Nat => (i : Int)) fun x y h => ?_).1 h
 exact Int.ofNat.inj h
theorem zbo {l : List Nat} {i : Nat} (h : i < l.length) : idx (ints l) (i : Int) = some ((l[i] : Nat) : Int) := by
 rw [zcb (by rw [zjj]; exact h)]
 simp [ints]
abbrev z9s (l : List Nat) : Prop := l.Pairwise (· < ·)
def ltL (a c : List Nat) : Prop := ∃ x, x ∈ a ∧ x ∉ c ∧ ∀ y, y < x → (y ∈ a ↔ y ∈ c)
theorem zKy {a c : List Nat} (h : ltL a c) (g : ltL c a) : False := by
 obtain ⟨x, h1, h2, h3⟩ := h
 obtain ⟨y, g1, g2, g3⟩ := g
 rcases Nat.lt_trichotomy x y with h4 | h4 | h4
 ·exact h2 ((g3 x h4).2 h1)
 ·subst h4; exact h2 g1
 ·exact g2 ((h3 y h4).2 g1)
def leS (a c : List Nat) : Prop := a.length < c.length ∨ (a.length = c.length ∧ (a = c ∨ ltL a c))
theorem zDx {a c : List Nat} (h : leS a c) (g : leS c a) : a = c := by
 rcases h with h | ⟨h, h'⟩ <;> rcases g with g | ⟨g, g'⟩
 ·omega
 ·omega
 ·omega
 ·rcases h' with rfl | h'
  ·rfl
  ·rcases g' with rfl | g'
   ·rfl
   ·exact (zKy h' g').elim
structure Best (n : Nat) (P : List Nat → Prop) (l : List Nat) : Prop where
 climb : z9s l
 lt : ∀ i ∈ l, i < n
 ok : P l
 least : ∀ l', z9s l' → (∀ i ∈ l', i < n) → P l' → leS l l'
theorem Best.eq {n : Nat} {P : List Nat → Prop} {l l' : List Nat} (h : Best n P l) (g : Best n P l') : l = l' := zDx (h.least l' g.climb g.lt g.ok) (g.least l h.climb h.lt h.ok)
end Go.AM
set_option linter.unusedVariables false
namespace Go.AM
open Go
def allS (n : Nat) : Nat := 2 ^ n - 1
theorem zTp (n i : Nat) : (allS n).testBit i = decide (i < n) := by unfold allS; rw [Nat.testBit_two_pow_sub_one]
theorem z3u (n : Nat) : allS n < 2 ^ n := by
 have := Nat.two_pow_pos n
 unfold allS; omega
theorem z4r {n : Nat} (hn : n ≤ 9) : w64 (zo 1 (n : Int) - 1) = ((allS n : Nat) : Int) := by
 have h1 : 2 ^ n ≤ 2 ^ 9 := Nat.pow_le_pow_right (by omega) hn
 have h2 := Nat.two_pow_pos n
 have h3 : ((2 ^ n : Nat) : Int) = (2 : Int) ^ n := by push_cast; rfl
 rw [zBm (by omega), ← h3, zL (by omega) (by omega)]
 unfold allS
 omega
theorem z8u (n : Nat) : mem n (allS n) = List.range n := by
 unfold mem
 refine List.filter_eq_self.2 fun i hi => ?_
 rw [zTp]; simpa using hi
abbrev zYe (f : zd) (p : Nat) : Prop := CanL (TT f) (UU f) p (List.range (nS f))
theorem zSu (f : zd) (p : Nat) : Can f p (allS (nS f)) ↔ zYe f p := by show CanL _ _ _ (mem _ _) ↔ _; rw [z8u]
def z2o (f : zd) (p : Nat) : Prop := 1 ≤ p ∧ zYe f p ∧ ∀ q, 1 ≤ q → q < p → ¬ zYe f q
theorem zCw {k : Nat} {f : zd} (hs : zeb f) (hk : Fuel k f) (hF : Fine f) : Ok (zkd k ⟨f⟩) (fun r => (r.2.2 = true ∧ ∃ p : Nat, p ≤ 5 ∧ r.2.1 = (p : Int) ∧ z2o f p ∧ Ros f p (allS (nS f)) r.1.1 ∧ r.1.2 ≠ .nil) ∨ (r.2.2 = false ∧ ∀ q, 1 ≤ q → q ≤ 5 → ¬ zYe f q)) := by
 have h9 := hF.nslips
 unfold zkd
 refine Ok.bind (Ok.count 5 (fun j z => z = ((j + 1 : Nat) : Int) ∧ ∀ q, 1 ≤ q → q ≤ j → ¬ zYe f q) (Q := fun r : (SL (SL Int) × Int × Bool) ⊕ Int => match r with
  | .inl z => ∃ p : Nat, p ≤ 5 ∧ z.2.1 = (p : Int) ∧ z2o f p ∧ Ros f p (allS (nS f)) z.1.1 ∧ z.1.2 ≠ .nil
  | .inr _ => ∀ q, 1 ≤ q → q ≤ 5 → ¬ zYe f q) ?_ ?_ ⟨rfl, fun q h1 h2 => absurd h1 (by omega)⟩ (by have := hk.k0; omega)) fun r hr => ?_
 ·rintro j z hj ⟨rfl, hg⟩
  have c1 : decide (((j + 1 : Nat) : Int) ≤ 5) = true := by simp; omega
  have c2 : decide ((nS f : Int) < 0) = false := by simp
  have e := z4r h9
  simp only [zgd, c1, cond_true]
  show Ok (cond (decide ((nS f : Int) < 0)) none _) _
  rw [c2, cond_false]
  show Ok (Option.bind (zN k ⟨f⟩ ⟨w64 (zo 1 (nS f : Int) - 1), _⟩) _) _
  rw [e]
  refine Ok.bind (zAw hs hk hF (p := j + 1) (by omega) (z3u _)) fun v ⟨h1, h2⟩ => ?_
  rw [zSu] at h1
  cases hb : v.2 with
  | true =>
   obtain ⟨h3, h4⟩ := h2 hb
   rw [hb] at h1
   exact Ok.pure ⟨j + 1, by omega, rfl, ⟨by omega, h1.1 rfl, fun q hq1 hq2 => hg q hq1 (by omega)⟩, h4, h3⟩
  | false =>
   rw [hb] at h1
   refine Ok.pure ⟨by rw [zL (by omega) (by omega)]; push_cast; rfl, fun q hq1 hq2 hc => ?_⟩
   by_cases e : q = j + 1
   ·subst e; have := h1.2 hc; cases this
   ·exact hg q hq1 (by omega) hc
 ·rintro z ⟨rfl, hg⟩
  have c1 : decide (((5 + 1 : Nat) : Int) ≤ 5) = false := by decide
  simp only [zgd, c1, cond_false]
  exact Ok.pure hg
 ·cases r with
  | inl z => exact Ok.pure (.inl ⟨rfl, hr⟩)
  | inr z => exact Ok.pure (.inr ⟨rfl, hr⟩)
def zfx (f : zd) (r : SL (SL Int) × Int) : Prop :=
 (¬ Fine f ∧ r.1.1 = [] ∧ r.2 = 30) ∨ (Fine f ∧ r.2 = 0 ∧ ∃ p : Nat, p ≤ 5 ∧ z2o f p ∧ Ros f p (allS (nS f)) r.1.1) ∨ (Fine f ∧ r.2 = 4 ∧ r.1.1 = [] ∧ ∀ q, 1 ≤ q → q ≤ 5 → ¬ zYe f q)
theorem zTw {k : Nat} {f : zd} (hs : zeb f) (hk : Fuel k f) : Ok (zgg k f) (zfx f) := by
 unfold zgg zMk
 obtain ⟨c, hc, hc'⟩ := zBu hs hk
 rw [hc]
 by_cases hF : Fine f
 ·rw [if_pos hF] at hc'
  subst hc'
  have t : ((0 : Int) != 0) = false := by decide
  simp only [Option.bind_some, t, cond_false, zxh, Bool.not_true]
  refine Ok.bind (zCw hs hk hF) fun v hv => ?_
  rcases hv with ⟨h1, p, h2, h3, h4, h5, h6⟩ | ⟨h1, h2⟩
  ·rw [h1]
   exact Ok.pure (.inr (.inl ⟨hF, rfl, p, h2, h4, h5⟩))
  ·rw [h1]
   exact Ok.pure (.inr (.inr ⟨hF, rfl, rfl, h2⟩))
 ·rw [if_neg hF] at hc'
  subst hc'
  have t : ((30 : Int) != 0) = true := by decide
  simp only [Option.bind_some, t, cond_true]
  exact Ok.pure (.inl ⟨hF, rfl, rfl⟩)
def z1o (b : zd) (p : Nat) (l : List Nat) : Prop := CanL (TT b) (UU b) p ((List.range (nS b)).filter fun i => !l.contains i)
end Go.AM
set_option linter.unusedVariables false
namespace Go.AM
open Go
section
variable {T U : Nat → Int}
end
theorem zAs {f : zd} {q p : Nat} (h : z2o f q) (hp : 1 ≤ p) : zYe f p ↔ q ≤ p := by
 constructor
 ·intro hc
  apply Classical.byContradiction
  intro hn
  exact h.2.2 p hp (by omega) hc
 ·intro hle
  exact h.2.1.more hle
end Go.AM
set_option linter.unusedVariables false
namespace Go.AM
open Go
theorem z6y {n : Nat} (hn : n ≤ 9) : zo 1 (n : Int) = ((2 ^ n : Nat) : Int) := by
 rw [zBm (by omega)]; push_cast; rfl
end Go.AM
set_option linter.unusedVariables false
namespace Go.AM
open Go
section
variable {T U T' U' : Nat → Int}
theorem zPq (U : Nat → Int) (x : Nat) : ∀ t : List Nat, t.Pairwise (fun a b => U a ≤ U b) → ∃ l' : List Nat, l'.Perm (x :: t) ∧ l'.Pairwise fun a b => U a ≤ U b
 | [], _ => ⟨[x], .refl _, List.pairwise_singleton _ _⟩
 | y :: t, h => by
  have hc := List.pairwise_cons.1 h
  by_cases hxy : U x ≤ U y
  ·refine ⟨x :: y :: t, .refl _, List.pairwise_cons.2 ⟨fun z hz => ?_, h⟩⟩
   rcases List.mem_cons.1 hz with rfl | hz
   ·exact hxy
   ·have := hc.1 z hz; omega
  ·obtain ⟨l', h1, h2⟩ := zPq U x t hc.2
   refine ⟨y :: l', ?_, List.pairwise_cons.2 ⟨fun z hz => ?_, h2⟩⟩
   ·exact (h1.cons y).trans (.swap x y t)
   ·rcases List.mem_cons.1 (h1.mem_iff.1 hz) with rfl | hz
    ·omega
    ·exact hc.1 z hz
theorem zKs (U : Nat → Int) : ∀ l : List Nat, ∃ l' : List Nat, l'.Perm l ∧ l'.Pairwise fun a b => U a ≤ U b
 | [] => ⟨[], .refl _, .nil⟩
 | x :: t => by
  obtain ⟨t', h1, h2⟩ := zKs U t
  obtain ⟨l', h3, h4⟩ := zPq U x t' h2
  exact ⟨l', h3.trans (h1.cons x), h4⟩
theorem InT.mono : ∀ {l : List Nat} {now now' : Int}, (∀ i ∈ l, T' i ≤ T i ∧ U i ≤ U' i) → now' ≤ now → InT T U now l → InT T' U' now' l
 | [], _, _, _, _, _ => trivial
 | x :: t, now, now', h, hn, hi => by
  obtain ⟨h1, h2⟩ := h x (by simp)
  obtain ⟨h3, h4⟩ := hi
  exact ⟨by omega, InT.mono (fun i hi => h i (by simp [hi])) (by omega) h4⟩
theorem zub.mono (hT : ∀ i, 0 ≤ T i) (hT' : ∀ i, 0 ≤ T' i) {l : List Nat} (h : ∀ i ∈ l, T' i ≤ T i ∧ U i ≤ U' i) (hf : zub T U l) : zub T' U' l := by
 obtain ⟨l', h1, h2⟩ := zKs U l
 have hi := (hf.perm h1.symm).inT hT h2
 exact (InT.fits hT' (InT.mono (fun i hi => h i (h1.mem_iff.1 hi)) (Int.le_refl _) hi)).perm h1
theorem CanL.mono (hT : ∀ i, 0 ≤ T i) (hT' : ∀ i, 0 ≤ T' i) {p : Nat} {l : List Nat} (h : ∀ i ∈ l, T' i ≤ T i ∧ U i ≤ U' i) : CanL T U p l → CanL T' U' p l := fun ⟨g, h1, h2⟩ =>
 ⟨g, h1, fun q => (h2 q).mono hT hT' fun i hi => h i (List.mem_filter.1 hi).1⟩
theorem CanL.own (hT : ∀ i, 0 ≤ T i) {p : Nat} {l : List Nat} {i : Nat} (hi : i ∈ l) : CanL T U p l → T i ≤ U i := fun ⟨g, h1, h2⟩ => by
 have hm : i ∈ l.filter fun j => g j == g i := List.mem_filter.2 ⟨hi, by simp⟩
 have := h2 (g i) i hm
 have h3 : T i ≤ lsum T U (U i) (l.filter fun j => g j == g i) := by
  have : ([i] : List Nat).Sublist (l.filter fun j => g j == g i) := List.singleton_sublist.2 hm
  have h4 := zht (U := U) (u := U i) hT this
  simp only [lsum, Int.le_refl, if_true] at h4
  omega
 omega
end
def CanU (f : zd) (i : Nat) (u : Int) (p : Nat) : Prop := CanL (TT f) (fun j => if j = i then u else UU f j) p (List.range (nS f))
theorem CanU.own {f : zd} (hF : Fine f) {i : Nat} (hi : i < nS f) {u : Int} {p : Nat} (h : CanU f i u p) : TT f i ≤ u := by
 have := CanL.own (zLm hF) (List.mem_range.2 hi) h
 simpa using this
theorem CanU.later {f : zd} (hF : Fine f) {i : Nat} {u u' : Int} (hu : u ≤ u') {p : Nat} (h : CanU f i u p) : CanU f i u' p :=
 CanL.mono (zLm hF) (zLm hF) (fun j _ => ⟨Int.le_refl _, by split <;> omega⟩) h
theorem CanU.same {f : zd} {i : Nat} {p : Nat} : CanU f i (UU f i) p ↔ zYe f p := by
 have e : (fun j => if j = i then UU f i else UU f j) = UU f := by
  funext j
  split
  ·rename_i h; rw [h]
  ·rfl
 unfold CanU
 rw [e]
end Go.AM
set_option linter.unusedVariables false
namespace Go.AM
open Go
def Eas (f x : zd) : Prop := ∀ p l, z9s l → (∀ i ∈ l, i < nS f) → z1o f p l → ∃ l', z9s l' ∧ (∀ i ∈ l', i < nS x) ∧ z1o x p l' ∧ l'.length ≤ l.length
theorem z1t {f : zd} {p : Nat} : z1o f p [] ↔ zYe f p := by
 unfold z1o
 have : (List.range (nS f)).filter (fun i => !([] : List Nat).contains i) = List.range (nS f) := List.filter_eq_self.2 fun i _ => by simp
 rw [this]
theorem Eas.all {f x : zd} (h : Eas f x) {p : Nat} (hc : zYe f p) : zYe x p := by
 obtain ⟨l', _, _, h3, h4⟩ := h p [] List.Pairwise.nil (fun i hi => by cases hi) (z1t.2 hc)
 have : l' = [] := List.length_eq_zero_iff.1 (by simpa using h4)
 rw [this] at h3
 exact z1t.1 h3
theorem Eas.of {f x : zd} (hF : Fine f) (hX : Fine x) (hn : nS x = nS f) (ht : ∀ i, i < nS f → TT x i ≤ TT f i ∧ UU f i ≤ UU x i) : Eas f x := by
 intro p l h1 h2 h3
 refine ⟨l, h1, by rw [hn]; exact h2, ?_, Nat.le_refl _⟩
 unfold z1o at h3 ⊢
 rw [hn]
 exact CanL.mono (zLm hF) (zLm hX) (fun i hi => ht i (List.mem_range.1 (List.mem_filter.1 hi).1)) h3
end Go.AM
set_option linter.unusedVariables false
namespace Go.AM
open Go
theorem zIi {qs : List (List Nat)} : qs.flatten.Nodup ↔ (∀ q ∈ qs, q.Nodup) ∧ qs.Pairwise fun a b => ∀ x ∈ a, ∀ y ∈ b, x ≠ y := List.pairwise_flatten
theorem z7n {qs : List (List Nat)} (h : qs.flatten.Nodup) {i j : Nat} (hi : i < qs.length) (hj : j < qs.length) {x : Nat} (h1 : x ∈ qs[i]) (h2 : x ∈ qs[j]) : i = j := by
 have hp := List.pairwise_iff_getElem.1 (zIi.1 h).2
 apply Classical.byContradiction
 intro hne
 rcases Nat.lt_or_ge i j with hl | hl
 ·exact hp i j hi hj hl x h1 x h2 rfl
 ·exact hp j i hj hi (by omega) x h2 x h1 rfl
section
variable {T U : Nat → Int}
def sumT (T : Nat → Int) : List Nat → Int
 | [] => 0
 | x :: t => T x + sumT T t
theorem zSj (T : Nat → Int) : ∀ (l : List Nat) (x : Nat), sumT T (l ++ [x]) = sumT T l + T x
 | [], x => by simp [sumT]
 | y :: l, x => by simp only [List.cons_append, sumT, zSj T l x]; omega
theorem zhs {T : Nat → Int} {b : Int} : ∀ (l : List Nat), (∀ x ∈ l, 0 ≤ T x ∧ T x ≤ b) → 0 ≤ sumT T l ∧ sumT T l ≤ b * l.length
 | [], _ => by simp [sumT]
 | x :: l, h => by
  have h1 := h x (by simp)
  have h2 := zhs l fun y hy => h y (by simp [hy])
  have e : b * ((x :: l).length : Int) = b * (l.length : Int) + b := by
   rw [List.length_cons]; push_cast; rw [Int.mul_add, Int.mul_one]
  simp only [sumT]
  omega
end
def zto (n S : Nat) (l : List Int) (q : List Nat) : Prop := l = ints q ∧ q.Nodup ∧ ∀ x ∈ q, x < n ∧ S.testBit x = false
theorem zGo (q : List Nat) (j : Nat) : (ints q).take j = ints (q.take j) := by simp [ints, List.map_take]
theorem zto.take {n S : Nat} {l : List Int} {q : List Nat} (h : zto n S l q) (j : Nat) : zto n S (l.take j) (q.take j) :=
 ⟨by rw [h.1, zGo], h.2.1.sublist (List.take_sublist _ _), fun x hx => h.2.2 x (List.mem_of_mem_take hx)⟩
theorem zez {S v : Nat} (i : Nat) : (S ||| 2 ^ v).testBit i = true ↔ S.testBit i = true ∨ i = v := by
 rw [Nat.testBit_or, Nat.testBit_two_pow]
 simp only [Bool.or_eq_true, decide_eq_true_eq]
 exact or_congr Iff.rfl ⟨fun h => h.symm, fun h => h.symm⟩
theorem z1y {S v : Nat} (hS : S < 2 ^ 9) (hv : v < 9) : or64 (S : Int) (zo 1 (v : Int)) = ((S ||| 2 ^ v : Nat) : Int) := by
 rw [zBm (by omega)]
 have : ((2 : Int) ^ v) = ((2 ^ v : Nat) : Int) := by push_cast; rfl
 rw [this]
 have h2 : 2 ^ v < 2 ^ 9 := Nat.pow_lt_pow_right (by omega) hv
 exact zPz (by omega) (by omega)
theorem zKu {k : Nat} {f : zd} (hs : zeb f) (hF : Fine f) (p1 : SL (SL Int)) (s1 : Int) (row : SL Int) (hrow : row.1.length < k ∧ row.1.length < 9223372036854775808) {S : Nat} (hS : S < 2 ^ nS f) :
  Ok (iter (fun s => zVb k ⟨f⟩ p1 s1 row s.1 s.2) k ((S : Int), 0)) (fun r => match r with
   | .inl _ => ∀ q, ¬ zto (nS f) S row.1 q
   | .inr z => ∃ q, zto (nS f) S row.1 q ∧ ∃ S' : Nat, z.1 = (S' : Int) ∧ S' < 2 ^ nS f ∧ ∀ i, S'.testBit i = true ↔ S.testBit i = true ∨ i ∈ q) := by
 have h9 := hF.nslips
 have h512 : 2 ^ nS f ≤ 2 ^ 9 := Nat.pow_le_pow_right (by omega) h9
 refine Ok.count row.1.length (fun j s => s.2 = (j : Int) ∧ ∃ q, zto (nS f) S (row.1.take j) q ∧ ∃ S' : Nat, s.1 = (S' : Int) ∧ S' < 2 ^ nS f ∧ ∀ i, S'.testBit i = true ↔ S.testBit i = true ∨ i ∈ q) ?_ ?_ ⟨rfl, [], ⟨rfl, List.nodup_nil, fun x hx => by cases hx⟩, S, rfl, hS, fun i => by simp⟩ hrow.1
 ·rintro j ⟨m, i'⟩ hj ⟨hi', q, hq, S', hm, hS', hb⟩
  obtain rfl : i' = (j : Int) := hi'
  obtain rfl : m = (S' : Int) := hm
  have hbad : (∀ v : Nat, row.1[j] = (v : Int) → v < nS f → S'.testBit v = true) → ∀ q', ¬ zto (nS f) S row.1 q' := fun hv q' hq' => by
   obtain ⟨h1, h2, h3⟩ := hq'
   have hlen : row.1.length = q'.length := by rw [h1, zjj]
   have hj' : j < q'.length := by omega
   have e1 : row.1[j] = ((q'[j] : Nat) : Int) := by
    have := zbo hj'
    rw [← h1, zcb hj] at this
    exact Option.some.inj this
   have hx := h3 _ (List.getElem_mem hj')
   have hbit := hv _ e1 hx.1
   have e2 : q = q'.take j := by
    apply zLp
    rw [← hq.1, h1, zGo]
   rcases (hb _).1 hbit with h | h
   ·rw [hx.2] at h; cases h
   ·rw [e2, List.mem_take_iff_getElem] at h
    obtain ⟨i, hi, e⟩ := h
    have := (List.getElem_inj h2).1 e
    omega
  simp only [zVb, zKd, zFb hj, cond_true, zcb hj, Option.bind_some, z3w hs]
  by_cases hin : 0 ≤ row.1[j] ∧ row.1[j] ≤ (nS f : Int) - 1
  ·obtain ⟨v, hv⟩ : ∃ v : Nat, row.1[j] = (v : Int) := ⟨row.1[j].toNat, by omega⟩
   have hvn : v < nS f := by omega
   have c1 : (!(decide (0 ≤ row.1[j]) && decide (row.1[j] ≤ (nS f : Int) - 1))) = false := by simp only [Bool.not_eq_false', Bool.and_eq_true, decide_eq_true_eq]; exact hin
   rw [c1, hv]
   have c2 : decide ((v : Int) < 0) = false := by simp
   have h63 : S' < 2 ^ 63 := Nat.lt_of_lt_of_le hS' (Nat.le_trans h512 (by decide))
   rw [c2, zlt (by omega) h63]
   simp only [cond_false, Option.bind_some]
   cases hbit : S'.testBit v with
   | true =>
    exact Ok.pure (hbad fun w hw _ => by
     have : w = v := by rw [hv] at hw; omega
     subst this; exact hbit)
   | false =>
    rw [z1y (by omega) (by omega)]
    refine Ok.pure ⟨z6 hj hrow.2, q ++ [v], ⟨?_, ?_, ?_⟩, S' ||| 2 ^ v, rfl, ?_, fun i => ?_⟩
    ·rw [List.take_succ_eq_append_getElem hj, hq.1, hv, zqs]
    ·rw [List.nodup_append]
     refine ⟨hq.2.1, by simp, fun a ha b hb' => ?_⟩
     obtain rfl : b = v := by simpa using hb'
     intro e
     subst e
     have := (hb a).2 (.inr ha)
     rw [hbit] at this; cases this
    ·intro x hx
     rcases List.mem_append.1 hx with h | h
     ·exact hq.2.2 x h
     ·obtain rfl : x = v := by simpa using h
      refine ⟨hvn, ?_⟩
      cases hb2 : S.testBit x with
      | false => rfl
      | true =>
       have := (hb x).2 (.inl hb2)
       rw [hbit] at this; cases this
    ·exact Nat.or_lt_two_pow hS' (Nat.pow_lt_pow_right (by omega) hvn)
    ·rw [zez, hb]
     simp only [List.mem_append, List.mem_singleton]
     exact or_assoc
  ·have c1 : (!(decide (0 ≤ row.1[j]) && decide (row.1[j] ≤ (nS f : Int) - 1))) = true := by
    cases hd : (decide (0 ≤ row.1[j]) && decide (row.1[j] ≤ (nS f : Int) - 1)) with
    | false => rfl
    | true => simp only [Bool.and_eq_true, decide_eq_true_eq] at hd; exact absurd hd hin
   rw [c1]
   simp only [cond_true, Option.bind_some]
   exact Ok.pure (hbad fun v hv hn => absurd hin (by rw [hv]; omega))
 ·rintro ⟨m, i'⟩ ⟨hi', q, hq, S', hm, hS', hb⟩
  obtain rfl : i' = (row.1.length : Int) := hi'
  simp only [zVb, zkc, cond_false]
  rw [List.take_length] at hq
  exact Ok.pure ⟨q, hq, S', hm, hS', hb⟩
end Go.AM
set_option linter.unusedVariables false
namespace Go.AM
open Go
def Rows (R : List (SL Int)) (qs : List (List Nat)) : Prop := R.map (·.1) = qs.map ints
theorem Rows.len {R : List (SL Int)} {qs : List (List Nat)} (h : Rows R qs) : R.length = qs.length := by
 have := congrArg List.length h
 simpa using this
theorem Rows.get {R : List (SL Int)} {qs : List (List Nat)} (h : Rows R qs) {i : Nat} (hi : i < R.length) : R[i].1 = ints (qs[i]'(by have := h.len; omega)) := by
 have h1 : (R.map (·.1))[i]? = (qs.map ints)[i]? := by rw [h]
 have hq : i < qs.length := by have := h.len; omega
 simpa [List.getElem?_eq_getElem hi, List.getElem?_eq_getElem hq] using h1
theorem Rows.take {R : List (SL Int)} {qs : List (List Nat)} (h : Rows R qs) (i : Nat) : Rows (R.take i) (qs.take i) := by
 unfold Rows at h ⊢
 rw [List.map_take, List.map_take, h]
theorem zRo : ∀ {a b : List (List Nat)}, a.map ints = b.map ints → a = b
 | [], [], _ => rfl
 | [], _ :: _, h => by simp at h
 | _ :: _, [], h => by simp at h
 | x :: a, y :: b, h => by
  simp only [List.map_cons, List.cons.injEq] at h
  rw [zLp h.1, zRo h.2]
theorem Rows.eq {R : List (SL Int)} {qs qs' : List (List Nat)} (h : Rows R qs) (h' : Rows R qs') : qs = qs' := zRo (h.symm.trans h')
def Rost (f : zd) (R : List (SL Int)) (qs : List (List Nat)) : Prop := (1 ≤ R.length ∧ R.length ≤ 5) ∧ Rows R qs ∧ qs.flatten.Perm (List.range (nS f))
def Part (n : Nat) (R : List (SL Int)) (qs : List (List Nat)) : Prop := Rows R qs ∧ qs.flatten.Nodup ∧ ∀ x ∈ qs.flatten, x < n
def zOn (k : Nat) (R : List (SL Int)) : Prop := (R.length < k ∧ R.length < 9223372036854775808) ∧ ∀ l ∈ R, l.1.length < k ∧ l.1.length < 9223372036854775808
theorem zMu {k : Nat} {f : zd} (hs : zeb f) (hk : Fuel k f) (hF : Fine f) (p1 : SL (SL Int)) (hR : zOn k p1.1) : Ok (zvd k ⟨f⟩ p1) (fun r => r = true ↔ ∃ qs, Rost f p1.1 qs) := by
 have h9 := hF.nslips
 unfold zvd
 simp only [z6h, Option.bind_some]
 by_cases hl : 1 ≤ p1.1.length ∧ p1.1.length ≤ 5
 ·have c1 : (!(decide (1 ≤ (p1.1.length : Int)) && decide ((p1.1.length : Int) ≤ 5))) = false := by simp; omega
  rw [c1, cond_false]
  refine Ok.bind (Ok.count p1.1.length (fun j s => s.2 = (j : Int) ∧ ∃ qs, Part (nS f) (p1.1.take j) qs ∧ ∃ S : Nat, s.1 = (S : Int) ∧ S < 2 ^ nS f ∧ ∀ i, S.testBit i = true ↔ i ∈ qs.flatten) (Q := fun r : (Int × Int × SL Int × Int × Int × Int) ⊕ (Int × Int) => match r with
   | .inl _ => ∀ qs, ¬ Part (nS f) p1.1 qs
   | .inr z => ∃ qs, Part (nS f) p1.1 qs ∧ ∃ S : Nat, z.1 = (S : Int) ∧ S < 2 ^ nS f ∧ ∀ i, S.testBit i = true ↔ i ∈ qs.flatten) ?_ ?_ ⟨rfl, [], ⟨rfl, List.nodup_nil, fun x hx => by cases hx⟩, 0, rfl, Nat.two_pow_pos _, fun i => by simp⟩ hR.1.1) fun r hr => ?_
  ·rintro j ⟨m, i'⟩ hj ⟨hi', qs, hq, S, hm, hS, hb⟩
   obtain rfl : i' = (j : Int) := hi'
   obtain rfl : m = (S : Int) := hm
   simp only [zEc, zFb hj, cond_true, zcb hj, Option.bind_some]
   refine Ok.bind (zKu hs hF p1 _ p1.1[j] (hR.2 _ (List.getElem_mem hj)) hS) fun r hr => ?_
   cases r with
   | inl z =>
    refine Ok.pure fun qs' hq' => ?_
    have hj' : j < qs'.length := by have := hq'.1.len; omega
    have e : qs = qs'.take j := hq.1.eq (hq'.1.take j)
    refine hr qs'[j] ⟨hq'.1.get hj, (zIi.1 hq'.2.1).1 _ (List.getElem_mem hj'), fun x hx => ⟨hq'.2.2 x (List.mem_flatten.2 ⟨_, List.getElem_mem hj', hx⟩), ?_⟩⟩
    cases hbit : S.testBit x with
    | false => rfl
    | true =>
     have h1 := (hb x).1 hbit
     rw [e] at h1
     obtain ⟨q, hq1, hq2⟩ := List.mem_flatten.1 h1
     obtain ⟨i, hi, rfl⟩ := List.mem_take_iff_getElem.1 hq1
     have := z7n hq'.2.1 (by omega) hj' hq2 hx
     omega
   | inr z =>
    obtain ⟨q, hfr, S', hm', hS', hb'⟩ := hr
    refine Ok.pure ⟨z6 hj hR.1.2, qs ++ [q], ⟨?_, ?_, ?_⟩, S', hm', hS', fun i => ?_⟩
    ·unfold Rows
     rw [List.take_succ_eq_append_getElem hj, List.map_append, List.map_append, hq.1]
     simp [hfr.1]
    ·rw [List.flatten_append, List.nodup_append]
     refine ⟨hq.2.1, by simpa using hfr.2.1, fun a ha b hb2 e => ?_⟩
     subst e
     have h1 := (hb a).2 ha
     have h2 := (hfr.2.2 a (by simpa using hb2)).2
     rw [h1] at h2; cases h2
    ·intro x hx
     rw [List.flatten_append] at hx
     rcases List.mem_append.1 hx with h | h
     ·exact hq.2.2 x h
     ·exact (hfr.2.2 x (by simpa using h)).1
    ·rw [hb', hb, List.flatten_append, List.mem_append]
     simp
  ·rintro ⟨m, i'⟩ ⟨hi', qs, hq, S, hm, hS, hb⟩
   obtain rfl : i' = (p1.1.length : Int) := hi'
   simp only [zEc, zkc, cond_false]
   rw [List.take_length] at hq
   exact Ok.pure ⟨qs, hq, S, hm, hS, hb⟩
  ·cases r with
   | inl z =>
    refine Ok.pure ⟨fun h => (by cases h), fun ⟨qs, h⟩ => absurd ⟨h.2.1, (h.2.2.nodup_iff).2 List.nodup_range, fun x hx => List.mem_range.1 (h.2.2.mem_iff.1 hx)⟩ (hr qs)⟩
   | inr z =>
    obtain ⟨qs, hq, S, hm, hS, hb⟩ := hr
    have c2 : decide ((f.Slips.1.length : Int) < 0) = false := by simp
    simp only [Sum.elim_inr, c2, cond_false]
    show Ok (some (z.1 == w64 (zo 1 (nS f : Int) - 1))) _
    rw [z4r h9, hm]
    refine Ok.pure ?_
    have e : ((S : Int) == ((allS (nS f) : Nat) : Int)) = true ↔ S = allS (nS f) := by rw [beq_iff_eq]; omega
    rw [e]
    constructor
    ·intro he
     refine ⟨qs, hl, hq.1, (List.perm_ext_iff_of_nodup hq.2.1 List.nodup_range).2 fun x => ?_⟩
     rw [← hb, he, zTp, List.mem_range]
     simp
    ·rintro ⟨qs', _, h2, h3⟩
     obtain rfl := hq.1.eq h2
     apply Nat.eq_of_testBit_eq
     intro i
     rw [Bool.eq_iff_iff, hb, zTp, h3.mem_iff, List.mem_range]
     simp
 ·have c1 : (!(decide (1 ≤ (p1.1.length : Int)) && decide ((p1.1.length : Int) ≤ 5))) = true := by
   cases hd : (decide (1 ≤ (p1.1.length : Int)) && decide ((p1.1.length : Int) ≤ 5)) with
   | false => rfl
   | true => simp only [Bool.and_eq_true, decide_eq_true_eq] at hd; exact absurd hd (by omega)
  rw [c1, cond_true]
  exact Ok.pure ⟨fun h => (by cases h), fun ⟨qs, h⟩ => absurd h.1 hl⟩
abbrev LL (f : zd) (i : Nat) : Int := zyc f i (·.Low)
theorem zyv {f : zd} (hF : Fine f) {i : Nat} (h : i < nS f) : 0 ≤ LL f i ∧ LL f i ≤ 2472000 := (zLk hF zhp (zMp hF) h).2
def zWi (f : zd) (q : List Nat) (j : Nat) : zp := ⟨sumT (LL f) (q.take (j + 1)), sumT (TT f) (q.take (j + 1))⟩
def z2i (f : zd) (qs : List (List Nat)) (out : List zp) : Prop := ∀ q ∈ qs, ∀ j (h : j < q.length), out[q[j]]? = some (zWi f q j)
theorem zbx {f : zd} (hF : Fine f) {q : List Nat} (hq : ∀ x ∈ q, x < nS f) (hl : q.length ≤ 9) : (0 ≤ sumT (LL f) q ∧ sumT (LL f) q ≤ 22248000) ∧ 0 ≤ sumT (TT f) q ∧ sumT (TT f) q ≤ 22248000 := by
 have h1 := zhs (T := LL f) q fun x hx => zyv hF (hq x hx)
 have h2 := zhs (T := TT f) q fun x hx => zgp hF (hq x hx)
 omega
theorem z7y {k : Nat} {f : zd} (hs : zeb f) (hk : Fuel k f) (hF : Fine f) (p1 : SL (SL Int)) (s1 : Int) {row : SL Int} {q : List Nat} (hrow : row.1 = ints q) (hq : ∀ x ∈ q, x < nS f) (hn : q.Nodup) (hl : q.length ≤ 9) {out : List zp} (ho : out.length = nS f) :
  Ok (iter (fun s => zBf k f p1 s1 row s.1 s.2.1 s.2.2.1 s.2.2.2) k (0, out, 0, 0)) (fun r => r.2.1.length = nS f ∧ (∀ j (h : j < q.length), r.2.1[q[j]]? = some (zWi f q j)) ∧ ∀ x, x ∉ q → r.2.1[x]? = out[x]?) := by
 have h9 := hF.nslips
 have hlen : row.1.length = q.length := by rw [hrow, zjj]
 have h0 := hk.k0
 refine Ok.count q.length (fun j s => s.1 = (j : Int) ∧ s.2.2.1 = sumT (LL f) (q.take j) ∧ s.2.2.2 = sumT (TT f) (q.take j) ∧ s.2.1.length = nS f ∧ (∀ i (h : i < q.length), i < j → s.2.1[q[i]]? = some (zWi f q i)) ∧ ∀ x, x ∉ q → s.2.1[x]? = out[x]?) ?_ ?_ ⟨rfl, rfl, rfl, ho, fun i _ h => absurd h (by omega), fun x _ => rfl⟩ (by omega)
 ·rintro j ⟨i', o, lo, hi⟩ hj ⟨hi', hlo, hhi, hol, hd, hx⟩
  obtain rfl : i' = (j : Int) := hi'
  obtain rfl : lo = sumT (LL f) (q.take j) := hlo
  obtain rfl : hi = sumT (TT f) (q.take j) := hhi
  have hol : o.length = nS f := hol
  have hqj := hq _ (List.getElem_mem hj)
  have e1 : idx row.1 (j : Int) = some ((q[j] : Nat) : Int) := by rw [hrow]; exact zbo hj
  have e2 : idx o ((q[j] : Nat) : Int) = some (o[q[j]]'(by omega)) := zcb _
  have c1 : decide ((j : Int) < (row.1.length : Int)) = true := by rw [hlen]; simp; omega
  obtain ⟨a, ha, ea⟩ := zmx hs hk hF hqj
  obtain ⟨b, hb, eb⟩ := zRu hs hk hF hqj
  obtain rfl : a = LL f q[j] := ea
  obtain rfl : b = TT f q[j] := eb
  have s1 := zbx hF (q := q.take j) (fun x hx => hq x (List.mem_of_mem_take hx)) (by rw [List.length_take]; omega)
  have s2 := zyv hF hqj
  have s3 := zgp hF hqj
  have t1 : sumT (LL f) (q.take (j + 1)) = sumT (LL f) (q.take j) + LL f q[j] := by rw [List.take_succ_eq_append_getElem hj, zSj]
  have t2 : sumT (TT f) (q.take (j + 1)) = sumT (TT f) (q.take j) + TT f q[j] := by rw [List.take_succ_eq_append_getElem hj, zSj]
  have w1 : w64 (sumT (LL f) (q.take j) + LL f q[j]) = sumT (LL f) (q.take (j + 1)) := by rw [t1]; exact zL (by omega) (by omega)
  have w2 : w64 (sumT (TT f) (q.take j) + TT f q[j]) = sumT (TT f) (q.take (j + 1)) := by rw [t2]; exact zL (by omega) (by omega)
  simp only [zBf, c1, cond_true, e1, Option.bind_some, ha, hb, e2, w1, w2, Int.toNat_natCast]
  refine Ok.pure ⟨z6 hj (by omega), rfl, rfl, by simpa using hol, fun i hi hij => ?_, fun x hxq => ?_⟩
  ·show (o.set q[j] (zWi f q j))[q[i]]? = _
   by_cases e : i = j
   ·subst e
    rw [List.getElem?_set_self (by omega)]
   ·have hne : q[j] ≠ q[i] := fun h => e ((List.getElem_inj hn).1 h).symm
    rw [List.getElem?_set_ne hne]
    exact hd i hi (by omega)
  ·show (o.set q[j] _)[x]? = _
   have hne : q[j] ≠ x := fun h => hxq (h ▸ List.getElem_mem hj)
   rw [List.getElem?_set_ne hne]
   exact hx x hxq
 ·rintro ⟨i', o, lo, hi⟩ ⟨hi', hlo, hhi, hol, hd, hx⟩
  obtain rfl : i' = (q.length : Int) := hi'
  have c1 : decide ((q.length : Int) < (row.1.length : Int)) = false := by rw [hlen]; simp
  simp only [zBf, c1, cond_false]
  exact Ok.pure ⟨hol, fun i hi => hd i hi hi, hx⟩
def zDn (f : zd) (R : List (SL Int)) (r : SL zp × Int) : Prop :=
 (¬ Fine f ∧ r.1.1 = [] ∧ r.2 = 30) ∨ (Fine f ∧ (∀ qs, ¬ Rost f R qs) ∧ r.1.1 = [] ∧ r.2 = 31) ∨ (Fine f ∧ r.2 = 0 ∧ ∃ qs, Rost f R qs ∧ r.1.1.length = nS f ∧ z2i f qs r.1.1)
theorem zgq {qs : List (List Nat)} {q : List Nat} (h : q ∈ qs) : q.length ≤ qs.flatten.length := (List.sublist_flatten_of_mem h).length_le
theorem zMy {k : Nat} {f : zd} (hs : zeb f) (hk : Fuel k f) {p1 : SL (SL Int)} (hR : zOn k p1.1) : Ok (zai k f p1) (zDn f p1.1) := by
 unfold zai
 obtain ⟨c, hc, hc'⟩ := zBu hs hk
 rw [hc]
 by_cases hF : Fine f
 ·rw [if_pos hF] at hc'
  subst hc'
  have t : ((0 : Int) != 0) = false := by decide
  simp only [Option.bind_some, t, cond_false]
  have h9 := hF.nslips
  refine Ok.bind (zMu hs hk hF p1 hR) fun r hr => ?_
  cases r with
  | false => exact Ok.pure (.inr (.inl ⟨hF, (fun qs h => absurd (hr.2 ⟨qs, h⟩) (by simp)), rfl, rfl⟩))
  | true =>
   obtain ⟨qs, hq⟩ := hr.1 rfl
   have hlen := hq.2.1.len
   have hnd : qs.flatten.Nodup := (hq.2.2.nodup_iff).2 List.nodup_range
   have hlt : ∀ q ∈ qs, ∀ x ∈ q, x < nS f := fun q h1 x h2 => List.mem_range.1 (hq.2.2.mem_iff.1 (List.mem_flatten.2 ⟨q, h1, h2⟩))
   have hl9 : ∀ q ∈ qs, q.length ≤ 9 := fun q h => by
    have h1 := zgq h
    have h2 := hq.2.2.length_eq
    rw [List.length_range] at h2
    omega
   have c2 : (decide (0 ≤ (f.Slips.1.length : Int)) && decide ((f.Slips.1.length : Int) ≤ (LIM : Int))) = true := by
    have h1 : nS f ≤ 12 := by omega
    have h2 : decide (nS f ≤ LIM) = true := zLt (by omega)
    have h3 : nS f ≤ LIM := by simpa using h2
    simp only [Bool.and_eq_true, decide_eq_true_eq]
    exact ⟨by omega, by have : f.Slips.1.length = nS f := rfl; omega⟩
   simp only [Bool.not_true, cond_false, c2, cond_true]
   refine Ok.bind (Ok.count p1.1.length (fun j s => s.1 = (j : Int) ∧ s.2.length = nS f ∧ z2i f (qs.take j) s.2) (Q := fun r : Int × List zp => r.2.length = nS f ∧ z2i f qs r.2) ?_ ?_ ⟨rfl, by simp, fun q hq => by simp at hq⟩ hR.1.1) fun v hv => Ok.pure (.inr (.inr ⟨hF, rfl, qs, hq, hv.1, hv.2⟩))
   ·rintro j ⟨i', o⟩ hj ⟨hi', hol, hd⟩
    obtain rfl : i' = (j : Int) := hi'
    have hj' : j < qs.length := by omega
    simp only [zTg, zFb hj, cond_true, zcb hj, Option.bind_some]
    refine Ok.bind (z7y hs hk hF p1 _ (hq.2.1.get hj) (hlt _ (List.getElem_mem hj')) ((zIi.1 hnd).1 _ (List.getElem_mem hj')) (hl9 _ (List.getElem_mem hj')) hol) fun r ⟨h1, h2, h3⟩ => Ok.pure ⟨z6 hj hR.1.2, h1, ?_⟩
    intro q hqm i hi
    rw [List.take_succ_eq_append_getElem hj'] at hqm
    rcases List.mem_append.1 hqm with h | h
    ·obtain ⟨a, ha, rfl⟩ := List.mem_take_iff_getElem.1 h
     have hni : (qs[a])[i] ∉ qs[j] := fun hm => by
      have := z7n hnd (by omega) hj' (List.getElem_mem hi) hm
      omega
     exact (h3 _ hni).trans (hd _ h i hi)
    ·obtain rfl : q = qs[j] := by simpa using h
     exact h2 i hi
   ·rintro ⟨i', o⟩ ⟨hi', hol, hd⟩
    obtain rfl : i' = (p1.1.length : Int) := hi'
    simp only [zTg, zkc, cond_false]
    rw [hlen, List.take_length] at hd
    exact Ok.pure ⟨hol, hd⟩
 ·rw [if_neg hF] at hc'
  subst hc'
  have t : ((30 : Int) != 0) = true := by decide
  simp only [Option.bind_some, t, cond_true]
  exact Ok.pure (.inl ⟨hF, rfl, rfl⟩)
end Go.AM
set_option linter.unusedVariables false
namespace Go.AM
open Go
theorem Rows.set {R : List (SL Int)} {qs : List (List Nat)} (h : Rows R qs) (c : Nat) (q : List Nat) (a : Cap) : Rows (R.set c (ints q, a)) (qs.set c q) := by
 unfold Rows at h ⊢
 rw [List.map_set, List.map_set, h]
end Go.AM
set_option linter.unusedVariables false
namespace Go.AM
open Go
theorem InT.at {T U : Nat → Int} : ∀ {q : List Nat} {now : Int}, InT T U now q → ∀ j (h : j < q.length), now + sumT T (q.take (j + 1)) ≤ U q[j]
 | x :: q, now, h, 0, _ => by
  have := h.1
  simp only [List.take_succ_cons, List.take_zero, sumT, List.getElem_cons_zero]
  omega
 | x :: q, now, h, j + 1, hj => by
  have := InT.at h.2 j (by simpa using hj)
  simp only [List.take_succ_cons, sumT, List.getElem_cons_succ]
  omega
theorem Ros.rost {f : zd} {p : Nat} {R : List (SL Int)} (h : Ros f p (allS (nS f)) R) (hp : 1 ≤ p ∧ p ≤ 5) : ∃ qs, Rost f R qs ∧ ∀ q ∈ qs, InT (TT f) (UU f) 0 q := by
 obtain ⟨h1, qs, h2, h3, h4⟩ := h
 rw [z8u] at h3
 exact ⟨qs, ⟨⟨by omega, by omega⟩, h2, h3⟩, h4⟩
end Go.AM
set_option linter.unusedVariables false
namespace Go.AM
open Go
theorem zGw {k : Nat} {f : zd} (hs : zeb f) {l : SL zk} (hl : l.1.length < 9223372036854775808) (hlk : l.1.length < k) : Ok (zsd k f l) (fun r => r = true ↔ zrc (nF f) l.1) := by
 unfold zsd
 let P := fun i (h : i < l.1.length) => (shB l.1 i + 1 ≤ l.1[i].Shelf ∧ l.1[i].Shelf ≤ (nF f : Int) - 1) ∧ (1 ≤ l.1[i].Many ∧ l.1[i].Many ≤ 20)
 have hfs : nF f < 9223372036854775808 := hs.far
 refine Ok.bind (Ok.count l.1.length (fun j t => t.2 = (j : Int) ∧ t.1 = shB l.1 j ∧ ∀ i (h : i < l.1.length), i < j → P i h) (Q := fun r : (Int × Int) ⊕ (Int × Int) => match r with
  | .inl _ => ¬ zrc (nF f) l.1
  | .inr _ => zrc (nF f) l.1) ?_ ?_ ⟨rfl, rfl, fun i _ h => absurd h (by omega)⟩ hlk) fun r hr => ?_
 ·rintro j ⟨d, i⟩ hj ⟨hi, hd, ha⟩
  obtain rfl : i = (j : Int) := hi
  obtain rfl : d = shB l.1 j := hd
  have hw : w64 (shB l.1 j + 1) = shB l.1 j + 1 := by
   have hlow := z7r (l := l.1) (j := j) (by omega) fun i hi hij => (ha i hi hij).1.1
   have hup : shB l.1 j ≤ (nF f : Int) - 1 := by
    cases j with
    | zero => simp only [shB]; omega
    | succ j =>
     have := (ha j (by omega) (by omega)).1.2
     rw [z4i (by omega)] at this
     simp only [shB]
     omega
   exact zL (by omega) (by omega)
  have wn : w64 ((f.Far.1.length : Int) - 1) = (nF f : Int) - 1 := zCn hs.far
  have hJ : zOc k f l (shB l.1 j) (j : Int) = some (!((decide (shB l.1 j + 1 ≤ l.1[j].Shelf) && decide (l.1[j].Shelf ≤ (nF f : Int) - 1)) && (decide (1 ≤ l.1[j].Many) && decide (l.1[j].Many ≤ 20)))) := by
   simp only [zOc, zcb hj, Option.bind_some, zij, hw, wn]
   cases (decide (shB l.1 j + 1 ≤ l.1[j].Shelf) && decide (l.1[j].Shelf ≤ (nF f : Int) - 1)) <;> simp
  simp only [zIc, zFb hj, cond_true, hJ, Option.bind_some, zcb hj]
  refine Ok.cond (fun hc => Ok.pure ?_) fun hc => Ok.pure ⟨z6 hj hl, by rw [z4i hj]; rfl, fun i hi hij => ?_⟩
  ·intro hF
   have := hF j hj
   have e : ((decide (shB l.1 j + 1 ≤ l.1[j].Shelf) && decide (l.1[j].Shelf ≤ (nF f : Int) - 1)) && (decide (1 ≤ l.1[j].Many) && decide (l.1[j].Many ≤ 20))) = true := by
    simp only [Bool.and_eq_true, decide_eq_true_eq]; exact this
   rw [e] at hc
   cases hc
  ·by_cases e : i = j
   ·subst e
    simp only [Bool.not_eq_false', Bool.and_eq_true, decide_eq_true_eq] at hc
    exact hc
   ·exact ha i hi (by omega)
 ·rintro ⟨d, i⟩ ⟨hi, hd, ha⟩
  obtain rfl : i = (l.1.length : Int) := hi
  simp only [zIc, zkc, cond_false]
  exact Ok.pure fun i hi => ha i hi hi
 ·cases r with
  | inl z => exact Ok.pure ⟨fun h => (by cases h), fun h => absurd h hr⟩
  | inr z => exact Ok.pure ⟨fun _ => hr, fun _ => rfl⟩
theorem zZw (k : Nat) (f : zd) : Ok (zHc k f) (fun r => r = true ↔ (1 ≤ nF f ∧ nF f ≤ 12) ∧ f.Pick.1.length = nF f ∧ zOb 1 10 f.Step ∧ (1 ≤ f.Carry ∧ f.Carry ≤ 20) ∧ nS f ≤ 9) := by
 simp only [zHc, zij, zts, Option.bind_some, zve]
 refine Ok.pure ?_
 simp only [Bool.and_eq_true, decide_eq_true_eq, beq_iff_eq, zOb, nF, nS]
 omega
theorem zkw {k : Nat} {f : zd} (hs : zeb f) (hk : Fuel k f) (acc : Bool) (hp : acc = true → f.Pick.1.length = nF f) : Ok (iter (fun s => zpb k f s.1 s.2.1 s.2.2) k (acc, 0, 0)) (fun r => r.1 = true ↔ acc = true ∧ ∀ i, i < nF f → (frB f i ≤ fr f i ∧ fr f i ≤ 500) ∧ zOb 0 300 (pk f i)) := by
 refine Ok.count (nF f) (fun j s => s.2.2 = (j : Int) ∧ s.2.1 = frB f j ∧ (s.1 = true ↔ acc = true ∧ ∀ i, i < j → (frB f i ≤ fr f i ∧ fr f i ≤ 500) ∧ zOb 0 300 (pk f i))) ?_ ?_ ⟨rfl, rfl, by simp⟩ hk.far
 ·rintro j ⟨a, d, i⟩ hj ⟨hi, hd, ha⟩
  obtain rfl : i = (j : Int) := hi
  obtain rfl : d = frB f j := hd
  have ha' : a = true ↔ acc = true ∧ ∀ i, i < j → (frB f i ≤ fr f i ∧ fr f i ≤ 500) ∧ zOb 0 300 (pk f i) := ha
  cases a with
  | false =>
   simp only [zpb, zyb, cond_false, Option.bind_some]
   refine Ok.pure ⟨fun h => (by cases h), fun ⟨h1, h2⟩ => ?_⟩
   exact absurd (ha'.2 ⟨h1, fun i hi => h2 i (by omega)⟩) (by simp)
  | true =>
   obtain ⟨h1, h2⟩ := ha'.1 rfl
   have hpl := hp h1
   have hjp : j < f.Pick.1.length := by omega
   have ep : idx f.Pick.1 (j : Int) = some (pk f j) := by rw [zcb hjp, z5s hjp]
   simp only [zpb, zyb, zJd, zFb hj, cond_true, zep hj, zij, ep, zts, Option.bind_some, zve, z6 hj hs.far]
   refine Ok.pure ⟨rfl, rfl, ?_⟩
   simp only [Bool.and_eq_true, decide_eq_true_eq]
   constructor
   ·intro h3
    refine ⟨h1, fun i hij => ?_⟩
    by_cases e : i = j
    ·subst e; exact ⟨h3.1, h3.2⟩
    ·exact h2 i (by omega)
   ·rintro ⟨h1, h2⟩
    have := h2 j (by omega)
    exact ⟨this.1, this.2⟩
 ·rintro ⟨a, d, i⟩ ⟨hi, hd, ha⟩
  obtain rfl : i = (nF f : Int) := hi
  cases a with
  | false =>
   simp only [zpb, zyb, cond_false, Option.bind_some]
   exact Ok.pure ha
  | true =>
   simp only [zpb, zyb, zkc, cond_true, cond_false, Option.bind_some]
   exact Ok.pure ha
theorem zhx {k : Nat} {f : zd} (hs : zeb f) (hk : Fuel k f) (v3 : Bool × Int × Int) (acc : Bool) (hn : acc = true → nF f ≤ 12) : Ok (iter (fun s => zob k f v3 s.1 s.2) k (acc, 0)) (fun r => r.1 = true ↔ acc = true ∧ ∀ i (h : i < nS f), zYd (nF f) f.Slips.1[i]) := by
 refine Ok.count (nS f) (fun j s => s.2 = (j : Int) ∧ (s.1 = true ↔ acc = true ∧ ∀ i (h : i < nS f), i < j → zYd (nF f) f.Slips.1[i])) ?_ ?_ ⟨rfl, by simp⟩ hk.slips
 ·rintro j ⟨a, i⟩ hj ⟨hi, ha⟩
  obtain rfl : i = (j : Int) := hi
  have ha' : a = true ↔ acc = true ∧ ∀ i (h : i < nS f), i < j → zYd (nF f) f.Slips.1[i] := ha
  cases a with
  | false =>
   simp only [zob, zxb, cond_false, Option.bind_some]
   refine Ok.pure ⟨fun h => (by cases h), fun ⟨h1, h2⟩ => ?_⟩
   exact absurd (ha'.2 ⟨h1, fun i h _ => h2 i h⟩) (by simp)
  | true =>
   obtain ⟨h1, h2⟩ := ha'.1 rfl
   have hm := List.getElem_mem hj
   have h12 := hn h1
   have hJ : Ok (zlc k f v3 true (j : Int) f.Slips.1[j]) (fun r => r = true ↔ zYd (nF f) f.Slips.1[j]) := by
    simp only [zlc, zij, Option.bind_some]
    refine Ok.cond (fun hc => ?_) fun hc => Ok.pure ⟨fun h => (by cases h), fun h => ?_⟩
    ·simp only [Bool.and_eq_true, decide_eq_true_eq] at hc
     refine Ok.cond (fun hd => ?_) fun hd => Ok.pure ⟨fun h => (by cases h), fun h => ?_⟩
     ·simp only [Bool.and_eq_true, decide_eq_true_eq] at hd
      refine Ok.bind (zGw hs (hs.lines _ hm) (hk.lines _ hm)) fun r hr => Ok.pure ?_
      rw [hr]
      exact ⟨fun h => ⟨⟨hc, by omega⟩, h⟩, fun h => h.2⟩
     ·have hlen := z3h h.2
      have h3 := h.1.2
      have : (decide (1 ≤ (f.Slips.1[j].Lines.1.length : Int)) && decide ((f.Slips.1[j].Lines.1.length : Int) ≤ 12)) = true := by
       simp only [Bool.and_eq_true, decide_eq_true_eq]; omega
      rw [this] at hd
      cases hd
    ·have h3 := h.1.1
     have : (decide (0 ≤ f.Slips.1[j].Until) && decide (f.Slips.1[j].Until ≤ 100000)) = true := by
      simp only [Bool.and_eq_true, decide_eq_true_eq]; exact h3
     rw [this] at hc
     cases hc
   simp only [zob, zxb, zFb hj, cond_true, zcb hj, Option.bind_some]
   refine Ok.bind hJ fun r hr => Ok.pure ⟨z6 hj hs.slips, ?_⟩
   show r = true ↔ _
   rw [hr]
   constructor
   ·intro h3
    refine ⟨h1, fun i h hij => ?_⟩
    by_cases e : i = j
    ·subst e; exact h3
    ·exact h2 i h (by omega)
   ·rintro ⟨h1, h2⟩
    exact h2 j hj (by omega)
 ·rintro ⟨a, i⟩ ⟨hi, ha⟩
  obtain rfl : i = (nS f : Int) := hi
  have fin : a = true ↔ acc = true ∧ ∀ i (h : i < nS f), zYd (nF f) f.Slips.1[i] := by
   have ha' : a = true ↔ acc = true ∧ ∀ i (h : i < nS f), i < nS f → zYd (nF f) f.Slips.1[i] := ha
   rw [ha']
   exact ⟨fun h => ⟨h.1, fun i hi => h.2 i hi hi⟩, fun h => ⟨h.1, fun i hi _ => h.2 i hi⟩⟩
  cases a with
  | false =>
   simp only [zob, zxb, cond_false, Option.bind_some]
   exact Ok.pure fin
  | true =>
   simp only [zob, zxb, zkc, cond_true, cond_false, Option.bind_some]
   exact Ok.pure fin
open Classical in
theorem zys {k : Nat} {f : zd} (hs : zeb f) (hk : Fuel k f) : Ok (zwc k f) (fun r => r = if Fine f then 0 else 30) := by
 unfold zwc
 refine Ok.bind (zZw k f) fun v1 h1 => ?_
 refine Ok.bind (zkw hs hk v1 fun h => (h1.1 h).2.1) fun v3 h3 => ?_
 refine Ok.bind (zhx hs hk v3 v3.1 fun h => (h1.1 (h3.1 h).1).1.2) fun v5 h5 => ?_
 have fin : v5.1 = true ↔ Fine f := by
  rw [h5, h3, h1]
  constructor
  ·rintro ⟨⟨h, h6⟩, h7⟩
   refine ⟨h.1, h.2.1, h.2.2.1, h.2.2.2.1, h.2.2.2.2, fun i hi => (h6 i hi).1, fun i hi => ?_, h7⟩
   have := (h6 i (by omega)).2
   rw [z5s hi]
   exact this
  ·intro h
   refine ⟨⟨⟨h.nfar, h.npick, h.step, h.carry, h.nslips⟩, fun i hi => ⟨h.far i hi, zWn h hi⟩⟩, h.slips⟩
 refine Ok.cond (fun hb => Ok.pure ?_) (fun hb => Ok.pure ?_)
 ·rw [if_neg]
  intro hF
  rw [fin.2 hF] at hb
  cases hb
 ·rw [if_pos (fin.1 (by simpa using hb))]
end Go.AM
set_option linter.unusedVariables false
namespace Go.AM
open Go
def rv (l : List zk) : List Nat := l.reverse.flatMap fun x => List.replicate x.Many.toNat x.Shelf.toNat
theorem zXu (l : List zk) (x : zk) : rv (l ++ [x]) = List.replicate x.Many.toNat x.Shelf.toNat ++ rv l := by
 simp [rv]
theorem z9r {g : Nat → Nat} {s : Nat} : ∀ {N : Nat}, s ≤ N → (∀ j, s ≤ j → j < N → g j = 0) → ex g N = ex g s
 | 0, h, _ => by rw [show s = 0 by omega]
 | N + 1, h, hz => by
  by_cases e : s = N + 1
  ·rw [e]
  ·rw [ex, hz N (by omega) (by omega), List.replicate_zero, List.nil_append]
   exact z9r (by omega) fun j h1 h2 => hz j h1 (by omega)
theorem zjv {n : Nat} {l : List zk} (h : zrc n l) : ∀ m, m ≤ l.length → ∀ N : Nat, shB l m < (N : Int) → (∀ j, N ≤ j → pc (l.take m) j = 0) ∧ ex (pc (l.take m)) N = rv (l.take m)
 | 0, _, N, _ => by
  refine ⟨fun j _ => by simp [pc], ?_⟩
  rw [List.take_zero]
  have : ex (pc []) N = ex (pc []) 0 := z9r (by omega) fun j _ _ => rfl
  rw [this]; rfl
 | m + 1, hm, N, hN => by
  have hlt : m < l.length := by omega
  have h1 := h m hlt
  have h2 := zbi h hlt
  have hs : (l[m].Shelf.toNat : Int) = l[m].Shelf := by omega
  have hN' : l[m].Shelf < (N : Int) := by
   have : shB l (m + 1) = l[m].Shelf := (z4i hlt).symm
   omega
  obtain ⟨i1, i2⟩ := zjv h m (by omega) l[m].Shelf.toNat (by omega)
  rw [List.take_succ_eq_append_getElem hlt, zns, zXu]
  have hz : ∀ j, l[m].Shelf.toNat + 1 ≤ j → put1 (pc (l.take m)) l[m] j = 0 := fun j hj => by
   unfold put1
   rw [if_neg (by omega)]
   exact i1 j (by omega)
  refine ⟨fun j hj => hz j (by omega), ?_⟩
  rw [z9r (s := l[m].Shelf.toNat + 1) (by omega) fun j h3 _ => hz j h3, ex]
  congr 1
  ·unfold put1
   rw [if_pos (by omega)]
  ·rw [← i2]
   refine zxu fun j hj => ?_
   unfold put1
   rw [if_neg (by omega)]
theorem zny {n : Nat} {l : List zk} (h : zrc n l) : ex (pc l) n = rv l := by
 have h1 : shB l l.length < (n : Int) := by
  cases hl : l.length with
  | zero => simp only [shB]; omega
  | succ j =>
   have h2 := (h j (by omega)).1.2
   rw [z4i (by omega)] at h2
   simp only [shB]
   omega
 have := (zjv h l.length (Nat.le_refl _) n h1).2
 rwa [List.take_length] at this
theorem zkz (C : Nat) (far : Nat → Int) (r : Nat) : wk C far r [] = 0 := by cases r <;> rfl
theorem zew {k : Nat} {f : zd} (hk : Fuel k f) (hF : Fine f) {i : Nat} (hi : i < nS f) : zyd k f (i : Int) = some (zZ f i) := by
 refine Ok.eq ?_
 have hsl := zaf hF hi
 have hlf : zrc (nF f) (lns f i) := hsl.2
 have hln := z3h hlf
 have h12 := hF.nfar.2
 have h0 := hk.k0
 have hC := hF.carry
 obtain ⟨C, hCe⟩ : ∃ C : Nat, f.Carry = (C : Int) := ⟨f.Carry.toNat, by omega⟩
 have hst := zvk hF hi
 have hex : zZ f i = wk C (fr f) 0 (rv (lns f i)) := by
  unfold zZ
  rw [zny hlf, hCe, Int.toNat_natCast]
 have hfar : ∀ x ∈ rv (lns f i), 0 ≤ fr f x ∧ fr f x ≤ 500 := fun x hx => zur hF x (by rw [zny hlf]; exact hx)
 unfold zyd
 rw [zPe hi]
 simp only [Option.bind_some]
 have w0 : w64 (((slp f i).Lines.1.length : Int) - 1) = ((lns f i).length : Int) - 1 := by
  show w64 (((lns f i).length : Int) - 1) = _
  exact zL (by omega) (by omega)
 rw [w0]
 refine Ok.bind (P := fun r : Int × Int × Int => r.1 = zZ f i) ?_ fun v hv => Ok.pure hv
 refine Ok.count (lns f i).length (fun j s => s.2.2 = ((lns f i).length : Int) - 1 - j ∧ ∃ r : Nat, s.2.1 = (r : Int) ∧ r ≤ 20 ∧ s.1 + wk C (fr f) r (rv ((lns f i).take ((lns f i).length - j))) = zZ f i ∧ 0 ≤ s.1) ?_ ?_ ⟨by simp, 0, rfl, by omega, ?_, Int.le_refl _⟩ (by omega)
 ·rintro j ⟨n, r', i'⟩ hj ⟨hi', r, hr, hr20, hw, hn0⟩
  obtain rfl : i' = ((lns f i).length : Int) - 1 - j := hi'
  obtain rfl : r' = (r : Int) := hr
  have hw : n + wk C (fr f) r (rv ((lns f i).take ((lns f i).length - j))) = zZ f i := hw
  have hn0 : 0 ≤ n := hn0
  obtain ⟨m, hm⟩ : ∃ m, (lns f i).length - j = m + 1 := ⟨(lns f i).length - j - 1, by omega⟩
  have hml : m < (lns f i).length := by omega
  obtain ⟨x, hx⟩ : ∃ x, x = (lns f i)[m] := ⟨_, rfl⟩
  have hmany := (hlf m hml).2
  have hsh := zbi hlf hml
  rw [← hx] at hmany hsh
  have em : ((lns f i).length : Int) - 1 - j = (m : Int) := by omega
  have e1 : idx (slp f i).Lines.1 (m : Int) = some x := by rw [hx]; exact zcb hml
  have e2 : idx f.Far.1 x.Shelf = some (fr f x.Shelf.toNat) := by
   have := zep (f := f) (i := x.Shelf.toNat) (by omega)
   rwa [Int.toNat_of_nonneg hsh.1] at this
  have hfx := z5w hF (i := x.Shelf.toNat) (by omega)
  have c0 : decide ((m : Int) ≥ 0) = true := by simp
  have w1 : w64 ((m : Int) - 1) = (m : Int) - 1 := zL (by omega) (by omega)
  rw [hm, List.take_succ_eq_append_getElem hml, ← hx, zXu] at hw
  simp only [zPc, em, c0, cond_true, w1]
  obtain ⟨M, hM⟩ : ∃ M : Nat, x.Many = (M : Int) := ⟨x.Many.toNat, by omega⟩
  rw [hM, Int.toNat_natCast] at hw
  have hrest : ∀ y ∈ rv ((lns f i).take m), 0 ≤ fr f y ∧ fr f y ≤ 500 := fun y hy => hfar y (by
   unfold rv at hy ⊢
   rw [List.mem_flatMap] at hy ⊢
   obtain ⟨z, hz1, hz2⟩ := hy
   exact ⟨z, by rw [List.mem_reverse] at hz1 ⊢; exact List.mem_of_mem_take hz1, hz2⟩)
  refine Ok.bind (P := fun t : Int × Int × Int => ∃ r : Nat, t.2.1 = (r : Int) ∧ r ≤ 20 ∧ t.1 + wk C (fr f) r (rv ((lns f i).take m)) = zZ f i ∧ 0 ≤ t.1) ?_ fun t ht => ?_
  ·refine Ok.count M (fun a s => s.2.2 = (a : Int) ∧ ∃ r : Nat, s.2.1 = (r : Int) ∧ r ≤ 20 ∧ s.1 + wk C (fr f) r (List.replicate (M - a) x.Shelf.toNat ++ rv ((lns f i).take m)) = zZ f i ∧ 0 ≤ s.1) ?_ ?_ ⟨rfl, r, rfl, hr20, by simpa using hw, hn0⟩ (by omega)
   ·rintro a ⟨u, r', a'⟩ ha ⟨ha', r, hr, hr20, hw, hu0⟩
    obtain rfl : a' = (a : Int) := ha'
    obtain rfl : r' = (r : Int) := hr
    have hw : u + wk C (fr f) r (List.replicate (M - a) x.Shelf.toNat ++ rv ((lns f i).take m)) = zZ f i := hw
    have hu0 : 0 ≤ u := hu0
    have c1 : decide ((a : Int) < x.Many) = true := decide_eq_true (by omega)
    obtain ⟨b, hb⟩ : ∃ b, M - a = b + 1 := ⟨M - a - 1, by omega⟩
    have hb2 : M - (a + 1) = b := by omega
    rw [hb, List.replicate_succ, List.cons_append] at hw
    have hlow : ∀ q, 0 ≤ wk C (fr f) q (List.replicate b x.Shelf.toNat ++ rv ((lns f i).take m)) := fun q => (zDl (b := 500) (by omega) _ q fun y hy => by
     rcases List.mem_append.1 hy with h | h
     ·obtain ⟨_, rfl⟩ := List.mem_replicate.1 h; exact hfx
     ·exact hrest y h).1
    simp only [zDc, e1, Option.bind_some, c1, cond_true]
    cases r with
    | zero =>
     have c2 : (((0 : Nat) : Int) == 0) = true := by decide
     rw [wk] at hw
     have hl := hlow (C - 1)
     have wa : w64 (2 * fr f x.Shelf.toNat) = 2 * fr f x.Shelf.toNat := zL (by omega) (by omega)
     have wb : w64 (u + 2 * fr f x.Shelf.toNat) = u + 2 * fr f x.Shelf.toNat := zL (by omega) (by omega)
     have wc : w64 ((C : Int) - 1) = ((C - 1 : Nat) : Int) := by rw [zL (by omega) (by omega)]; omega
     simp only [zKc, c2, cond_true, e1, Option.bind_some, e2, wa, wb, hCe, wc]
     refine Ok.pure ⟨z6 ha (by omega), C - 1, rfl, by omega, ?_, ?_⟩
     ·rw [hb2]
      show u + 2 * fr f x.Shelf.toNat + _ = _
      omega
     ·show 0 ≤ u + 2 * fr f x.Shelf.toNat
      omega
    | succ r =>
     have c2 : (((r + 1 : Nat) : Int) == 0) = false := by
      rw [beq_eq_false_iff_ne]; omega
     rw [wk] at hw
     have wc : w64 (((r + 1 : Nat) : Int) - 1) = (r : Int) := by rw [zL (by omega) (by omega)]; omega
     simp only [zKc, c2, cond_false, Option.bind_some, wc]
     exact Ok.pure ⟨z6 ha (by omega), r, rfl, by omega, by rw [hb2]; exact hw, hu0⟩
   ·rintro ⟨u, r', a'⟩ ⟨ha', r, hr, hr20, hw, hu0⟩
    obtain rfl : a' = (M : Int) := ha'
    have c1 : decide ((M : Int) < x.Many) = false := decide_eq_false (by omega)
    simp only [zDc, e1, Option.bind_some, c1, cond_false]
    rw [Nat.sub_self, List.replicate_zero, List.nil_append] at hw
    exact Ok.pure ⟨r, hr, hr20, hw, hu0⟩
  ·obtain ⟨r, hr, hr20, hw, hu0⟩ := ht
   exact Ok.pure ⟨by show (m : Int) - 1 = _; push_cast; omega, r, hr, hr20, by rw [show (lns f i).length - (j + 1) = m by omega]; exact hw, hu0⟩
 ·rintro ⟨n, r', i'⟩ ⟨hi', r, hr, hr20, hw, hn0⟩
  obtain rfl : i' = ((lns f i).length : Int) - 1 - ((lns f i).length : Nat) := hi'
  have c0 : decide (((lns f i).length : Int) - 1 - ((lns f i).length : Nat) ≥ 0) = false := decide_eq_false (by omega)
  simp only [zPc, c0, cond_false]
  rw [Nat.sub_self, List.take_zero] at hw
  have : rv [] = [] := rfl
  rw [this, zkz] at hw
  exact Ok.pure (by show n = _; have hw : n + 0 = zZ f i := hw; omega)
 ·rw [hex, Nat.sub_zero, List.take_length]
  show (0 : Int) + _ = _
  omega
theorem zFs {k : Nat} {f : zd} (hk : Fuel k f) (hF : Fine f) {i : Nat} (hi : i < nS f) : zxc k f (i : Int) = some ⟨zyc f i (·.Low), zyc f i (·.High)⟩ := by
 refine Ok.eq ?_
 have hsl := zaf hF hi
 have hlf : zrc (nF f) (lns f i) := hsl.2
 have hln := z3h hlf
 have h12 := hF.nfar.2
 have h0 := hk.k0
 have hl := zMp hF
 have hh := zSo hF
 have hst := zvk hF hi
 have b1 := zNj hst.1 hst.2 hl.1 hl.2
 have b2 := zNj hst.1 hst.2 hh.1 hh.2
 have w1 : w64 (zZ f i * f.Step.Low) = zZ f i * f.Step.Low := zL (by omega) (by omega)
 have w2 : w64 (zZ f i * f.Step.High) = zZ f i * f.Step.High := zL (by omega) (by omega)
 unfold zxc
 rw [zew hk hF hi]
 have z4n : ∀ a b, zK k a b = some ⟨a, b⟩ := fun _ _ => rfl
 simp only [Option.bind_some, z4n, w1, w2, zPe hi]
 refine Ok.bind (P := fun r : Int × Int × Int => r.2.1 = zyc f i (·.Low) ∧ r.2.2 = zyc f i (·.High)) ?_ fun v hv => Ok.pure (by rw [hv.1, hv.2])
 refine Ok.count (lns f i).length (fun j s => s.1 = (j : Int) ∧ s.2.1 = zZ f i * f.Step.Low + pks f (·.Low) ((lns f i).take j) ∧ s.2.2 = zZ f i * f.Step.High + pks f (·.High) ((lns f i).take j)) ?_ ?_ ⟨rfl, by simp [pks], by simp [pks]⟩ (by omega)
 ·rintro j ⟨j', lo, hi2⟩ hj ⟨hj', hlo, hhi⟩
  obtain rfl : j' = (j : Int) := hj'
  obtain rfl : lo = _ := hlo
  obtain rfl : hi2 = _ := hhi
  obtain ⟨x, hx⟩ : ∃ x, x = (lns f i)[j] := ⟨_, rfl⟩
  have hmany := (hlf j hj).2
  have hsh := zbi hlf hj
  rw [← hx] at hmany hsh
  have e1 : idx (slp f i).Lines.1 (j : Int) = some x := by rw [hx]; exact zcb hj
  have e2 : idx f.Pick.1 x.Shelf = some (pk f x.Shelf.toNat) := znu hF hsh
  have hpk := zWn hF (i := x.Shelf.toNat) (by omega)
  have hp0 := zQn hF (v := (·.Low)) zhp hlf j (by omega)
  have hp1 := zQn hF (v := (·.High)) zxn hlf j (by omega)
  have hpl := zhp _ hpk
  have hph := zxn _ hpk
  have m1 := zNj (a := x.Many) (x := 20) (by omega) hmany.2 hpl.1 hpl.2
  have m2 := zNj (a := x.Many) (x := 20) (by omega) hmany.2 hph.1 hph.2
  have s1 := zul f (·.Low) ((lns f i).take j) x
  have s2 := zul f (·.High) ((lns f i).take j) x
  have et : (lns f i).take (j + 1) = (lns f i).take j ++ [x] := by rw [List.take_succ_eq_append_getElem hj, hx]
  have c0 : decide ((j : Int) < ((slp f i).Lines.1.length : Int)) = true := zFb hj
  have wa : w64 (x.Many * (pk f x.Shelf.toNat).Low) = x.Many * (pk f x.Shelf.toNat).Low := zL (by omega) (by omega)
  have wb : w64 (x.Many * (pk f x.Shelf.toNat).High) = x.Many * (pk f x.Shelf.toNat).High := zL (by omega) (by omega)
  have wc : w64 (zZ f i * f.Step.Low + pks f (·.Low) ((lns f i).take j) + x.Many * (pk f x.Shelf.toNat).Low) = zZ f i * f.Step.Low + pks f (·.Low) ((lns f i).take (j + 1)) := by
   rw [et, s1, ← Int.add_assoc]; exact zL (by omega) (by omega)
  have wd : w64 (zZ f i * f.Step.High + pks f (·.High) ((lns f i).take j) + x.Many * (pk f x.Shelf.toNat).High) = zZ f i * f.Step.High + pks f (·.High) ((lns f i).take (j + 1)) := by
   rw [et, s2, ← Int.add_assoc]; exact zL (by omega) (by omega)
  simp only [zQc, c0, cond_true, e1, Option.bind_some, e2, wa, wb, wc, wd, z4n]
  exact Ok.pure ⟨z6 hj (by omega), rfl, rfl⟩
 ·rintro ⟨j', lo, hi2⟩ ⟨hj', hlo, hhi⟩
  obtain rfl : j' = ((lns f i).length : Int) := hj'
  have c0 : decide (((lns f i).length : Int) < ((slp f i).Lines.1.length : Int)) = false := zkc
  simp only [zQc, c0, cond_false]
  rw [List.take_length] at hlo hhi
  exact Ok.pure ⟨hlo, hhi⟩
end Go.AM
