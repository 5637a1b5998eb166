/- The statement TopPicked holds for every input that its row lets in. Conditions: none. -/
import Derived.KernelRfl
import Derived.Test.YtlliglddpleenabGreatDoorE
set_option linter.all false
set_option linter.unusedVariables false
set_option maxRecDepth 100000
namespace Go.AM
open Go Go.Proofs
theorem zVj (k : Nat) (p0 : zd) (r0 : (SL Int)) (r1 r2 : Int) (v1102 : zt4) (rc : zt2) (f1 f2 f3 f4 : Fr) (hrc : ∀ (f : Fr) (r0 : (SL Int)) (r1 : Int) (r2 : Int) (r : ((SL Int) × Bool)), rc r0 r1 r2 = some r → zbb TE (ev TE) 54 [(.d (dl eI r0.1 r0.2)), (xi r1), (xi r2), (.ptr 0 1 0), (.ptr 0 5 0)] ⟨f, [[(1, (.cells ((za p0).map .d))), (5, (.cells [(.fn 54 [] [(.ptr 0 1 0), (.ptr 0 5 0)])]))], f1, f2, f3, f4]⟩ [] = some (zy r, ⟨f, [[(1, (.cells ((za p0).map .d))), (5, (.cells [(.fn 54 [] [(.ptr 0 1 0), (.ptr 0 5 0)])]))], f1, f2, f3, f4]⟩, [])) (s12_8 : Int) (x : Int ⊕ (((SL Int) × Int × Bool) ⊕ Int)) (h : zAi k p0 r0 r1 r2 v1102 rc s12_8 = some x) : zT TE 54 (blk TE 54 0) (fun s : Int => zzp p0 r0 r1 r2 v1102 rc f1 f2 f3 f4 s) (zqp p0 r0 r1 r2 v1102 rc f1 f2 f3 f4) s12_8 x := by
 unfold zAi at h
 refine zr h (fun h1301 g1 => ?_) (fun h1301 g1 => ?_)
 ·refine zr g1 (fun h1302 g2 => ?_) (fun h1302 g2 => ?_)
  ·cases g2
  ·refine z6 g2 (fun h1303 g3 => ?_)
   refine zr g3 (fun h1304 g4 => ?_) (fun h1304 g4 => ?_)
   ·cases g4
   ·refine zo g4 (fun v1305 h1306 g5 => ?_)
    refine zr g5 (fun h1307 g6 => ?_) (fun h1307 g6 => ?_)
    ·exact zqo [(54, 7, 3, .q (xi (p0.Counts.1.length : Int))), (54, 7, 4, .q (xb true)), (54, 9, 3, .q (xi (r0.1.length : Int))), (54, 9, 5, .q (xi (r0.1.length : Int))), (54, 9, 6, .q (.d (dl eI r0.1 (ccap r0.2)))), (54, 9, 9, .q (.d (dl eI (r0.1 ++ [s12_8]) .ro))), (54, 9, 12, .q (xi (zK 1 s12_8))), (54, 9, 15, .i (.tup [(dl eI v1305.1.1 v1305.1.2), (db v1305.2)]) ⟨[], [[(1, (.cells ((za p0).map .d))), (5, (.cells [(.fn 54 [] [(.ptr 0 1 0), (.ptr 0 5 0)])]))], f1, f2, f3, f4]⟩ []), (54, 10, 0, .q (xb true))] [] g6 (ob (zC zu p0.Counts.1) (ob (o_b h1301) (ob (zC eI r0.1) (ob (zC eI r0.1) (ob (z1d (e := eI) (z := 1) r0.1 r0.2) (ob (o_ad (P := TE.P) (φ := fun _ _ => none) (T := 22) (q := (1, [(di 0)])) (c := (ccap r0.2)) (e := eI) r0.1 s12_8 (by kernel_rfl) (by kernel_rfl) (fun _ => rfl) h1302 h1303) (ob (zfc (x := 1) h1304) (ob (hrc ([] : Fr) ((r0.1 ++ [s12_8]), .ro) (or64 r1 (zK 1 s12_8)) r2 _ h1306) (ob (o_b h1307) ob0))))))))) (by kernel_rfl)
    ·exact zqn (w64 (s12_8 + 1)) [] [(54, 7, 3, .q (xi (p0.Counts.1.length : Int))), (54, 7, 4, .q (xb true)), (54, 9, 3, .q (xi (r0.1.length : Int))), (54, 9, 5, .q (xi (r0.1.length : Int))), (54, 9, 6, .q (.d (dl eI r0.1 (ccap r0.2)))), (54, 9, 9, .q (.d (dl eI (r0.1 ++ [s12_8]) .ro))), (54, 9, 12, .q (xi (zK 1 s12_8))), (54, 9, 15, .i (.tup [(dl eI v1305.1.1 v1305.1.2), (db v1305.2)]) ⟨[], [[(1, (.cells ((za p0).map .d))), (5, (.cells [(.fn 54 [] [(.ptr 0 1 0), (.ptr 0 5 0)])]))], f1, f2, f3, f4]⟩ []), (54, 10, 0, .q (xb false))] [] g6 (ob (zC zu p0.Counts.1) (ob (o_b h1301) (ob (zC eI r0.1) (ob (zC eI r0.1) (ob (z1d (e := eI) (z := 1) r0.1 r0.2) (ob (o_ad (P := TE.P) (φ := fun _ _ => none) (T := 22) (q := (1, [(di 0)])) (c := (ccap r0.2)) (e := eI) r0.1 s12_8 (by kernel_rfl) (by kernel_rfl) (fun _ => rfl) h1302 h1303) (ob (zfc (x := 1) h1304) (ob (hrc ([] : Fr) ((r0.1 ++ [s12_8]), .ro) (or64 r1 (zK 1 s12_8)) r2 _ h1306) (ob (o_b h1307) ob0))))))))) (by kernel_rfl)
 ·exact zqo [(54, 7, 3, .q (xi (p0.Counts.1.length : Int))), (54, 7, 4, .q (xb false))] [] g1 (ob (zC zu p0.Counts.1) (ob (o_b h1301) ob0)) (by kernel_rfl)
theorem zmo (k : Nat) (p0 : zd) (rc : zt2) (f1 f2 f3 f4 : Fr) (hrc : ∀ (f : Fr) (r0 : (SL Int)) (r1 : Int) (r2 : Int) (r : ((SL Int) × Bool)), rc r0 r1 r2 = some r → zbb TE (ev TE) 54 [(.d (dl eI r0.1 r0.2)), (xi r1), (xi r2), (.ptr 0 1 0), (.ptr 0 5 0)] ⟨f, [[(1, (.cells ((za p0).map .d))), (5, (.cells [(.fn 54 [] [(.ptr 0 1 0), (.ptr 0 5 0)])]))], f1, f2, f3, f4]⟩ [] = some (zy r, ⟨f, [[(1, (.cells ((za p0).map .d))), (5, (.cells [(.fn 54 [] [(.ptr 0 1 0), (.ptr 0 5 0)])]))], f1, f2, f3, f4]⟩, [])) (r0 : (SL Int)) (r1 r2 : Int) (r : ((SL Int) × Bool)) (h : znf k p0 rc r0 r1 r2 = some r) : zbb TE (ev TE) 54 [(.d (dl eI r0.1 r0.2)), (xi r1), (xi r2), (.ptr 0 1 0), (.ptr 0 5 0)] ⟨f4, [[(zc 1 (za p0)), (5, (.cells [(.fn 54 [] [(.ptr 0 1 0), (.ptr 0 5 0)])]))], f1, f2, f3]⟩ [] = some (zy r, ⟨f4, [[(zc 1 (za p0)), (5, (.cells [(.fn 54 [] [(.ptr 0 1 0), (.ptr 0 5 0)])]))], f1, f2, f3]⟩, []) := by
 unfold znf at h
 refine zr h (fun h1101 g1 => ?_) (fun h1101 g1 => ?_)
 ·refine zo g1 (fun v1102 h1103 g2 => ?_)
  exact zyb (g := (fun r => (zy r, ⟨f4, [[(1, (.cells ((za p0).map .d))), (5, (.cells [(.fn 54 [] [(.ptr 0 1 0), (.ptr 0 5 0)])]))], f1, f2, f3]⟩, []))) g2 (zjb (n := 80) (V := [(54, 1, 1, .q (xi (r0.1.length : Int))), (54, 1, 3, .q (xb true)), (54, 2, 3, .c (db v1102))]) (C := []) (ob (zC eI r0.1) (ob (o_b h1101) (ob (zEb k p0 r1 _ h1103) ob0))) (by kernel_rfl))
 ·refine zo g1 (fun v1102 h1103 g2 => ?_)
  refine zo g2 (fun v1104 h1105 g3 => ?_)
  refine zRb g3 (fun v1107 hh g4_0 => ?_) (fun v1107 hh g4_0 => ?_)
  ·subst hh
   exact zyb (g := (fun r => (zy r, ⟨f4, [[(1, (.cells ((za p0).map .d))), (5, (.cells [(.fn 54 [] [(.ptr 0 1 0), (.ptr 0 5 0)])]))], f1, f2, f3]⟩, []))) g4_0 (zjb (n := 80) (V := [(54, 1, 1, .q (xi (r0.1.length : Int))), (54, 1, 3, .q (xb false)), (54, 4, 1, .q (xi (r0.1.length : Int)))]) (C := [(54, 2000024, (.nor, zQd p0 r0 r1 r2 (decide ((r0.1.length : Int) > 0)) rc f1 f2 f3 f4 v1102)), (54, 0, (.ret, zSg p0 r0 r1 r2 v1102 rc f1 f2 f3 f4 v1107))]) (ob (zC eI r0.1) (ob (o_b h1101) (ob (zC eI r0.1) (ob (zXj k p0 r0 r1 r2 (decide ((r0.1.length : Int) > 0)) rc f1 f2 f3 f4 hrc _ h1103) (ob (zG (id := 0) (r' := (.ret, zSg p0 r0 r1 r2 v1102 rc f1 f2 f3 f4 v1107)) (zGc (zVj k p0 r0 r1 r2 v1102 rc f1 f2 f3 f4 hrc) k _ _ h1105) rfl) ob0))))) (by kernel_rfl))
  ·subst hh
   exact zyb (g := (fun r => (zy r, ⟨f4, [[(1, (.cells ((za p0).map .d))), (5, (.cells [(.fn 54 [] [(.ptr 0 1 0), (.ptr 0 5 0)])]))], f1, f2, f3]⟩, []))) g4_0 (zjb (n := 80) (V := [(54, 1, 1, .q (xi (r0.1.length : Int))), (54, 1, 3, .q (xb false)), (54, 4, 1, .q (xi (r0.1.length : Int)))]) (C := [(54, 2000024, (.nor, zQd p0 r0 r1 r2 (decide ((r0.1.length : Int) > 0)) rc f1 f2 f3 f4 v1102)), (54, 0, (.nor, z4g p0 r0 r1 r2 v1102 rc f1 f2 f3 f4 v1107))]) (ob (zC eI r0.1) (ob (o_b h1101) (ob (zC eI r0.1) (ob (zXj k p0 r0 r1 r2 (decide ((r0.1.length : Int) > 0)) rc f1 f2 f3 f4 hrc _ h1103) (ob (zG (id := 0) (r' := (.nor, z4g p0 r0 r1 r2 v1102 rc f1 f2 f3 f4 v1107)) (zGc (zVj k p0 r0 r1 r2 v1102 rc f1 f2 f3 f4 hrc) k _ _ h1105) rfl) ob0))))) (by kernel_rfl))
noncomputable def zOd (p0 : zd) (r0 : (SL Int)) (r1 r2 : Int) (cb : Bool) (rc : zt2) (f1 f2 f3 f4 f5 : Fr) (r : zt4) : St := ⟨(zHk r0 r1 r2 r), ⟨[], [[(zc 1 (za p0)), (5, (.cells [(.fn 54 [] [(.ptr 0 1 0), (.ptr 0 5 0)])]))], f1, f2, f3, f4, f5]⟩, []⟩
theorem zUj (k : Nat) (p0 : zd) (r0 : (SL Int)) (r1 r2 : Int) (cb : Bool) (rc : zt2) (f1 f2 f3 f4 f5 : Fr) (hrc : ∀ (f : Fr) (r0 : (SL Int)) (r1 : Int) (r2 : Int) (r : ((SL Int) × Bool)), rc r0 r1 r2 = some r → zbb TE (ev TE) 54 [(.d (dl eI r0.1 r0.2)), (xi r1), (xi r2), (.ptr 0 1 0), (.ptr 0 5 0)] ⟨f, [[(1, (.cells ((za p0).map .d))), (5, (.cells [(.fn 54 [] [(.ptr 0 1 0), (.ptr 0 5 0)])]))], f1, f2, f3, f4, f5]⟩ [] = some (zy r, ⟨f, [[(1, (.cells ((za p0).map .d))), (5, (.cells [(.fn 54 [] [(.ptr 0 1 0), (.ptr 0 5 0)])]))], f1, f2, f3, f4, f5]⟩, [])) (r : zt4) (h : zui k p0 r0 r1 r2 cb rc = some r) : ev TE 54 (cnd TE 54 24) ⟨(zLk r0 r1 r2 cb), ⟨[], [[(zc 1 (za p0)), (5, (.cells [(.fn 54 [] [(.ptr 0 1 0), (.ptr 0 5 0)])]))], f1, f2, f3, f4, f5]⟩, []⟩ = some (.nor, zOd p0 r0 r1 r2 cb rc f1 f2 f3 f4 f5 r) := by
 unfold zui at h
 refine zr h (fun h1401 g1 => ?_) (fun h1401 g1 => ?_)
 ·subst h1401
  refine zo g1 (fun v1402 h1403 g2 => ?_)
  exact zE (g := fun r => (Ex.nor, zOd p0 r0 r1 r2 true rc f1 f2 f3 f4 f5 r)) g2 (zqe [(54, 5, 2, .q (xi (r0.1.length : Int))), (54, 5, 4, .q (.d (.pin [(di v1402)])))] [] (ob (zC eI r0.1) (ob (o_ia (e := eI) 1 h1403 rfl) ob0)) (by kernel_rfl))
 ·subst h1401
  exact zE (g := fun r => (Ex.nor, zOd p0 r0 r1 r2 false rc f1 f2 f3 f4 f5 r)) g1 (zqe [] [] ob0 (by kernel_rfl))
noncomputable def zxB (r0 : (SL Int)) (r1 r2 : Int) (v1302 : zt4) (s14_8 : Int) : TM := [(0, (.d (dl eI r0.1 r0.2))), (1, (xi r1)), (2, (xi r2)), (3, (.ptr 0 1 0)), (4, (.ptr 0 5 0)), (8, (.d (.sl [] .nil))), (9, (xb false)), (17, (xb false)), (10, (xi v1302.1)), (24, (xb v1302.2)), (11, (xi s14_8))]
noncomputable def zyp (p0 : zd) (r0 : (SL Int)) (r1 r2 : Int) (v1302 : zt4) (rc : zt2) (f1 f2 f3 f4 f5 : Fr) (s14_8 : Int) : St := ⟨(zxB r0 r1 r2 v1302 s14_8), ⟨[], [[(zc 1 (za p0)), (5, (.cells [(.fn 54 [] [(.ptr 0 1 0), (.ptr 0 5 0)])]))], f1, f2, f3, f4, f5]⟩, []⟩
noncomputable def zBA (r0 : (SL Int)) (r1 r2 : Int) (r : zt18) (v1302 : zt4) : TM := [(0, (.d (dl eI r0.1 r0.2))), (1, (xi r1)), (2, (xi r2)), (3, (.ptr 0 1 0)), (4, (.ptr 0 5 0)), (8, (.d (dl eI r.1.1 r.1.2))), (9, (xb true)), (17, (xb false)), (10, (xi v1302.1)), (24, (xb v1302.2)), (11, (xi r.2.1)), (37, (xb true)), (12, (.d (dl eI r.1.1 r.1.2))), (13, (xb r.2.2)), (59, (xb true))]
noncomputable def zYg (p0 : zd) (r0 : (SL Int)) (r1 r2 : Int) (v1302 : zt4) (rc : zt2) (f1 f2 f3 f4 f5 : Fr) (r : zt18) : St := ⟨(zBA r0 r1 r2 r v1302), ⟨[], [[(zc 1 (za p0)), (5, (.cells [(.fn 54 [] [(.ptr 0 1 0), (.ptr 0 5 0)])]))], f1, f2, f3, f4, f5]⟩, []⟩
noncomputable def zRA (r0 : (SL Int)) (r1 r2 : Int) (v1302 : zt4) (r : Int) : TM := [(0, (.d (dl eI r0.1 r0.2))), (1, (xi r1)), (2, (xi r2)), (3, (.ptr 0 1 0)), (4, (.ptr 0 5 0)), (8, (.d (.sl [] .nil))), (9, (xb false)), (17, (xb false)), (10, (xi v1302.1)), (24, (xb v1302.2)), (11, (xi r)), (37, (xb false))]
noncomputable def z1g (p0 : zd) (r0 : (SL Int)) (r1 r2 : Int) (v1302 : zt4) (rc : zt2) (f1 f2 f3 f4 f5 : Fr) (r : Int) : St := ⟨(zRA r0 r1 r2 v1302 r), ⟨[], [[(zc 1 (za p0)), (5, (.cells [(.fn 54 [] [(.ptr 0 1 0), (.ptr 0 5 0)])]))], f1, f2, f3, f4, f5]⟩, []⟩
noncomputable def ztp (p0 : zd) (r0 : (SL Int)) (r1 r2 : Int) (v1302 : zt4) (rc : zt2) (f1 f2 f3 f4 f5 : Fr) : (((SL Int) × Int × Bool) ⊕ Int) → Ex × St := Sum.elim (fun r => (.ret, zYg p0 r0 r1 r2 v1302 rc f1 f2 f3 f4 f5 r)) (fun r => ((.exit 0), z1g p0 r0 r1 r2 v1302 rc f1 f2 f3 f4 f5 r))
theorem zNj (k : Nat) (p0 : zd) (r0 : (SL Int)) (r1 r2 : Int) (v1302 : zt4) (rc : zt2) (f1 f2 f3 f4 f5 : Fr) (hrc : ∀ (f : Fr) (r0 : (SL Int)) (r1 : Int) (r2 : Int) (r : ((SL Int) × Bool)), rc r0 r1 r2 = some r → zbb TE (ev TE) 54 [(.d (dl eI r0.1 r0.2)), (xi r1), (xi r2), (.ptr 0 1 0), (.ptr 0 5 0)] ⟨f, [[(1, (.cells ((za p0).map .d))), (5, (.cells [(.fn 54 [] [(.ptr 0 1 0), (.ptr 0 5 0)])]))], f1, f2, f3, f4, f5]⟩ [] = some (zy r, ⟨f, [[(1, (.cells ((za p0).map .d))), (5, (.cells [(.fn 54 [] [(.ptr 0 1 0), (.ptr 0 5 0)])]))], f1, f2, f3, f4, f5]⟩, [])) (s14_8 : Int) (x : Int ⊕ (((SL Int) × Int × Bool) ⊕ Int)) (h : zHi k p0 r0 r1 r2 v1302 rc s14_8 = some x) : zT TE 54 (blk TE 54 0) (fun s : Int => zyp p0 r0 r1 r2 v1302 rc f1 f2 f3 f4 f5 s) (ztp p0 r0 r1 r2 v1302 rc f1 f2 f3 f4 f5) s14_8 x := by
 unfold zHi at h
 refine zr h (fun h1501 g1 => ?_) (fun h1501 g1 => ?_)
 ·refine zr g1 (fun h1502 g2 => ?_) (fun h1502 g2 => ?_)
  ·cases g2
  ·refine z6 g2 (fun h1503 g3 => ?_)
   refine zr g3 (fun h1504 g4 => ?_) (fun h1504 g4 => ?_)
   ·cases g4
   ·refine zo g4 (fun v1505 h1506 g5 => ?_)
    refine zr g5 (fun h1507 g6 => ?_) (fun h1507 g6 => ?_)
    ·exact zqo [(54, 7, 3, .q (xi (p0.Counts.1.length : Int))), (54, 7, 4, .q (xb true)), (54, 9, 3, .q (xi (r0.1.length : Int))), (54, 9, 5, .q (xi (r0.1.length : Int))), (54, 9, 6, .q (.d (dl eI r0.1 (ccap r0.2)))), (54, 9, 9, .q (.d (dl eI (r0.1 ++ [s14_8]) .ro))), (54, 9, 12, .q (xi (zK 1 s14_8))), (54, 9, 15, .i (.tup [(dl eI v1505.1.1 v1505.1.2), (db v1505.2)]) ⟨[], [[(1, (.cells ((za p0).map .d))), (5, (.cells [(.fn 54 [] [(.ptr 0 1 0), (.ptr 0 5 0)])]))], f1, f2, f3, f4, f5]⟩ []), (54, 10, 0, .q (xb true))] [] g6 (ob (zC zu p0.Counts.1) (ob (o_b h1501) (ob (zC eI r0.1) (ob (zC eI r0.1) (ob (z1d (e := eI) (z := 1) r0.1 r0.2) (ob (o_ad (P := TE.P) (φ := fun _ _ => none) (T := 22) (q := (1, [(di 0)])) (c := (ccap r0.2)) (e := eI) r0.1 s14_8 (by kernel_rfl) (by kernel_rfl) (fun _ => rfl) h1502 h1503) (ob (zfc (x := 1) h1504) (ob (hrc ([] : Fr) ((r0.1 ++ [s14_8]), .ro) (or64 r1 (zK 1 s14_8)) r2 _ h1506) (ob (o_b h1507) ob0))))))))) (by kernel_rfl)
    ·exact zqn (w64 (s14_8 + 1)) [] [(54, 7, 3, .q (xi (p0.Counts.1.length : Int))), (54, 7, 4, .q (xb true)), (54, 9, 3, .q (xi (r0.1.length : Int))), (54, 9, 5, .q (xi (r0.1.length : Int))), (54, 9, 6, .q (.d (dl eI r0.1 (ccap r0.2)))), (54, 9, 9, .q (.d (dl eI (r0.1 ++ [s14_8]) .ro))), (54, 9, 12, .q (xi (zK 1 s14_8))), (54, 9, 15, .i (.tup [(dl eI v1505.1.1 v1505.1.2), (db v1505.2)]) ⟨[], [[(1, (.cells ((za p0).map .d))), (5, (.cells [(.fn 54 [] [(.ptr 0 1 0), (.ptr 0 5 0)])]))], f1, f2, f3, f4, f5]⟩ []), (54, 10, 0, .q (xb false))] [] g6 (ob (zC zu p0.Counts.1) (ob (o_b h1501) (ob (zC eI r0.1) (ob (zC eI r0.1) (ob (z1d (e := eI) (z := 1) r0.1 r0.2) (ob (o_ad (P := TE.P) (φ := fun _ _ => none) (T := 22) (q := (1, [(di 0)])) (c := (ccap r0.2)) (e := eI) r0.1 s14_8 (by kernel_rfl) (by kernel_rfl) (fun _ => rfl) h1502 h1503) (ob (zfc (x := 1) h1504) (ob (hrc ([] : Fr) ((r0.1 ++ [s14_8]), .ro) (or64 r1 (zK 1 s14_8)) r2 _ h1506) (ob (o_b h1507) ob0))))))))) (by kernel_rfl)
 ·exact zqo [(54, 7, 3, .q (xi (p0.Counts.1.length : Int))), (54, 7, 4, .q (xb false))] [] g1 (ob (zC zu p0.Counts.1) (ob (o_b h1501) ob0)) (by kernel_rfl)
theorem zlo (k : Nat) (p0 : zd) (rc : zt2) (f1 f2 f3 f4 f5 : Fr) (hrc : ∀ (f : Fr) (r0 : (SL Int)) (r1 : Int) (r2 : Int) (r : ((SL Int) × Bool)), rc r0 r1 r2 = some r → zbb TE (ev TE) 54 [(.d (dl eI r0.1 r0.2)), (xi r1), (xi r2), (.ptr 0 1 0), (.ptr 0 5 0)] ⟨f, [[(1, (.cells ((za p0).map .d))), (5, (.cells [(.fn 54 [] [(.ptr 0 1 0), (.ptr 0 5 0)])]))], f1, f2, f3, f4, f5]⟩ [] = some (zy r, ⟨f, [[(1, (.cells ((za p0).map .d))), (5, (.cells [(.fn 54 [] [(.ptr 0 1 0), (.ptr 0 5 0)])]))], f1, f2, f3, f4, f5]⟩, [])) (r0 : (SL Int)) (r1 r2 : Int) (r : ((SL Int) × Bool)) (h : zjf k p0 rc r0 r1 r2 = some r) : zbb TE (ev TE) 54 [(.d (dl eI r0.1 r0.2)), (xi r1), (xi r2), (.ptr 0 1 0), (.ptr 0 5 0)] ⟨f5, [[(zc 1 (za p0)), (5, (.cells [(.fn 54 [] [(.ptr 0 1 0), (.ptr 0 5 0)])]))], f1, f2, f3, f4]⟩ [] = some (zy r, ⟨f5, [[(zc 1 (za p0)), (5, (.cells [(.fn 54 [] [(.ptr 0 1 0), (.ptr 0 5 0)])]))], f1, f2, f3, f4]⟩, []) := by
 unfold zjf at h
 refine zr h (fun h1301 g1 => ?_) (fun h1301 g1 => ?_)
 ·refine zo g1 (fun v1302 h1303 g2 => ?_)
  exact zyb (g := (fun r => (zy r, ⟨f5, [[(1, (.cells ((za p0).map .d))), (5, (.cells [(.fn 54 [] [(.ptr 0 1 0), (.ptr 0 5 0)])]))], f1, f2, f3, f4]⟩, []))) g2 (zjb (n := 80) (V := [(54, 1, 1, .q (xi (r0.1.length : Int))), (54, 1, 3, .q (xb true)), (54, 2, 3, .c (db v1302))]) (C := []) (ob (zC eI r0.1) (ob (o_b h1301) (ob (zEb k p0 r1 _ h1303) ob0))) (by kernel_rfl))
 ·refine zo g1 (fun v1302 h1303 g2 => ?_)
  refine zo g2 (fun v1304 h1305 g3 => ?_)
  refine zRb g3 (fun v1307 hh g4_0 => ?_) (fun v1307 hh g4_0 => ?_)
  ·subst hh
   exact zyb (g := (fun r => (zy r, ⟨f5, [[(1, (.cells ((za p0).map .d))), (5, (.cells [(.fn 54 [] [(.ptr 0 1 0), (.ptr 0 5 0)])]))], f1, f2, f3, f4]⟩, []))) g4_0 (zjb (n := 80) (V := [(54, 1, 1, .q (xi (r0.1.length : Int))), (54, 1, 3, .q (xb false)), (54, 4, 1, .q (xi (r0.1.length : Int)))]) (C := [(54, 2000024, (.nor, zOd p0 r0 r1 r2 (decide ((r0.1.length : Int) > 0)) rc f1 f2 f3 f4 f5 v1302)), (54, 0, (.ret, zYg p0 r0 r1 r2 v1302 rc f1 f2 f3 f4 f5 v1307))]) (ob (zC eI r0.1) (ob (o_b h1301) (ob (zC eI r0.1) (ob (zUj k p0 r0 r1 r2 (decide ((r0.1.length : Int) > 0)) rc f1 f2 f3 f4 f5 hrc _ h1303) (ob (zG (id := 0) (r' := (.ret, zYg p0 r0 r1 r2 v1302 rc f1 f2 f3 f4 f5 v1307)) (zGc (zNj k p0 r0 r1 r2 v1302 rc f1 f2 f3 f4 f5 hrc) k _ _ h1305) rfl) ob0))))) (by kernel_rfl))
  ·subst hh
   exact zyb (g := (fun r => (zy r, ⟨f5, [[(1, (.cells ((za p0).map .d))), (5, (.cells [(.fn 54 [] [(.ptr 0 1 0), (.ptr 0 5 0)])]))], f1, f2, f3, f4]⟩, []))) g4_0 (zjb (n := 80) (V := [(54, 1, 1, .q (xi (r0.1.length : Int))), (54, 1, 3, .q (xb false)), (54, 4, 1, .q (xi (r0.1.length : Int)))]) (C := [(54, 2000024, (.nor, zOd p0 r0 r1 r2 (decide ((r0.1.length : Int) > 0)) rc f1 f2 f3 f4 f5 v1302)), (54, 0, (.nor, z1g p0 r0 r1 r2 v1302 rc f1 f2 f3 f4 f5 v1307))]) (ob (zC eI r0.1) (ob (o_b h1301) (ob (zC eI r0.1) (ob (zUj k p0 r0 r1 r2 (decide ((r0.1.length : Int) > 0)) rc f1 f2 f3 f4 f5 hrc _ h1303) (ob (zG (id := 0) (r' := (.nor, z1g p0 r0 r1 r2 v1302 rc f1 f2 f3 f4 f5 v1307)) (zGc (zNj k p0 r0 r1 r2 v1302 rc f1 f2 f3 f4 f5 hrc) k _ _ h1305) rfl) ob0))))) (by kernel_rfl))
noncomputable def zSd (p0 : zd) (r0 : (SL Int)) (r1 r2 : Int) (cb : Bool) (rc : zt2) (f1 f2 f3 f4 f5 f6 : Fr) (r : zt4) : St := ⟨(zHk r0 r1 r2 r), ⟨[], [[(zc 1 (za p0)), (5, (.cells [(.fn 54 [] [(.ptr 0 1 0), (.ptr 0 5 0)])]))], f1, f2, f3, f4, f5, f6]⟩, []⟩
theorem zEj (k : Nat) (p0 : zd) (r0 : (SL Int)) (r1 r2 : Int) (cb : Bool) (rc : zt2) (f1 f2 f3 f4 f5 f6 : Fr) (hrc : ∀ (f : Fr) (r0 : (SL Int)) (r1 : Int) (r2 : Int) (r : ((SL Int) × Bool)), rc r0 r1 r2 = some r → zbb TE (ev TE) 54 [(.d (dl eI r0.1 r0.2)), (xi r1), (xi r2), (.ptr 0 1 0), (.ptr 0 5 0)] ⟨f, [[(1, (.cells ((za p0).map .d))), (5, (.cells [(.fn 54 [] [(.ptr 0 1 0), (.ptr 0 5 0)])]))], f1, f2, f3, f4, f5, f6]⟩ [] = some (zy r, ⟨f, [[(1, (.cells ((za p0).map .d))), (5, (.cells [(.fn 54 [] [(.ptr 0 1 0), (.ptr 0 5 0)])]))], f1, f2, f3, f4, f5, f6]⟩, [])) (r : zt4) (h : zDi k p0 r0 r1 r2 cb rc = some r) : ev TE 54 (cnd TE 54 24) ⟨(zLk r0 r1 r2 cb), ⟨[], [[(zc 1 (za p0)), (5, (.cells [(.fn 54 [] [(.ptr 0 1 0), (.ptr 0 5 0)])]))], f1, f2, f3, f4, f5, f6]⟩, []⟩ = some (.nor, zSd p0 r0 r1 r2 cb rc f1 f2 f3 f4 f5 f6 r) := by
 unfold zDi at h
 refine zr h (fun h1601 g1 => ?_) (fun h1601 g1 => ?_)
 ·subst h1601
  refine zo g1 (fun v1602 h1603 g2 => ?_)
  exact zE (g := fun r => (Ex.nor, zSd p0 r0 r1 r2 true rc f1 f2 f3 f4 f5 f6 r)) g2 (zqe [(54, 5, 2, .q (xi (r0.1.length : Int))), (54, 5, 4, .q (.d (.pin [(di v1602)])))] [] (ob (zC eI r0.1) (ob (o_ia (e := eI) 1 h1603 rfl) ob0)) (by kernel_rfl))
 ·subst h1601
  exact zE (g := fun r => (Ex.nor, zSd p0 r0 r1 r2 false rc f1 f2 f3 f4 f5 f6 r)) g1 (zqe [] [] ob0 (by kernel_rfl))
noncomputable def z3B (r0 : (SL Int)) (r1 r2 : Int) (v1502 : zt4) (s16_8 : Int) : TM := [(0, (.d (dl eI r0.1 r0.2))), (1, (xi r1)), (2, (xi r2)), (3, (.ptr 0 1 0)), (4, (.ptr 0 5 0)), (8, (.d (.sl [] .nil))), (9, (xb false)), (17, (xb false)), (10, (xi v1502.1)), (24, (xb v1502.2)), (11, (xi s16_8))]
noncomputable def zBp (p0 : zd) (r0 : (SL Int)) (r1 r2 : Int) (v1502 : zt4) (rc : zt2) (f1 f2 f3 f4 f5 f6 : Fr) (s16_8 : Int) : St := ⟨(z3B r0 r1 r2 v1502 s16_8), ⟨[], [[(zc 1 (za p0)), (5, (.cells [(.fn 54 [] [(.ptr 0 1 0), (.ptr 0 5 0)])]))], f1, f2, f3, f4, f5, f6]⟩, []⟩
noncomputable def zaA (r0 : (SL Int)) (r1 r2 : Int) (r : zt18) (v1502 : zt4) : TM := [(0, (.d (dl eI r0.1 r0.2))), (1, (xi r1)), (2, (xi r2)), (3, (.ptr 0 1 0)), (4, (.ptr 0 5 0)), (8, (.d (dl eI r.1.1 r.1.2))), (9, (xb true)), (17, (xb false)), (10, (xi v1502.1)), (24, (xb v1502.2)), (11, (xi r.2.1)), (37, (xb true)), (12, (.d (dl eI r.1.1 r.1.2))), (13, (xb r.2.2)), (59, (xb true))]
noncomputable def zUg (p0 : zd) (r0 : (SL Int)) (r1 r2 : Int) (v1502 : zt4) (rc : zt2) (f1 f2 f3 f4 f5 f6 : Fr) (r : zt18) : St := ⟨(zaA r0 r1 r2 r v1502), ⟨[], [[(zc 1 (za p0)), (5, (.cells [(.fn 54 [] [(.ptr 0 1 0), (.ptr 0 5 0)])]))], f1, f2, f3, f4, f5, f6]⟩, []⟩
noncomputable def zyB (r0 : (SL Int)) (r1 r2 : Int) (v1502 : zt4) (r : Int) : TM := [(0, (.d (dl eI r0.1 r0.2))), (1, (xi r1)), (2, (xi r2)), (3, (.ptr 0 1 0)), (4, (.ptr 0 5 0)), (8, (.d (.sl [] .nil))), (9, (xb false)), (17, (xb false)), (10, (xi v1502.1)), (24, (xb v1502.2)), (11, (xi r)), (37, (xb false))]
noncomputable def zXg (p0 : zd) (r0 : (SL Int)) (r1 r2 : Int) (v1502 : zt4) (rc : zt2) (f1 f2 f3 f4 f5 f6 : Fr) (r : Int) : St := ⟨(zyB r0 r1 r2 v1502 r), ⟨[], [[(zc 1 (za p0)), (5, (.cells [(.fn 54 [] [(.ptr 0 1 0), (.ptr 0 5 0)])]))], f1, f2, f3, f4, f5, f6]⟩, []⟩
noncomputable def zCp (p0 : zd) (r0 : (SL Int)) (r1 r2 : Int) (v1502 : zt4) (rc : zt2) (f1 f2 f3 f4 f5 f6 : Fr) : (((SL Int) × Int × Bool) ⊕ Int) → Ex × St := Sum.elim (fun r => (.ret, zUg p0 r0 r1 r2 v1502 rc f1 f2 f3 f4 f5 f6 r)) (fun r => ((.exit 0), zXg p0 r0 r1 r2 v1502 rc f1 f2 f3 f4 f5 f6 r))
theorem zLj (k : Nat) (p0 : zd) (r0 : (SL Int)) (r1 r2 : Int) (v1502 : zt4) (rc : zt2) (f1 f2 f3 f4 f5 f6 : Fr) (hrc : ∀ (f : Fr) (r0 : (SL Int)) (r1 : Int) (r2 : Int) (r : ((SL Int) × Bool)), rc r0 r1 r2 = some r → zbb TE (ev TE) 54 [(.d (dl eI r0.1 r0.2)), (xi r1), (xi r2), (.ptr 0 1 0), (.ptr 0 5 0)] ⟨f, [[(1, (.cells ((za p0).map .d))), (5, (.cells [(.fn 54 [] [(.ptr 0 1 0), (.ptr 0 5 0)])]))], f1, f2, f3, f4, f5, f6]⟩ [] = some (zy r, ⟨f, [[(1, (.cells ((za p0).map .d))), (5, (.cells [(.fn 54 [] [(.ptr 0 1 0), (.ptr 0 5 0)])]))], f1, f2, f3, f4, f5, f6]⟩, [])) (s16_8 : Int) (x : Int ⊕ (((SL Int) × Int × Bool) ⊕ Int)) (h : zTi k p0 r0 r1 r2 v1502 rc s16_8 = some x) : zT TE 54 (blk TE 54 0) (fun s : Int => zBp p0 r0 r1 r2 v1502 rc f1 f2 f3 f4 f5 f6 s) (zCp p0 r0 r1 r2 v1502 rc f1 f2 f3 f4 f5 f6) s16_8 x := by
 unfold zTi at h
 refine zr h (fun h1701 g1 => ?_) (fun h1701 g1 => ?_)
 ·refine zr g1 (fun h1702 g2 => ?_) (fun h1702 g2 => ?_)
  ·cases g2
  ·refine z6 g2 (fun h1703 g3 => ?_)
   refine zr g3 (fun h1704 g4 => ?_) (fun h1704 g4 => ?_)
   ·cases g4
   ·refine zo g4 (fun v1705 h1706 g5 => ?_)
    refine zr g5 (fun h1707 g6 => ?_) (fun h1707 g6 => ?_)
    ·exact zqo [(54, 7, 3, .q (xi (p0.Counts.1.length : Int))), (54, 7, 4, .q (xb true)), (54, 9, 3, .q (xi (r0.1.length : Int))), (54, 9, 5, .q (xi (r0.1.length : Int))), (54, 9, 6, .q (.d (dl eI r0.1 (ccap r0.2)))), (54, 9, 9, .q (.d (dl eI (r0.1 ++ [s16_8]) .ro))), (54, 9, 12, .q (xi (zK 1 s16_8))), (54, 9, 15, .i (.tup [(dl eI v1705.1.1 v1705.1.2), (db v1705.2)]) ⟨[], [[(1, (.cells ((za p0).map .d))), (5, (.cells [(.fn 54 [] [(.ptr 0 1 0), (.ptr 0 5 0)])]))], f1, f2, f3, f4, f5, f6]⟩ []), (54, 10, 0, .q (xb true))] [] g6 (ob (zC zu p0.Counts.1) (ob (o_b h1701) (ob (zC eI r0.1) (ob (zC eI r0.1) (ob (z1d (e := eI) (z := 1) r0.1 r0.2) (ob (o_ad (P := TE.P) (φ := fun _ _ => none) (T := 22) (q := (1, [(di 0)])) (c := (ccap r0.2)) (e := eI) r0.1 s16_8 (by kernel_rfl) (by kernel_rfl) (fun _ => rfl) h1702 h1703) (ob (zfc (x := 1) h1704) (ob (hrc ([] : Fr) ((r0.1 ++ [s16_8]), .ro) (or64 r1 (zK 1 s16_8)) r2 _ h1706) (ob (o_b h1707) ob0))))))))) (by kernel_rfl)
    ·exact zqn (w64 (s16_8 + 1)) [] [(54, 7, 3, .q (xi (p0.Counts.1.length : Int))), (54, 7, 4, .q (xb true)), (54, 9, 3, .q (xi (r0.1.length : Int))), (54, 9, 5, .q (xi (r0.1.length : Int))), (54, 9, 6, .q (.d (dl eI r0.1 (ccap r0.2)))), (54, 9, 9, .q (.d (dl eI (r0.1 ++ [s16_8]) .ro))), (54, 9, 12, .q (xi (zK 1 s16_8))), (54, 9, 15, .i (.tup [(dl eI v1705.1.1 v1705.1.2), (db v1705.2)]) ⟨[], [[(1, (.cells ((za p0).map .d))), (5, (.cells [(.fn 54 [] [(.ptr 0 1 0), (.ptr 0 5 0)])]))], f1, f2, f3, f4, f5, f6]⟩ []), (54, 10, 0, .q (xb false))] [] g6 (ob (zC zu p0.Counts.1) (ob (o_b h1701) (ob (zC eI r0.1) (ob (zC eI r0.1) (ob (z1d (e := eI) (z := 1) r0.1 r0.2) (ob (o_ad (P := TE.P) (φ := fun _ _ => none) (T := 22) (q := (1, [(di 0)])) (c := (ccap r0.2)) (e := eI) r0.1 s16_8 (by kernel_rfl) (by kernel_rfl) (fun _ => rfl) h1702 h1703) (ob (zfc (x := 1) h1704) (ob (hrc ([] : Fr) ((r0.1 ++ [s16_8]), .ro) (or64 r1 (zK 1 s16_8)) r2 _ h1706) (ob (o_b h1707) ob0))))))))) (by kernel_rfl)
 ·exact zqo [(54, 7, 3, .q (xi (p0.Counts.1.length : Int))), (54, 7, 4, .q (xb false))] [] g1 (ob (zC zu p0.Counts.1) (ob (o_b h1701) ob0)) (by kernel_rfl)
theorem zxo (k : Nat) (p0 : zd) (rc : zt2) (f1 f2 f3 f4 f5 f6 : Fr) (hrc : ∀ (f : Fr) (r0 : (SL Int)) (r1 : Int) (r2 : Int) (r : ((SL Int) × Bool)), rc r0 r1 r2 = some r → zbb TE (ev TE) 54 [(.d (dl eI r0.1 r0.2)), (xi r1), (xi r2), (.ptr 0 1 0), (.ptr 0 5 0)] ⟨f, [[(1, (.cells ((za p0).map .d))), (5, (.cells [(.fn 54 [] [(.ptr 0 1 0), (.ptr 0 5 0)])]))], f1, f2, f3, f4, f5, f6]⟩ [] = some (zy r, ⟨f, [[(1, (.cells ((za p0).map .d))), (5, (.cells [(.fn 54 [] [(.ptr 0 1 0), (.ptr 0 5 0)])]))], f1, f2, f3, f4, f5, f6]⟩, [])) (r0 : (SL Int)) (r1 r2 : Int) (r : ((SL Int) × Bool)) (h : zof k p0 rc r0 r1 r2 = some r) : zbb TE (ev TE) 54 [(.d (dl eI r0.1 r0.2)), (xi r1), (xi r2), (.ptr 0 1 0), (.ptr 0 5 0)] ⟨f6, [[(zc 1 (za p0)), (5, (.cells [(.fn 54 [] [(.ptr 0 1 0), (.ptr 0 5 0)])]))], f1, f2, f3, f4, f5]⟩ [] = some (zy r, ⟨f6, [[(zc 1 (za p0)), (5, (.cells [(.fn 54 [] [(.ptr 0 1 0), (.ptr 0 5 0)])]))], f1, f2, f3, f4, f5]⟩, []) := by
 unfold zof at h
 refine zr h (fun h1501 g1 => ?_) (fun h1501 g1 => ?_)
 ·refine zo g1 (fun v1502 h1503 g2 => ?_)
  exact zyb (g := (fun r => (zy r, ⟨f6, [[(1, (.cells ((za p0).map .d))), (5, (.cells [(.fn 54 [] [(.ptr 0 1 0), (.ptr 0 5 0)])]))], f1, f2, f3, f4, f5]⟩, []))) g2 (zjb (n := 80) (V := [(54, 1, 1, .q (xi (r0.1.length : Int))), (54, 1, 3, .q (xb true)), (54, 2, 3, .c (db v1502))]) (C := []) (ob (zC eI r0.1) (ob (o_b h1501) (ob (zEb k p0 r1 _ h1503) ob0))) (by kernel_rfl))
 ·refine zo g1 (fun v1502 h1503 g2 => ?_)
  refine zo g2 (fun v1504 h1505 g3 => ?_)
  refine zRb g3 (fun v1507 hh g4_0 => ?_) (fun v1507 hh g4_0 => ?_)
  ·subst hh
   exact zyb (g := (fun r => (zy r, ⟨f6, [[(1, (.cells ((za p0).map .d))), (5, (.cells [(.fn 54 [] [(.ptr 0 1 0), (.ptr 0 5 0)])]))], f1, f2, f3, f4, f5]⟩, []))) g4_0 (zjb (n := 80) (V := [(54, 1, 1, .q (xi (r0.1.length : Int))), (54, 1, 3, .q (xb false)), (54, 4, 1, .q (xi (r0.1.length : Int)))]) (C := [(54, 2000024, (.nor, zSd p0 r0 r1 r2 (decide ((r0.1.length : Int) > 0)) rc f1 f2 f3 f4 f5 f6 v1502)), (54, 0, (.ret, zUg p0 r0 r1 r2 v1502 rc f1 f2 f3 f4 f5 f6 v1507))]) (ob (zC eI r0.1) (ob (o_b h1501) (ob (zC eI r0.1) (ob (zEj k p0 r0 r1 r2 (decide ((r0.1.length : Int) > 0)) rc f1 f2 f3 f4 f5 f6 hrc _ h1503) (ob (zG (id := 0) (r' := (.ret, zUg p0 r0 r1 r2 v1502 rc f1 f2 f3 f4 f5 f6 v1507)) (zGc (zLj k p0 r0 r1 r2 v1502 rc f1 f2 f3 f4 f5 f6 hrc) k _ _ h1505) rfl) ob0))))) (by kernel_rfl))
  ·subst hh
   exact zyb (g := (fun r => (zy r, ⟨f6, [[(1, (.cells ((za p0).map .d))), (5, (.cells [(.fn 54 [] [(.ptr 0 1 0), (.ptr 0 5 0)])]))], f1, f2, f3, f4, f5]⟩, []))) g4_0 (zjb (n := 80) (V := [(54, 1, 1, .q (xi (r0.1.length : Int))), (54, 1, 3, .q (xb false)), (54, 4, 1, .q (xi (r0.1.length : Int)))]) (C := [(54, 2000024, (.nor, zSd p0 r0 r1 r2 (decide ((r0.1.length : Int) > 0)) rc f1 f2 f3 f4 f5 f6 v1502)), (54, 0, (.nor, zXg p0 r0 r1 r2 v1502 rc f1 f2 f3 f4 f5 f6 v1507))]) (ob (zC eI r0.1) (ob (o_b h1501) (ob (zC eI r0.1) (ob (zEj k p0 r0 r1 r2 (decide ((r0.1.length : Int) > 0)) rc f1 f2 f3 f4 f5 f6 hrc _ h1503) (ob (zG (id := 0) (r' := (.nor, zXg p0 r0 r1 r2 v1502 rc f1 f2 f3 f4 f5 f6 v1507)) (zGc (zLj k p0 r0 r1 r2 v1502 rc f1 f2 f3 f4 f5 f6 hrc) k _ _ h1505) rfl) ob0))))) (by kernel_rfl))
noncomputable def zRd (p0 : zd) (r0 : (SL Int)) (r1 r2 : Int) (cb : Bool) (rc : zt2) (f1 f2 f3 f4 f5 f6 f7 : Fr) (r : zt4) : St := ⟨(zHk r0 r1 r2 r), ⟨[], [[(zc 1 (za p0)), (5, (.cells [(.fn 54 [] [(.ptr 0 1 0), (.ptr 0 5 0)])]))], f1, f2, f3, f4, f5, f6, f7]⟩, []⟩
theorem zbk (k : Nat) (p0 : zd) (r0 : (SL Int)) (r1 r2 : Int) (cb : Bool) (rc : zt2) (f1 f2 f3 f4 f5 f6 f7 : Fr) (hrc : ∀ (f : Fr) (r0 : (SL Int)) (r1 : Int) (r2 : Int) (r : ((SL Int) × Bool)), rc r0 r1 r2 = some r → zbb TE (ev TE) 54 [(.d (dl eI r0.1 r0.2)), (xi r1), (xi r2), (.ptr 0 1 0), (.ptr 0 5 0)] ⟨f, [[(1, (.cells ((za p0).map .d))), (5, (.cells [(.fn 54 [] [(.ptr 0 1 0), (.ptr 0 5 0)])]))], f1, f2, f3, f4, f5, f6, f7]⟩ [] = some (zy r, ⟨f, [[(1, (.cells ((za p0).map .d))), (5, (.cells [(.fn 54 [] [(.ptr 0 1 0), (.ptr 0 5 0)])]))], f1, f2, f3, f4, f5, f6, f7]⟩, [])) (r : zt4) (h : zMi k p0 r0 r1 r2 cb rc = some r) : ev TE 54 (cnd TE 54 24) ⟨(zLk r0 r1 r2 cb), ⟨[], [[(zc 1 (za p0)), (5, (.cells [(.fn 54 [] [(.ptr 0 1 0), (.ptr 0 5 0)])]))], f1, f2, f3, f4, f5, f6, f7]⟩, []⟩ = some (.nor, zRd p0 r0 r1 r2 cb rc f1 f2 f3 f4 f5 f6 f7 r) := by
 unfold zMi at h
 refine zr h (fun h1801 g1 => ?_) (fun h1801 g1 => ?_)
 ·subst h1801
  refine zo g1 (fun v1802 h1803 g2 => ?_)
  exact zE (g := fun r => (Ex.nor, zRd p0 r0 r1 r2 true rc f1 f2 f3 f4 f5 f6 f7 r)) g2 (zqe [(54, 5, 2, .q (xi (r0.1.length : Int))), (54, 5, 4, .q (.d (.pin [(di v1802)])))] [] (ob (zC eI r0.1) (ob (o_ia (e := eI) 1 h1803 rfl) ob0)) (by kernel_rfl))
 ·subst h1801
  exact zE (g := fun r => (Ex.nor, zRd p0 r0 r1 r2 false rc f1 f2 f3 f4 f5 f6 f7 r)) g1 (zqe [] [] ob0 (by kernel_rfl))
noncomputable def zHB (r0 : (SL Int)) (r1 r2 : Int) (v1702 : zt4) (s18_8 : Int) : TM := [(0, (.d (dl eI r0.1 r0.2))), (1, (xi r1)), (2, (xi r2)), (3, (.ptr 0 1 0)), (4, (.ptr 0 5 0)), (8, (.d (.sl [] .nil))), (9, (xb false)), (17, (xb false)), (10, (xi v1702.1)), (24, (xb v1702.2)), (11, (xi s18_8))]
noncomputable def zup (p0 : zd) (r0 : (SL Int)) (r1 r2 : Int) (v1702 : zt4) (rc : zt2) (f1 f2 f3 f4 f5 f6 f7 : Fr) (s18_8 : Int) : St := ⟨(zHB r0 r1 r2 v1702 s18_8), ⟨[], [[(zc 1 (za p0)), (5, (.cells [(.fn 54 [] [(.ptr 0 1 0), (.ptr 0 5 0)])]))], f1, f2, f3, f4, f5, f6, f7]⟩, []⟩
noncomputable def zoA (r0 : (SL Int)) (r1 r2 : Int) (r : zt18) (v1702 : zt4) : TM := [(0, (.d (dl eI r0.1 r0.2))), (1, (xi r1)), (2, (xi r2)), (3, (.ptr 0 1 0)), (4, (.ptr 0 5 0)), (8, (.d (dl eI r.1.1 r.1.2))), (9, (xb true)), (17, (xb false)), (10, (xi v1702.1)), (24, (xb v1702.2)), (11, (xi r.2.1)), (37, (xb true)), (12, (.d (dl eI r.1.1 r.1.2))), (13, (xb r.2.2)), (59, (xb true))]
noncomputable def z9g (p0 : zd) (r0 : (SL Int)) (r1 r2 : Int) (v1702 : zt4) (rc : zt2) (f1 f2 f3 f4 f5 f6 f7 : Fr) (r : zt18) : St := ⟨(zoA r0 r1 r2 r v1702), ⟨[], [[(zc 1 (za p0)), (5, (.cells [(.fn 54 [] [(.ptr 0 1 0), (.ptr 0 5 0)])]))], f1, f2, f3, f4, f5, f6, f7]⟩, []⟩
noncomputable def zlA (r0 : (SL Int)) (r1 r2 : Int) (v1702 : zt4) (r : Int) : TM := [(0, (.d (dl eI r0.1 r0.2))), (1, (xi r1)), (2, (xi r2)), (3, (.ptr 0 1 0)), (4, (.ptr 0 5 0)), (8, (.d (.sl [] .nil))), (9, (xb false)), (17, (xb false)), (10, (xi v1702.1)), (24, (xb v1702.2)), (11, (xi r)), (37, (xb false))]
noncomputable def zQg (p0 : zd) (r0 : (SL Int)) (r1 r2 : Int) (v1702 : zt4) (rc : zt2) (f1 f2 f3 f4 f5 f6 f7 : Fr) (r : Int) : St := ⟨(zlA r0 r1 r2 v1702 r), ⟨[], [[(zc 1 (za p0)), (5, (.cells [(.fn 54 [] [(.ptr 0 1 0), (.ptr 0 5 0)])]))], f1, f2, f3, f4, f5, f6, f7]⟩, []⟩
noncomputable def znp (p0 : zd) (r0 : (SL Int)) (r1 r2 : Int) (v1702 : zt4) (rc : zt2) (f1 f2 f3 f4 f5 f6 f7 : Fr) : (((SL Int) × Int × Bool) ⊕ Int) → Ex × St := Sum.elim (fun r => (.ret, z9g p0 r0 r1 r2 v1702 rc f1 f2 f3 f4 f5 f6 f7 r)) (fun r => ((.exit 0), zQg p0 r0 r1 r2 v1702 rc f1 f2 f3 f4 f5 f6 f7 r))
theorem zak (k : Nat) (p0 : zd) (r0 : (SL Int)) (r1 r2 : Int) (v1702 : zt4) (rc : zt2) (f1 f2 f3 f4 f5 f6 f7 : Fr) (hrc : ∀ (f : Fr) (r0 : (SL Int)) (r1 : Int) (r2 : Int) (r : ((SL Int) × Bool)), rc r0 r1 r2 = some r → zbb TE (ev TE) 54 [(.d (dl eI r0.1 r0.2)), (xi r1), (xi r2), (.ptr 0 1 0), (.ptr 0 5 0)] ⟨f, [[(1, (.cells ((za p0).map .d))), (5, (.cells [(.fn 54 [] [(.ptr 0 1 0), (.ptr 0 5 0)])]))], f1, f2, f3, f4, f5, f6, f7]⟩ [] = some (zy r, ⟨f, [[(1, (.cells ((za p0).map .d))), (5, (.cells [(.fn 54 [] [(.ptr 0 1 0), (.ptr 0 5 0)])]))], f1, f2, f3, f4, f5, f6, f7]⟩, [])) (s18_8 : Int) (x : Int ⊕ (((SL Int) × Int × Bool) ⊕ Int)) (h : zIi k p0 r0 r1 r2 v1702 rc s18_8 = some x) : zT TE 54 (blk TE 54 0) (fun s : Int => zup p0 r0 r1 r2 v1702 rc f1 f2 f3 f4 f5 f6 f7 s) (znp p0 r0 r1 r2 v1702 rc f1 f2 f3 f4 f5 f6 f7) s18_8 x := by
 unfold zIi at h
 refine zr h (fun h1901 g1 => ?_) (fun h1901 g1 => ?_)
 ·refine zr g1 (fun h1902 g2 => ?_) (fun h1902 g2 => ?_)
  ·cases g2
  ·refine z6 g2 (fun h1903 g3 => ?_)
   refine zr g3 (fun h1904 g4 => ?_) (fun h1904 g4 => ?_)
   ·cases g4
   ·refine zo g4 (fun v1905 h1906 g5 => ?_)
    refine zr g5 (fun h1907 g6 => ?_) (fun h1907 g6 => ?_)
    ·exact zqo [(54, 7, 3, .q (xi (p0.Counts.1.length : Int))), (54, 7, 4, .q (xb true)), (54, 9, 3, .q (xi (r0.1.length : Int))), (54, 9, 5, .q (xi (r0.1.length : Int))), (54, 9, 6, .q (.d (dl eI r0.1 (ccap r0.2)))), (54, 9, 9, .q (.d (dl eI (r0.1 ++ [s18_8]) .ro))), (54, 9, 12, .q (xi (zK 1 s18_8))), (54, 9, 15, .i (.tup [(dl eI v1905.1.1 v1905.1.2), (db v1905.2)]) ⟨[], [[(1, (.cells ((za p0).map .d))), (5, (.cells [(.fn 54 [] [(.ptr 0 1 0), (.ptr 0 5 0)])]))], f1, f2, f3, f4, f5, f6, f7]⟩ []), (54, 10, 0, .q (xb true))] [] g6 (ob (zC zu p0.Counts.1) (ob (o_b h1901) (ob (zC eI r0.1) (ob (zC eI r0.1) (ob (z1d (e := eI) (z := 1) r0.1 r0.2) (ob (o_ad (P := TE.P) (φ := fun _ _ => none) (T := 22) (q := (1, [(di 0)])) (c := (ccap r0.2)) (e := eI) r0.1 s18_8 (by kernel_rfl) (by kernel_rfl) (fun _ => rfl) h1902 h1903) (ob (zfc (x := 1) h1904) (ob (hrc ([] : Fr) ((r0.1 ++ [s18_8]), .ro) (or64 r1 (zK 1 s18_8)) r2 _ h1906) (ob (o_b h1907) ob0))))))))) (by kernel_rfl)
    ·exact zqn (w64 (s18_8 + 1)) [] [(54, 7, 3, .q (xi (p0.Counts.1.length : Int))), (54, 7, 4, .q (xb true)), (54, 9, 3, .q (xi (r0.1.length : Int))), (54, 9, 5, .q (xi (r0.1.length : Int))), (54, 9, 6, .q (.d (dl eI r0.1 (ccap r0.2)))), (54, 9, 9, .q (.d (dl eI (r0.1 ++ [s18_8]) .ro))), (54, 9, 12, .q (xi (zK 1 s18_8))), (54, 9, 15, .i (.tup [(dl eI v1905.1.1 v1905.1.2), (db v1905.2)]) ⟨[], [[(1, (.cells ((za p0).map .d))), (5, (.cells [(.fn 54 [] [(.ptr 0 1 0), (.ptr 0 5 0)])]))], f1, f2, f3, f4, f5, f6, f7]⟩ []), (54, 10, 0, .q (xb false))] [] g6 (ob (zC zu p0.Counts.1) (ob (o_b h1901) (ob (zC eI r0.1) (ob (zC eI r0.1) (ob (z1d (e := eI) (z := 1) r0.1 r0.2) (ob (o_ad (P := TE.P) (φ := fun _ _ => none) (T := 22) (q := (1, [(di 0)])) (c := (ccap r0.2)) (e := eI) r0.1 s18_8 (by kernel_rfl) (by kernel_rfl) (fun _ => rfl) h1902 h1903) (ob (zfc (x := 1) h1904) (ob (hrc ([] : Fr) ((r0.1 ++ [s18_8]), .ro) (or64 r1 (zK 1 s18_8)) r2 _ h1906) (ob (o_b h1907) ob0))))))))) (by kernel_rfl)
 ·exact zqo [(54, 7, 3, .q (xi (p0.Counts.1.length : Int))), (54, 7, 4, .q (xb false))] [] g1 (ob (zC zu p0.Counts.1) (ob (o_b h1901) ob0)) (by kernel_rfl)
theorem zho (k : Nat) (p0 : zd) (rc : zt2) (f1 f2 f3 f4 f5 f6 f7 : Fr) (hrc : ∀ (f : Fr) (r0 : (SL Int)) (r1 : Int) (r2 : Int) (r : ((SL Int) × Bool)), rc r0 r1 r2 = some r → zbb TE (ev TE) 54 [(.d (dl eI r0.1 r0.2)), (xi r1), (xi r2), (.ptr 0 1 0), (.ptr 0 5 0)] ⟨f, [[(1, (.cells ((za p0).map .d))), (5, (.cells [(.fn 54 [] [(.ptr 0 1 0), (.ptr 0 5 0)])]))], f1, f2, f3, f4, f5, f6, f7]⟩ [] = some (zy r, ⟨f, [[(1, (.cells ((za p0).map .d))), (5, (.cells [(.fn 54 [] [(.ptr 0 1 0), (.ptr 0 5 0)])]))], f1, f2, f3, f4, f5, f6, f7]⟩, [])) (r0 : (SL Int)) (r1 r2 : Int) (r : ((SL Int) × Bool)) (h : zsf k p0 rc r0 r1 r2 = some r) : zbb TE (ev TE) 54 [(.d (dl eI r0.1 r0.2)), (xi r1), (xi r2), (.ptr 0 1 0), (.ptr 0 5 0)] ⟨f7, [[(zc 1 (za p0)), (5, (.cells [(.fn 54 [] [(.ptr 0 1 0), (.ptr 0 5 0)])]))], f1, f2, f3, f4, f5, f6]⟩ [] = some (zy r, ⟨f7, [[(zc 1 (za p0)), (5, (.cells [(.fn 54 [] [(.ptr 0 1 0), (.ptr 0 5 0)])]))], f1, f2, f3, f4, f5, f6]⟩, []) := by
 unfold zsf at h
 refine zr h (fun h1701 g1 => ?_) (fun h1701 g1 => ?_)
 ·refine zo g1 (fun v1702 h1703 g2 => ?_)
  exact zyb (g := (fun r => (zy r, ⟨f7, [[(1, (.cells ((za p0).map .d))), (5, (.cells [(.fn 54 [] [(.ptr 0 1 0), (.ptr 0 5 0)])]))], f1, f2, f3, f4, f5, f6]⟩, []))) g2 (zjb (n := 80) (V := [(54, 1, 1, .q (xi (r0.1.length : Int))), (54, 1, 3, .q (xb true)), (54, 2, 3, .c (db v1702))]) (C := []) (ob (zC eI r0.1) (ob (o_b h1701) (ob (zEb k p0 r1 _ h1703) ob0))) (by kernel_rfl))
 ·refine zo g1 (fun v1702 h1703 g2 => ?_)
  refine zo g2 (fun v1704 h1705 g3 => ?_)
  refine zRb g3 (fun v1707 hh g4_0 => ?_) (fun v1707 hh g4_0 => ?_)
  ·subst hh
   exact zyb (g := (fun r => (zy r, ⟨f7, [[(1, (.cells ((za p0).map .d))), (5, (.cells [(.fn 54 [] [(.ptr 0 1 0), (.ptr 0 5 0)])]))], f1, f2, f3, f4, f5, f6]⟩, []))) g4_0 (zjb (n := 80) (V := [(54, 1, 1, .q (xi (r0.1.length : Int))), (54, 1, 3, .q (xb false)), (54, 4, 1, .q (xi (r0.1.length : Int)))]) (C := [(54, 2000024, (.nor, zRd p0 r0 r1 r2 (decide ((r0.1.length : Int) > 0)) rc f1 f2 f3 f4 f5 f6 f7 v1702)), (54, 0, (.ret, z9g p0 r0 r1 r2 v1702 rc f1 f2 f3 f4 f5 f6 f7 v1707))]) (ob (zC eI r0.1) (ob (o_b h1701) (ob (zC eI r0.1) (ob (zbk k p0 r0 r1 r2 (decide ((r0.1.length : Int) > 0)) rc f1 f2 f3 f4 f5 f6 f7 hrc _ h1703) (ob (zG (id := 0) (r' := (.ret, z9g p0 r0 r1 r2 v1702 rc f1 f2 f3 f4 f5 f6 f7 v1707)) (zGc (zak k p0 r0 r1 r2 v1702 rc f1 f2 f3 f4 f5 f6 f7 hrc) k _ _ h1705) rfl) ob0))))) (by kernel_rfl))
  ·subst hh
   exact zyb (g := (fun r => (zy r, ⟨f7, [[(1, (.cells ((za p0).map .d))), (5, (.cells [(.fn 54 [] [(.ptr 0 1 0), (.ptr 0 5 0)])]))], f1, f2, f3, f4, f5, f6]⟩, []))) g4_0 (zjb (n := 80) (V := [(54, 1, 1, .q (xi (r0.1.length : Int))), (54, 1, 3, .q (xb false)), (54, 4, 1, .q (xi (r0.1.length : Int)))]) (C := [(54, 2000024, (.nor, zRd p0 r0 r1 r2 (decide ((r0.1.length : Int) > 0)) rc f1 f2 f3 f4 f5 f6 f7 v1702)), (54, 0, (.nor, zQg p0 r0 r1 r2 v1702 rc f1 f2 f3 f4 f5 f6 f7 v1707))]) (ob (zC eI r0.1) (ob (o_b h1701) (ob (zC eI r0.1) (ob (zbk k p0 r0 r1 r2 (decide ((r0.1.length : Int) > 0)) rc f1 f2 f3 f4 f5 f6 f7 hrc _ h1703) (ob (zG (id := 0) (r' := (.nor, zQg p0 r0 r1 r2 v1702 rc f1 f2 f3 f4 f5 f6 f7 v1707)) (zGc (zak k p0 r0 r1 r2 v1702 rc f1 f2 f3 f4 f5 f6 f7 hrc) k _ _ h1705) rfl) ob0))))) (by kernel_rfl))
noncomputable def zPd (p0 : zd) (r0 : (SL Int)) (r1 r2 : Int) (cb : Bool) (rc : zt2) (f1 f2 f3 f4 f5 f6 f7 f8 : Fr) (r : zt4) : St := ⟨(zHk r0 r1 r2 r), ⟨[], [[(zc 1 (za p0)), (5, (.cells [(.fn 54 [] [(.ptr 0 1 0), (.ptr 0 5 0)])]))], f1, f2, f3, f4, f5, f6, f7, f8]⟩, []⟩
theorem zHj (k : Nat) (p0 : zd) (r0 : (SL Int)) (r1 r2 : Int) (cb : Bool) (rc : zt2) (f1 f2 f3 f4 f5 f6 f7 f8 : Fr) (hrc : ∀ (f : Fr) (r0 : (SL Int)) (r1 : Int) (r2 : Int) (r : ((SL Int) × Bool)), rc r0 r1 r2 = some r → zbb TE (ev TE) 54 [(.d (dl eI r0.1 r0.2)), (xi r1), (xi r2), (.ptr 0 1 0), (.ptr 0 5 0)] ⟨f, [[(1, (.cells ((za p0).map .d))), (5, (.cells [(.fn 54 [] [(.ptr 0 1 0), (.ptr 0 5 0)])]))], f1, f2, f3, f4, f5, f6, f7, f8]⟩ [] = some (zy r, ⟨f, [[(1, (.cells ((za p0).map .d))), (5, (.cells [(.fn 54 [] [(.ptr 0 1 0), (.ptr 0 5 0)])]))], f1, f2, f3, f4, f5, f6, f7, f8]⟩, [])) (r : zt4) (h : zOi k p0 r0 r1 r2 cb rc = some r) : ev TE 54 (cnd TE 54 24) ⟨(zLk r0 r1 r2 cb), ⟨[], [[(zc 1 (za p0)), (5, (.cells [(.fn 54 [] [(.ptr 0 1 0), (.ptr 0 5 0)])]))], f1, f2, f3, f4, f5, f6, f7, f8]⟩, []⟩ = some (.nor, zPd p0 r0 r1 r2 cb rc f1 f2 f3 f4 f5 f6 f7 f8 r) := by
 unfold zOi at h
 refine zr h (fun h2001 g1 => ?_) (fun h2001 g1 => ?_)
 ·subst h2001
  refine zo g1 (fun v2002 h2003 g2 => ?_)
  exact zE (g := fun r => (Ex.nor, zPd p0 r0 r1 r2 true rc f1 f2 f3 f4 f5 f6 f7 f8 r)) g2 (zqe [(54, 5, 2, .q (xi (r0.1.length : Int))), (54, 5, 4, .q (.d (.pin [(di v2002)])))] [] (ob (zC eI r0.1) (ob (o_ia (e := eI) 1 h2003 rfl) ob0)) (by kernel_rfl))
 ·subst h2001
  exact zE (g := fun r => (Ex.nor, zPd p0 r0 r1 r2 false rc f1 f2 f3 f4 f5 f6 f7 f8 r)) g1 (zqe [] [] ob0 (by kernel_rfl))
noncomputable def zVB (r0 : (SL Int)) (r1 r2 : Int) (v1902 : zt4) (s20_8 : Int) : TM := [(0, (.d (dl eI r0.1 r0.2))), (1, (xi r1)), (2, (xi r2)), (3, (.ptr 0 1 0)), (4, (.ptr 0 5 0)), (8, (.d (.sl [] .nil))), (9, (xb false)), (17, (xb false)), (10, (xi v1902.1)), (24, (xb v1902.2)), (11, (xi s20_8))]
noncomputable def zpp (p0 : zd) (r0 : (SL Int)) (r1 r2 : Int) (v1902 : zt4) (rc : zt2) (f1 f2 f3 f4 f5 f6 f7 f8 : Fr) (s20_8 : Int) : St := ⟨(zVB r0 r1 r2 v1902 s20_8), ⟨[], [[(zc 1 (za p0)), (5, (.cells [(.fn 54 [] [(.ptr 0 1 0), (.ptr 0 5 0)])]))], f1, f2, f3, f4, f5, f6, f7, f8]⟩, []⟩
noncomputable def z6z (r0 : (SL Int)) (r1 r2 : Int) (r : zt18) (v1902 : zt4) : TM := [(0, (.d (dl eI r0.1 r0.2))), (1, (xi r1)), (2, (xi r2)), (3, (.ptr 0 1 0)), (4, (.ptr 0 5 0)), (8, (.d (dl eI r.1.1 r.1.2))), (9, (xb true)), (17, (xb false)), (10, (xi v1902.1)), (24, (xb v1902.2)), (11, (xi r.2.1)), (37, (xb true)), (12, (.d (dl eI r.1.1 r.1.2))), (13, (xb r.2.2)), (59, (xb true))]
noncomputable def zJg (p0 : zd) (r0 : (SL Int)) (r1 r2 : Int) (v1902 : zt4) (rc : zt2) (f1 f2 f3 f4 f5 f6 f7 f8 : Fr) (r : zt18) : St := ⟨(z6z r0 r1 r2 r v1902), ⟨[], [[(zc 1 (za p0)), (5, (.cells [(.fn 54 [] [(.ptr 0 1 0), (.ptr 0 5 0)])]))], f1, f2, f3, f4, f5, f6, f7, f8]⟩, []⟩
noncomputable def zXB (r0 : (SL Int)) (r1 r2 : Int) (v1902 : zt4) (r : Int) : TM := [(0, (.d (dl eI r0.1 r0.2))), (1, (xi r1)), (2, (xi r2)), (3, (.ptr 0 1 0)), (4, (.ptr 0 5 0)), (8, (.d (.sl [] .nil))), (9, (xb false)), (17, (xb false)), (10, (xi v1902.1)), (24, (xb v1902.2)), (11, (xi r)), (37, (xb false))]
noncomputable def zMg (p0 : zd) (r0 : (SL Int)) (r1 r2 : Int) (v1902 : zt4) (rc : zt2) (f1 f2 f3 f4 f5 f6 f7 f8 : Fr) (r : Int) : St := ⟨(zXB r0 r1 r2 v1902 r), ⟨[], [[(zc 1 (za p0)), (5, (.cells [(.fn 54 [] [(.ptr 0 1 0), (.ptr 0 5 0)])]))], f1, f2, f3, f4, f5, f6, f7, f8]⟩, []⟩
noncomputable def zAp (p0 : zd) (r0 : (SL Int)) (r1 r2 : Int) (v1902 : zt4) (rc : zt2) (f1 f2 f3 f4 f5 f6 f7 f8 : Fr) : (((SL Int) × Int × Bool) ⊕ Int) → Ex × St := Sum.elim (fun r => (.ret, zJg p0 r0 r1 r2 v1902 rc f1 f2 f3 f4 f5 f6 f7 f8 r)) (fun r => ((.exit 0), zMg p0 r0 r1 r2 v1902 rc f1 f2 f3 f4 f5 f6 f7 f8 r))
theorem zIj (k : Nat) (p0 : zd) (r0 : (SL Int)) (r1 r2 : Int) (v1902 : zt4) (rc : zt2) (f1 f2 f3 f4 f5 f6 f7 f8 : Fr) (hrc : ∀ (f : Fr) (r0 : (SL Int)) (r1 : Int) (r2 : Int) (r : ((SL Int) × Bool)), rc r0 r1 r2 = some r → zbb TE (ev TE) 54 [(.d (dl eI r0.1 r0.2)), (xi r1), (xi r2), (.ptr 0 1 0), (.ptr 0 5 0)] ⟨f, [[(1, (.cells ((za p0).map .d))), (5, (.cells [(.fn 54 [] [(.ptr 0 1 0), (.ptr 0 5 0)])]))], f1, f2, f3, f4, f5, f6, f7, f8]⟩ [] = some (zy r, ⟨f, [[(1, (.cells ((za p0).map .d))), (5, (.cells [(.fn 54 [] [(.ptr 0 1 0), (.ptr 0 5 0)])]))], f1, f2, f3, f4, f5, f6, f7, f8]⟩, [])) (s20_8 : Int) (x : Int ⊕ (((SL Int) × Int × Bool) ⊕ Int)) (h : zRi k p0 r0 r1 r2 v1902 rc s20_8 = some x) : zT TE 54 (blk TE 54 0) (fun s : Int => zpp p0 r0 r1 r2 v1902 rc f1 f2 f3 f4 f5 f6 f7 f8 s) (zAp p0 r0 r1 r2 v1902 rc f1 f2 f3 f4 f5 f6 f7 f8) s20_8 x := by
 unfold zRi at h
 refine zr h (fun h2101 g1 => ?_) (fun h2101 g1 => ?_)
 ·refine zr g1 (fun h2102 g2 => ?_) (fun h2102 g2 => ?_)
  ·cases g2
  ·refine z6 g2 (fun h2103 g3 => ?_)
   refine zr g3 (fun h2104 g4 => ?_) (fun h2104 g4 => ?_)
   ·cases g4
   ·refine zo g4 (fun v2105 h2106 g5 => ?_)
    refine zr g5 (fun h2107 g6 => ?_) (fun h2107 g6 => ?_)
    ·exact zqo [(54, 7, 3, .q (xi (p0.Counts.1.length : Int))), (54, 7, 4, .q (xb true)), (54, 9, 3, .q (xi (r0.1.length : Int))), (54, 9, 5, .q (xi (r0.1.length : Int))), (54, 9, 6, .q (.d (dl eI r0.1 (ccap r0.2)))), (54, 9, 9, .q (.d (dl eI (r0.1 ++ [s20_8]) .ro))), (54, 9, 12, .q (xi (zK 1 s20_8))), (54, 9, 15, .i (.tup [(dl eI v2105.1.1 v2105.1.2), (db v2105.2)]) ⟨[], [[(1, (.cells ((za p0).map .d))), (5, (.cells [(.fn 54 [] [(.ptr 0 1 0), (.ptr 0 5 0)])]))], f1, f2, f3, f4, f5, f6, f7, f8]⟩ []), (54, 10, 0, .q (xb true))] [] g6 (ob (zC zu p0.Counts.1) (ob (o_b h2101) (ob (zC eI r0.1) (ob (zC eI r0.1) (ob (z1d (e := eI) (z := 1) r0.1 r0.2) (ob (o_ad (P := TE.P) (φ := fun _ _ => none) (T := 22) (q := (1, [(di 0)])) (c := (ccap r0.2)) (e := eI) r0.1 s20_8 (by kernel_rfl) (by kernel_rfl) (fun _ => rfl) h2102 h2103) (ob (zfc (x := 1) h2104) (ob (hrc ([] : Fr) ((r0.1 ++ [s20_8]), .ro) (or64 r1 (zK 1 s20_8)) r2 _ h2106) (ob (o_b h2107) ob0))))))))) (by kernel_rfl)
    ·exact zqn (w64 (s20_8 + 1)) [] [(54, 7, 3, .q (xi (p0.Counts.1.length : Int))), (54, 7, 4, .q (xb true)), (54, 9, 3, .q (xi (r0.1.length : Int))), (54, 9, 5, .q (xi (r0.1.length : Int))), (54, 9, 6, .q (.d (dl eI r0.1 (ccap r0.2)))), (54, 9, 9, .q (.d (dl eI (r0.1 ++ [s20_8]) .ro))), (54, 9, 12, .q (xi (zK 1 s20_8))), (54, 9, 15, .i (.tup [(dl eI v2105.1.1 v2105.1.2), (db v2105.2)]) ⟨[], [[(1, (.cells ((za p0).map .d))), (5, (.cells [(.fn 54 [] [(.ptr 0 1 0), (.ptr 0 5 0)])]))], f1, f2, f3, f4, f5, f6, f7, f8]⟩ []), (54, 10, 0, .q (xb false))] [] g6 (ob (zC zu p0.Counts.1) (ob (o_b h2101) (ob (zC eI r0.1) (ob (zC eI r0.1) (ob (z1d (e := eI) (z := 1) r0.1 r0.2) (ob (o_ad (P := TE.P) (φ := fun _ _ => none) (T := 22) (q := (1, [(di 0)])) (c := (ccap r0.2)) (e := eI) r0.1 s20_8 (by kernel_rfl) (by kernel_rfl) (fun _ => rfl) h2102 h2103) (ob (zfc (x := 1) h2104) (ob (hrc ([] : Fr) ((r0.1 ++ [s20_8]), .ro) (or64 r1 (zK 1 s20_8)) r2 _ h2106) (ob (o_b h2107) ob0))))))))) (by kernel_rfl)
 ·exact zqo [(54, 7, 3, .q (xi (p0.Counts.1.length : Int))), (54, 7, 4, .q (xb false))] [] g1 (ob (zC zu p0.Counts.1) (ob (o_b h2101) ob0)) (by kernel_rfl)
theorem zHo (k : Nat) (p0 : zd) (rc : zt2) (f1 f2 f3 f4 f5 f6 f7 f8 : Fr) (hrc : ∀ (f : Fr) (r0 : (SL Int)) (r1 : Int) (r2 : Int) (r : ((SL Int) × Bool)), rc r0 r1 r2 = some r → zbb TE (ev TE) 54 [(.d (dl eI r0.1 r0.2)), (xi r1), (xi r2), (.ptr 0 1 0), (.ptr 0 5 0)] ⟨f, [[(1, (.cells ((za p0).map .d))), (5, (.cells [(.fn 54 [] [(.ptr 0 1 0), (.ptr 0 5 0)])]))], f1, f2, f3, f4, f5, f6, f7, f8]⟩ [] = some (zy r, ⟨f, [[(1, (.cells ((za p0).map .d))), (5, (.cells [(.fn 54 [] [(.ptr 0 1 0), (.ptr 0 5 0)])]))], f1, f2, f3, f4, f5, f6, f7, f8]⟩, [])) (r0 : (SL Int)) (r1 r2 : Int) (r : ((SL Int) × Bool)) (h : zkf k p0 rc r0 r1 r2 = some r) : zbb TE (ev TE) 54 [(.d (dl eI r0.1 r0.2)), (xi r1), (xi r2), (.ptr 0 1 0), (.ptr 0 5 0)] ⟨f8, [[(zc 1 (za p0)), (5, (.cells [(.fn 54 [] [(.ptr 0 1 0), (.ptr 0 5 0)])]))], f1, f2, f3, f4, f5, f6, f7]⟩ [] = some (zy r, ⟨f8, [[(zc 1 (za p0)), (5, (.cells [(.fn 54 [] [(.ptr 0 1 0), (.ptr 0 5 0)])]))], f1, f2, f3, f4, f5, f6, f7]⟩, []) := by
 unfold zkf at h
 refine zr h (fun h1901 g1 => ?_) (fun h1901 g1 => ?_)
 ·refine zo g1 (fun v1902 h1903 g2 => ?_)
  exact zyb (g := (fun r => (zy r, ⟨f8, [[(1, (.cells ((za p0).map .d))), (5, (.cells [(.fn 54 [] [(.ptr 0 1 0), (.ptr 0 5 0)])]))], f1, f2, f3, f4, f5, f6, f7]⟩, []))) g2 (zjb (n := 80) (V := [(54, 1, 1, .q (xi (r0.1.length : Int))), (54, 1, 3, .q (xb true)), (54, 2, 3, .c (db v1902))]) (C := []) (ob (zC eI r0.1) (ob (o_b h1901) (ob (zEb k p0 r1 _ h1903) ob0))) (by kernel_rfl))
 ·refine zo g1 (fun v1902 h1903 g2 => ?_)
  refine zo g2 (fun v1904 h1905 g3 => ?_)
  refine zRb g3 (fun v1907 hh g4_0 => ?_) (fun v1907 hh g4_0 => ?_)
  ·subst hh
   exact zyb (g := (fun r => (zy r, ⟨f8, [[(1, (.cells ((za p0).map .d))), (5, (.cells [(.fn 54 [] [(.ptr 0 1 0), (.ptr 0 5 0)])]))], f1, f2, f3, f4, f5, f6, f7]⟩, []))) g4_0 (zjb (n := 80) (V := [(54, 1, 1, .q (xi (r0.1.length : Int))), (54, 1, 3, .q (xb false)), (54, 4, 1, .q (xi (r0.1.length : Int)))]) (C := [(54, 2000024, (.nor, zPd p0 r0 r1 r2 (decide ((r0.1.length : Int) > 0)) rc f1 f2 f3 f4 f5 f6 f7 f8 v1902)), (54, 0, (.ret, zJg p0 r0 r1 r2 v1902 rc f1 f2 f3 f4 f5 f6 f7 f8 v1907))]) (ob (zC eI r0.1) (ob (o_b h1901) (ob (zC eI r0.1) (ob (zHj k p0 r0 r1 r2 (decide ((r0.1.length : Int) > 0)) rc f1 f2 f3 f4 f5 f6 f7 f8 hrc _ h1903) (ob (zG (id := 0) (r' := (.ret, zJg p0 r0 r1 r2 v1902 rc f1 f2 f3 f4 f5 f6 f7 f8 v1907)) (zGc (zIj k p0 r0 r1 r2 v1902 rc f1 f2 f3 f4 f5 f6 f7 f8 hrc) k _ _ h1905) rfl) ob0))))) (by kernel_rfl))
  ·subst hh
   exact zyb (g := (fun r => (zy r, ⟨f8, [[(1, (.cells ((za p0).map .d))), (5, (.cells [(.fn 54 [] [(.ptr 0 1 0), (.ptr 0 5 0)])]))], f1, f2, f3, f4, f5, f6, f7]⟩, []))) g4_0 (zjb (n := 80) (V := [(54, 1, 1, .q (xi (r0.1.length : Int))), (54, 1, 3, .q (xb false)), (54, 4, 1, .q (xi (r0.1.length : Int)))]) (C := [(54, 2000024, (.nor, zPd p0 r0 r1 r2 (decide ((r0.1.length : Int) > 0)) rc f1 f2 f3 f4 f5 f6 f7 f8 v1902)), (54, 0, (.nor, zMg p0 r0 r1 r2 v1902 rc f1 f2 f3 f4 f5 f6 f7 f8 v1907))]) (ob (zC eI r0.1) (ob (o_b h1901) (ob (zC eI r0.1) (ob (zHj k p0 r0 r1 r2 (decide ((r0.1.length : Int) > 0)) rc f1 f2 f3 f4 f5 f6 f7 f8 hrc _ h1903) (ob (zG (id := 0) (r' := (.nor, zMg p0 r0 r1 r2 v1902 rc f1 f2 f3 f4 f5 f6 f7 f8 v1907)) (zGc (zIj k p0 r0 r1 r2 v1902 rc f1 f2 f3 f4 f5 f6 f7 f8 hrc) k _ _ h1905) rfl) ob0))))) (by kernel_rfl))
theorem zzk (k : Nat) (p0 : zd) (r0 : (SL Int)) (r1 r2 : Int) (r : ((SL Int) × Bool)) (h : zvf k p0 9 r0 r1 r2 = some r) : zbb TE (ev TE) 54 [(.d (dl eI r0.1 r0.2)), (xi r1), (xi r2), (.ptr 0 1 0), (.ptr 0 5 0)] ⟨[(zc 1 (za p0)), (5, (.cells [(.fn 54 [] [(.ptr 0 1 0), (.ptr 0 5 0)])]))], []⟩ [] = some (zy r, ⟨[(zc 1 (za p0)), (5, (.cells [(.fn 54 [] [(.ptr 0 1 0), (.ptr 0 5 0)])]))], []⟩, []) := by
 unfold zvf at h
 exact zno k p0 _ (fun f1 r0 r1 r2 r h => zTo k p0 _ f1 (fun f2 r0 r1 r2 r h => zpo k p0 _ f1 f2 (fun f3 r0 r1 r2 r h => zyo k p0 _ f1 f2 f3 (fun f4 r0 r1 r2 r h => zmo k p0 _ f1 f2 f3 f4 (fun f5 r0 r1 r2 r h => zlo k p0 _ f1 f2 f3 f4 f5 (fun f6 r0 r1 r2 r h => zxo k p0 _ f1 f2 f3 f4 f5 f6 (fun f7 r0 r1 r2 r h => zho k p0 _ f1 f2 f3 f4 f5 f6 f7 (fun f8 r0 r1 r2 r h => zHo k p0 _ f1 f2 f3 f4 f5 f6 f7 f8 (fun f r0 r1 r2 r h => by cases h) r0 r1 r2 r h) r0 r1 r2 r h) r0 r1 r2 r h) r0 r1 r2 r h) r0 r1 r2 r h) r0 r1 r2 r h) r0 r1 r2 r h) r0 r1 r2 r h) r0 r1 r2 r h
noncomputable def zSA (p0 : zd) (v1 s1_10 : Int) : TM := [(0, (.d (.agg (za p0)))), (zsp 1), (2, (.d (.sl [] .nil))), (3, (xi 0)), (4, (xi v1)), (12, (xb false)), (zsp 5), (18, (xi (w64 ((p0.Counts.1.length : Int) + 1)))), (19, (xi s1_10))]
noncomputable def zWp (p0 : zd) (v1 s1_10 : Int) : St := ⟨(zSA p0 v1 s1_10), ⟨[(zc 1 (za p0)), (5, (.cells [(.fn 54 [] [(.ptr 0 1 0), (.ptr 0 5 0)])]))], []⟩, []⟩
noncomputable def zQB (p0 : zd) (r : ((SL Int) × Int × (SL Int) × Bool)) (v1 : Int) : TM := [(0, (.d (.agg (za p0)))), (zsp 1), (2, (.d (dl eI r.1.1 r.1.2))), (3, (xi 0)), (4, (xi v1)), (12, (xb false)), (zsp 5), (18, (xi (w64 ((p0.Counts.1.length : Int) + 1)))), (19, (xi r.2.1)), (20, (xb true)), (6, (xi r.2.1)), (7, (.d (dl eI r.2.2.1.1 r.2.2.1.2))), (8, (xb r.2.2.2)), (28, (xb true))]
noncomputable def zxh (p0 : zd) (v1 : Int) (r : ((SL Int) × Int × (SL Int) × Bool)) : St := ⟨(zQB p0 r v1), ⟨[(zc 1 (za p0)), (5, (.cells [(.fn 54 [] [(.ptr 0 1 0), (.ptr 0 5 0)])]))], []⟩, []⟩
noncomputable def zmB (p0 : zd) (v1 r : Int) : TM := [(0, (.d (.agg (za p0)))), (zsp 1), (2, (.d (.sl [] .nil))), (3, (xi 0)), (4, (xi v1)), (12, (xb false)), (zsp 5), (18, (xi (w64 ((p0.Counts.1.length : Int) + 1)))), (19, (xi r)), (20, (xb false))]
noncomputable def zsh (p0 : zd) (v1 r : Int) : St := ⟨(zmB p0 v1 r), ⟨[(zc 1 (za p0)), (5, (.cells [(.fn 54 [] [(.ptr 0 1 0), (.ptr 0 5 0)])]))], []⟩, []⟩
noncomputable def zAq (p0 : zd) (v1 : Int) : (((SL Int) × Int × (SL Int) × Bool) ⊕ Int) → Ex × St := Sum.elim (fun r => (.ret, zxh p0 v1 r)) (fun r => ((.exit 0), zsh p0 v1 r))
theorem zsk (k : Nat) (p0 : zd) (v1 s1_10 : Int) (x : Int ⊕ (((SL Int) × Int × (SL Int) × Bool) ⊕ Int)) (h : zOf k p0 v1 s1_10 = some x) : zT TE 15 (blk TE 15 0) (fun s : Int => zWp p0 v1 s) (zAq p0 v1) s1_10 x := by
 unfold zOf at h
 refine zr h (fun h2101 g1 => ?_) (fun h2101 g1 => ?_)
 ·refine zo g1 (fun v2102 h2103 g2 => ?_)
  refine zr g2 (fun h2104 g3 => ?_) (fun h2104 g3 => ?_)
  ·exact zqo [(15, 7, 0, .q (xb true)), (15, 9, 2, .i (.tup [(dl eI v2102.1.1 v2102.1.2), (db v2102.2)]) ⟨[(1, (.cells ((za p0).map .d))), (5, (.cells [(.fn 54 [] [(.ptr 0 1 0), (.ptr 0 5 0)])]))], []⟩ []), (15, 10, 0, .q (xb true)), (15, 11, 2, .q (xi (v2102.1.1.length : Int))), (15, 11, 4, .q (xi (v2102.1.1.length : Int))), (15, 11, 5, .q (.d (dl eI v2102.1.1 (ccap v2102.1.2))))] [] g3 (ob (o_b h2101) (ob (zzk k p0 ([], Cap.nil) 0 s1_10 _ h2103) (ob (o_b h2104) (ob (zC eI v2102.1.1) (ob (zC eI v2102.1.1) (ob (z1d (e := eI) (z := 1) v2102.1.1 v2102.1.2) ob0)))))) (by kernel_rfl)
  ·exact zqn (w64 (s1_10 + 1)) [] [(15, 7, 0, .q (xb true)), (15, 9, 2, .i (.tup [(dl eI v2102.1.1 v2102.1.2), (db v2102.2)]) ⟨[(1, (.cells ((za p0).map .d))), (5, (.cells [(.fn 54 [] [(.ptr 0 1 0), (.ptr 0 5 0)])]))], []⟩ []), (15, 10, 0, .q (xb false))] [] g3 (ob (o_b h2101) (ob (zzk k p0 ([], Cap.nil) 0 s1_10 _ h2103) (ob (o_b h2104) ob0))) (by kernel_rfl)
 ·exact zqo [(15, 7, 0, .q (xb false))] [] g1 (ob (o_b h2101) ob0) (by kernel_rfl)
theorem zjs (k : Nat) (p0 : zd) (r : ((SL Int) × Int)) (h : zug k p0 = some r) : zI TE (ev TE) 15 [(.agg (za p0))] = some (zPh r) := by
 unfold zug at h
 refine zo h (fun v1 h2 g1 => ?_)
 refine zr g1 (fun h3 g2 => ?_) (fun h3 g2 => ?_)
 ·exact zP (g := zPh) g2 (zqc [(15, 1, 1, .c (di v1)), (15, 2, 1, .q (xb true))] [] (ob (zmd k p0 _ h2) (ob (o_b h3) ob0)) (by kernel_rfl))
 ·refine zo g2 (fun v4 h5 g3 => ?_)
  refine zRb g3 (fun v7 hh g4_0 => ?_) (fun v7 hh g4_0 => ?_)
  ·subst hh
   exact zP (g := zPh) g4_0 (zqc [(15, 1, 1, .c (di v1)), (15, 2, 1, .q (xb false)), (15, 6, 2, .q (xi (p0.Counts.1.length : Int)))] [(15, 0, (.ret, zxh p0 v1 v7))] (ob (zmd k p0 _ h2) (ob (o_b h3) (ob (zC zu p0.Counts.1) (ob (zG (id := 0) (r' := (.ret, zxh p0 v1 v7)) (zGc (zsk k p0 v1) k _ _ h5) rfl) ob0)))) (by kernel_rfl))
  ·subst hh
   exact zP (g := zPh) g4_0 (zqc [(15, 1, 1, .c (di v1)), (15, 2, 1, .q (xb false)), (15, 6, 2, .q (xi (p0.Counts.1.length : Int)))] [(15, 0, (.nor, zsh p0 v1 v7))] (ob (zmd k p0 _ h2) (ob (o_b h3) (ob (zC zu p0.Counts.1) (ob (zG (id := 0) (r' := (.nor, zsh p0 v1 v7)) (zGc (zsk k p0 v1) k _ _ h5) rfl) ob0)))) (by kernel_rfl))
noncomputable def z7z (p0 : zh) (p1 : zt5) (p2 : Int) (r : Bool) : TM := [(0, (.d (.agg (zl p0)))), (1, (.d (.agg (aI 4 p1)))), (2, (xi p2)), (zsp 3), (zsp 4), (6, (xb false)), (47, (xb r))]
noncomputable def zU (p0 : zh) (p1 : zt5) (p2 : Int) (r : Bool) : St := ⟨(z7z p0 p1 p2 r), ⟨[(zc 3 (zl p0)), (zc 4 (aI 4 p1))], []⟩, []⟩
noncomputable def zLc (p0 : zh) (p1 : zt5) (p2 : Int) : TM := [(0, (.d (.agg (zl p0)))), (1, (.d (.agg (aI 4 p1)))), (2, (xi p2)), (zsp 3), (zsp 4), (6, (xb false))]
theorem z8j (k : Nat) (p0 : zh) (p1 : zt5) (p2 : Int) (r : Bool) (h : zJc k p0 p1 p2 = some r) : ev TE 3 (rgn TE 3 1) ⟨(zLc p0 p1 p2), ⟨[(zc 3 (zl p0)), (zc 4 (aI 4 p1))], []⟩, []⟩ = some (.nor, zU p0 p1 p2 r) := by
 unfold zJc at h
 refine zo h (fun v201 h202 g1 => ?_)
 refine zr g1 (fun h203 g2 => ?_) (fun h203 g2 => ?_)
 ·exact zE (g := fun r => (Ex.nor, zU p0 p1 p2 r)) g2 (zqe [(3, 1, 1, .c (di v201)), (3, 1, 3, .q (xb true))] [] (ob (zXc k p0 _ h202) (ob (o_b h203) ob0)) (by kernel_rfl))
 ·refine zo g2 (fun v204 h205 g3 => ?_)
  refine zr g3 (fun h206 g4 => ?_) (fun h206 g4 => ?_)
  ·exact zE (g := fun r => (Ex.nor, zU p0 p1 p2 r)) g4 (zqe [(3, 1, 1, .c (di v201)), (3, 1, 3, .q (xb false)), (3, 1, 6, .q (xi (p0.Slips.1.length : Int))), (3, 1, 7, .c (db v204)), (3, 1, 10, .q (xb true))] [] (ob (zXc k p0 _ h202) (ob (o_b h203) (ob (zC zL p0.Slips.1) (ob (zoc k (p0.Slips.1.length : Int) 1 9 _ h205) (ob (o_b h206) ob0))))) (by kernel_rfl))
  ·exact zE (g := fun r => (Ex.nor, zU p0 p1 p2 r)) g4 (zqe [(3, 1, 1, .c (di v201)), (3, 1, 3, .q (xb false)), (3, 1, 6, .q (xi (p0.Slips.1.length : Int))), (3, 1, 7, .c (db v204)), (3, 1, 10, .q (xb false)), (3, 1, 13, .q (xi (p0.Far.1.length : Int)))] [] (ob (zXc k p0 _ h202) (ob (o_b h203) (ob (zC zL p0.Slips.1) (ob (zoc k (p0.Slips.1.length : Int) 1 9 _ h205) (ob (o_b h206) (ob (zC eI p0.Far.1) ob0)))))) (by kernel_rfl))
noncomputable def zZB (p0 : zh) (p1 : zt5) (p2 : Int) (s2_24 : (List Int)) (s2_11 : Int) (v3202 : zt9) (v3204 : zt3) (r : Bool) : TM := zLc p0 p1 p2 ++ [(47, (xb false)), (7, (xi (if (4 : Int) < (p0.Far.1.length : Int) then 4 else (p0.Far.1.length : Int)))), (zsp 8), (9, (.row 0 58 s2_24.length)), (10, (xi s2_11)), (63, (xb true)), (11, (.d (dl (eL zk) v3202.1.1 v3202.1.2))), (12, (xi v3202.2)), (13, (xb v3204.1)), (14, (xi v3204.2)), (88, (xb r))]
noncomputable def zob (p0 : zh) (p1 : zt5) (p2 s2_11 : Int) (s2_19 : zt12) (s2_24 : (List Int)) (v3202 : zt9) (v3204 : zt3) (r : Bool) : St := ⟨(zZB p0 p1 p2 s2_24 s2_11 v3202 v3204 r), ⟨[(zc 3 (zl p0)), (zc 4 (aI 4 p1)), (2129, .nrow), (2130, (rowO true 5 zp s2_19 true)), (8, (.cells [(xi (p0.Slips.1.length : Int)), (.row 0 2129 0), (.row 0 2130 s2_19.length), (.d (.sl [] .nil)), (.d (.sl [] .nil))])), (58, (rowO false 1 eI s2_24 true))], []⟩, []⟩
noncomputable def zpA (p0 : zh) (p1 : zt5) (p2 : Int) (s2_24 : (List Int)) (s2_11 : Int) (v3202 : zt9) (v3204 : zt3) : TM := zLc p0 p1 p2 ++ [(47, (xb false)), (7, (xi (if (4 : Int) < (p0.Far.1.length : Int) then 4 else (p0.Far.1.length : Int)))), (zsp 8), (9, (.row 0 58 s2_24.length)), (10, (xi s2_11)), (63, (xb true)), (11, (.d (dl (eL zk) v3202.1.1 v3202.1.2))), (12, (xi v3202.2)), (13, (xb v3204.1)), (14, (xi v3204.2))]
theorem zcd (k : Nat) (p0 : zh) (p1 : zt5) (p2 s2_11 : Int) (s2_19 : zt12) (s2_24 : (List Int)) (v3202 : zt9) (v3204 : zt3) (r : Bool) (h : z0b k p0 p1 p2 s2_11 s2_19 s2_24 v3202 v3204 = some r) : ev TE 3 (rgn TE 3 11) ⟨(zpA p0 p1 p2 s2_24 s2_11 v3202 v3204), ⟨[(zc 3 (zl p0)), (zc 4 (aI 4 p1)), (2129, .nrow), (2130, (rowO true 5 zp s2_19 true)), (8, (.cells [(xi (p0.Slips.1.length : Int)), (.row 0 2129 0), (.row 0 2130 s2_19.length), (.d (.sl [] .nil)), (.d (.sl [] .nil))])), (58, (rowO false 1 eI s2_24 true))], []⟩, []⟩ = some (.nor, zob p0 p1 p2 s2_11 s2_19 s2_24 v3202 v3204 r) := by
 unfold z0b at h
 refine zr h (fun h3301 g1 => ?_) (fun h3301 g1 => ?_)
 ·exact zE (g := fun r => (Ex.nor, zob p0 p1 p2 s2_11 s2_19 s2_24 v3202 v3204 r)) g1 (zqe [(3, 11, 2, .q (xb true))] [] (ob (o_b h3301) ob0) (by kernel_rfl))
 ·refine zr g1 (fun h3302 g2 => ?_) (fun h3302 g2 => ?_)
  ·exact zE (g := fun r => (Ex.nor, zob p0 p1 p2 s2_11 s2_19 s2_24 v3202 v3204 r)) g2 (zqe [(3, 11, 2, .q (xb false)), (3, 11, 6, .q (xb true))] [] (ob (o_b h3301) (ob (o_b h3302) ob0)) (by kernel_rfl))
  ·exact zE (g := fun r => (Ex.nor, zob p0 p1 p2 s2_11 s2_19 s2_24 v3202 v3204 r)) g2 (zqe [(3, 11, 2, .q (xb false)), (3, 11, 6, .q (xb false))] [] (ob (o_b h3301) (ob (o_b h3302) ob0)) (by kernel_rfl))
noncomputable def z7B (p0 : zh) (p1 : zt5) (p2 : Int) (s39_33 : (List Int)) (s2_11 : Int) (v3202 : zt9) (v3204 : zt3) (s33_18 s39_20 : Int) (r : Bool) : TM := zLc p0 p1 p2 ++ [(47, (xb false)), (7, (xi (if (4 : Int) < (p0.Far.1.length : Int) then 4 else (p0.Far.1.length : Int)))), (zsp 8), (9, (.row 0 58 s39_33.length)), (10, (xi s2_11)), (63, (xb true)), (11, (.d (dl (eL zk) v3202.1.1 v3202.1.2))), (12, (xi v3202.2)), (13, (xb v3204.1)), (14, (xi v3204.2)), (88, (xb false)), (15, (xi s33_18)), (92, (xb true)), (16, (xi s39_20)), (101, (xb true)), (zsp 17), (124, (xb r))]
noncomputable def zPb (p0 : zh) (p1 : zt5) (p2 s2_11 : Int) (v3202 : zt9) (v3204 : zt3) (s33_18 s39_20 : Int) (s39_28 : zt12) (s39_33 : (List Int)) (v4206 : zj) (r : Bool) : St := ⟨(z7B p0 p1 p2 s39_33 s2_11 v3202 v3204 s33_18 s39_20 r), ⟨[(zc 3 (zl p0)), (zc 4 (aI 4 p1)), (2129, .nrow), (2130, (rowO true 5 zp s39_28 true)), (8, (.cells [(xi (p0.Slips.1.length : Int)), (.row 0 2129 0), (.row 0 2130 s39_28.length), (.d (.sl [] .nil)), (.d (.sl [] .nil))])), (58, (rowO false 1 eI s39_33 true)), (17, (.cells [(xi v4206.Shelf), (xi v4206.Many)]))], []⟩, []⟩
noncomputable def zCy (p0 : zh) (p1 : zt5) (p2 : Int) (s39_33 : (List Int)) (s2_11 : Int) (v3202 : zt9) (v3204 : zt3) (s33_18 s39_20 : Int) : TM := zLc p0 p1 p2 ++ [(47, (xb false)), (7, (xi (if (4 : Int) < (p0.Far.1.length : Int) then 4 else (p0.Far.1.length : Int)))), (zsp 8), (9, (.row 0 58 s39_33.length)), (10, (xi s2_11)), (63, (xb true)), (11, (.d (dl (eL zk) v3202.1.1 v3202.1.2))), (12, (xi v3202.2)), (13, (xb v3204.1)), (14, (xi v3204.2)), (88, (xb false)), (15, (xi s33_18)), (92, (xb true)), (16, (xi s39_20)), (101, (xb true)), (zsp 17)]
theorem zwf (k : Nat) (p0 : zh) (p1 : zt5) (p2 s2_11 : Int) (v3202 : zt9) (v3204 : zt3) (s33_18 s39_20 : Int) (s39_28 : zt12) (s39_33 : (List Int)) (v4206 : zj) (r : Bool) (h : zEc k p0 p1 p2 s2_11 v3202 v3204 s33_18 s39_20 s39_28 s39_33 v4206 = some r) : ev TE 3 (rgn TE 3 20) ⟨(zCy p0 p1 p2 s39_33 s2_11 v3202 v3204 s33_18 s39_20), ⟨[(zc 3 (zl p0)), (zc 4 (aI 4 p1)), (2129, .nrow), (2130, (rowO true 5 zp s39_28 true)), (8, (.cells [(xi (p0.Slips.1.length : Int)), (.row 0 2129 0), (.row 0 2130 s39_28.length), (.d (.sl [] .nil)), (.d (.sl [] .nil))])), (58, (rowO false 1 eI s39_33 true)), (17, (.cells [(xi v4206.Shelf), (xi v4206.Many)]))], []⟩, []⟩ = some (.nor, zPb p0 p1 p2 s2_11 v3202 v3204 s33_18 s39_20 s39_28 s39_33 v4206 r) := by
 unfold zEc at h
 refine zo h (fun v4301 h4302 g1 => ?_)
 refine zr g1 (fun h4303 g2 => ?_) (fun h4303 g2 => ?_)
 ·exact zE (g := fun r => (Ex.nor, zPb p0 p1 p2 s2_11 v3202 v3204 s33_18 s39_20 s39_28 s39_33 v4206 r)) g2 (zqe [(3, 20, 4, .q (xi (p0.Far.1.length : Int))), (3, 20, 6, .c (db v4301)), (3, 20, 8, .q (xb true))] [] (ob (zC eI p0.Far.1) (ob (zoc k v4206.Shelf 0 (w64 ((p0.Far.1.length : Int) - 1)) _ h4302) (ob (o_b h4303) ob0))) (by kernel_rfl))
 ·refine zo g2 (fun v4304 h4305 g3 => ?_)
  exact zE (g := fun r => (Ex.nor, zPb p0 p1 p2 s2_11 v3202 v3204 s33_18 s39_20 s39_28 s39_33 v4206 r)) g3 (zqe [(3, 20, 4, .q (xi (p0.Far.1.length : Int))), (3, 20, 6, .c (db v4301)), (3, 20, 8, .q (xb false)), (3, 20, 11, .c (db v4304))] [] (ob (zC eI p0.Far.1) (ob (zoc k v4206.Shelf 0 (w64 ((p0.Far.1.length : Int) - 1)) _ h4302) (ob (o_b h4303) (ob (zoc k v4206.Many 1 20 _ h4305) ob0)))) (by kernel_rfl))
noncomputable def zMA (p0 : zh) (p1 : zt5) (p2 : Int) (r : (Bool × (List zw) × (List Int))) (s2_11 : Int) (v3202 : zt9) (v3204 : zt3) (s33_18 s39_20 : Int) : TM := zLc p0 p1 p2 ++ [(47, (xb false)), (7, (xi (if (4 : Int) < (p0.Far.1.length : Int) then 4 else (p0.Far.1.length : Int)))), (zsp 8), (9, (.row 0 58 r.2.2.length)), (10, (xi s2_11)), (63, (xb true)), (11, (.d (dl (eL zk) v3202.1.1 v3202.1.2))), (12, (xi v3202.2)), (13, (xb v3204.1)), (14, (xi v3204.2)), (88, (xb false)), (15, (xi s33_18)), (92, (xb true)), (16, (xi s39_20)), (101, (xb true)), (zsp 17), (124, (xb false)), (128, (xb r.1))]
noncomputable def zhc (p0 : zh) (p1 : zt5) (p2 s2_11 : Int) (v3202 : zt9) (v3204 : zt3) (s33_18 s39_20 : Int) (s39_28 : zt12) (s39_33 : (List Int)) (v4206 : zj) (cb : Bool) (r : (Bool × (List zw) × (List Int))) : St := ⟨(zMA p0 p1 p2 r s2_11 v3202 v3204 s33_18 s39_20), ⟨[(zc 3 (zl p0)), (zc 4 (aI 4 p1)), (2129, .nrow), (2130, (rowO true 5 zp r.2.1 true)), (8, (.cells [(xi (p0.Slips.1.length : Int)), (.row 0 2129 0), (.row 0 2130 r.2.1.length), (.d (.sl [] .nil)), (.d (.sl [] .nil))])), (58, (rowO false 1 eI r.2.2 true)), (17, (.cells [(xi v4206.Shelf), (xi v4206.Many)]))], []⟩, []⟩
theorem z4i (k : Nat) (p0 : zh) (p1 : zt5) (p2 s2_11 : Int) (v3202 : zt9) (v3204 : zt3) (s33_18 s39_20 : Int) (s39_28 : zt12) (s39_33 : (List Int)) (v4206 : zj) (cb : Bool) (r : (Bool × (List zw) × (List Int))) (h : zYb k p0 p1 p2 s2_11 v3202 v3204 s33_18 s39_20 s39_28 s39_33 v4206 cb = some r) : ev TE 3 (cnd TE 3 128) ⟨(zCy p0 p1 p2 s39_33 s2_11 v3202 v3204 s33_18 s39_20 ++ [(124, (xb false)), (128, (xb cb))]), ⟨[(zc 3 (zl p0)), (zc 4 (aI 4 p1)), (2129, .nrow), (2130, (rowO true 5 zp s39_28 true)), (8, (.cells [(xi (p0.Slips.1.length : Int)), (.row 0 2129 0), (.row 0 2130 s39_28.length), (.d (.sl [] .nil)), (.d (.sl [] .nil))])), (58, (rowO false 1 eI s39_33 true)), (17, (.cells [(xi v4206.Shelf), (xi v4206.Many)]))], []⟩, []⟩ = some (.nor, zhc p0 p1 p2 s2_11 v3202 v3204 s33_18 s39_20 s39_28 s39_33 v4206 cb r) := by
 unfold zYb at h
 refine zr h (fun h4401 g1 => ?_) (fun h4401 g1 => ?_)
 ·subst h4401
  refine zo g1 (fun v4402 h4403 g2 => ?_)
  refine z6 g2 (fun h4404 g3 => ?_)
  refine zo g3 (fun v4405 h4406 g4 => ?_)
  refine zo g4 (fun v4407 h4408 g5 => ?_)
  exact zE (g := fun r => (Ex.nor, zhc p0 p1 p2 s2_11 v3202 v3204 s33_18 s39_20 s39_28 s39_33 v4206 true r)) g5 (zqe [(3, 23, 9, .c (.agg [(di v4402.Low), (di v4402.High)])), (3, 23, 12, .ap (s39_28 ++ [(⟨s2_11, v4206.Shelf, false, v4402⟩ : zw)]).length (rowO true 5 zp (s39_28 ++ [(⟨s2_11, v4206.Shelf, false, v4402⟩ : zw)]) true)), (3, 24, 3, .q (.rp 0 58 s39_33.length v4206.Shelf.toNat 0)), (3, 24, 4, .q (xi v4405)), (3, 24, 8, .q (.rp 0 58 s39_33.length v4206.Shelf.toNat 0)), (3, 24, 9, .rs (rowO false 1 eI (s39_33.set v4206.Shelf.toNat (w64 (v4405 + v4206.Many))) true)), (3, 24, 999, .nm [(9, (s39_33.set v4206.Shelf.toNat (w64 (v4405 + v4206.Many))).length)] [])] [] (ob (z7c k v4206.Many v4206.Many _ h4403) (ob (o_ap (b := true) (z := 5) (e := zp) (l := s39_28) (w := true) (⟨s2_11, v4206.Shelf, false, v4402⟩ : zw) (fun _ => rfl) h4404) (ob (zqa 22 8 0 58 v4206.Shelf false 1 eI s39_33 true (by kernel_rfl) (by kernel_rfl) h4406) (ob (zql 3 (1, false) 0 58 0 v4206.Shelf (xi v4405) false 1 eI s39_33 true (by kernel_rfl) h4406 (by kernel_rfl)) (ob (zqa 22 8 0 58 v4206.Shelf false 1 eI s39_33 true (by kernel_rfl) (by kernel_rfl) h4408) (ob (o_rs (b := false) (z := 1) (e := eI) (l := s39_33) (o := 0) (n := 1) (ds := [(di (w64 (v4405 + v4206.Many)))]) (i := v4206.Shelf) (y' := (w64 (v4405 + v4206.Many))) h4408 (Nat.le_of_ble_eq_true rfl) rfl) (ob (show s39_33.length = (s39_33.set v4206.Shelf.toNat (w64 (v4405 + v4206.Many))).length by simp) ob0))))))) (by kernel_rfl))
 ·subst h4401
  exact zE (g := fun r => (Ex.nor, zhc p0 p1 p2 s2_11 v3202 v3204 s33_18 s39_20 s39_28 s39_33 v4206 false r)) g1 (zqe [] [] ob0 (by kernel_rfl))
noncomputable def z9B (p0 : zh) (p1 : zt5) (p2 : Int) (s39_33 : (List Int)) (s2_11 : Int) (v3202 : zt9) (v3204 : zt3) (s33_18 s39_20 : Int) : TM := zLc p0 p1 p2 ++ [(47, (xb false)), (7, (xi (if (4 : Int) < (p0.Far.1.length : Int) then 4 else (p0.Far.1.length : Int)))), (zsp 8), (9, (.row 0 58 s39_33.length)), (10, (xi s2_11)), (63, (xb true)), (11, (.d (dl (eL zk) v3202.1.1 v3202.1.2))), (12, (xi v3202.2)), (13, (xb v3204.1)), (14, (xi v3204.2)), (88, (xb false)), (15, (xi s33_18)), (92, (xb true)), (16, (xi s39_20))]
noncomputable def zgk (p0 : zh) (p1 : zt5) (p2 s2_11 : Int) (v3202 : zt9) (v3204 : zt3) (s33_18 s39_20 : Int) (s39_28 : zt12) (s39_33 : (List Int)) : St := ⟨(z9B p0 p1 p2 s39_33 s2_11 v3202 v3204 s33_18 s39_20), ⟨[(zc 3 (zl p0)), (zc 4 (aI 4 p1)), (2129, .nrow), (2130, (rowO true 5 zp s39_28 true)), (8, (.cells [(xi (p0.Slips.1.length : Int)), (.row 0 2129 0), (.row 0 2130 s39_28.length), (.d (.sl [] .nil)), (.d (.sl [] .nil))])), (58, (rowO false 1 eI s39_33 true))], []⟩, []⟩
noncomputable def z0B (p0 : zh) (p1 : zt5) (p2 : Int) (r : (Int × (List zw) × (List Int) × Int × Int)) (s2_11 : Int) (v3202 : zt9) (v3204 : zt3) (s33_18 : Int) : TM := zLc p0 p1 p2 ++ [(47, (xb false)), (7, (xi (if (4 : Int) < (p0.Far.1.length : Int) then 4 else (p0.Far.1.length : Int)))), (zsp 8), (9, (.row 0 58 r.2.2.1.length)), (10, (xi s2_11)), (63, (xb true)), (11, (.d (dl (eL zk) v3202.1.1 v3202.1.2))), (12, (xi v3202.2)), (13, (xb v3204.1)), (14, (xi v3204.2)), (88, (xb false)), (15, (xi s33_18)), (92, (xb true)), (16, (xi r.1)), (101, (xb true)), (zsp 17), (124, (xb true))]
noncomputable def zgd (p0 : zh) (p1 : zt5) (p2 s2_11 : Int) (v3202 : zt9) (v3204 : zt3) (s33_18 : Int) (r : (Int × (List zw) × (List Int) × Int × Int)) : St := ⟨(z0B p0 p1 p2 r s2_11 v3202 v3204 s33_18), ⟨[(zc 3 (zl p0)), (zc 4 (aI 4 p1)), (2129, .nrow), (2130, (rowO true 5 zp r.2.1 true)), (8, (.cells [(xi (p0.Slips.1.length : Int)), (.row 0 2129 0), (.row 0 2130 r.2.1.length), (.d (.sl [] .nil)), (.d (.sl [] .nil))])), (58, (rowO false 1 eI r.2.2.1 true)), (17, (.cells [(xi r.2.2.2.1), (xi r.2.2.2.2)]))], []⟩, []⟩
noncomputable def zrB (p0 : zh) (p1 : zt5) (p2 : Int) (r : zt11) (s2_11 : Int) (v3202 : zt9) (v3204 : zt3) (s33_18 : Int) : TM := zLc p0 p1 p2 ++ [(47, (xb false)), (7, (xi (if (4 : Int) < (p0.Far.1.length : Int) then 4 else (p0.Far.1.length : Int)))), (zsp 8), (9, (.row 0 58 r.2.2.length)), (10, (xi s2_11)), (63, (xb true)), (11, (.d (dl (eL zk) v3202.1.1 v3202.1.2))), (12, (xi v3202.2)), (13, (xb v3204.1)), (14, (xi v3204.2)), (88, (xb false)), (15, (xi s33_18)), (92, (xb true)), (16, (xi r.1)), (101, (xb false))]
noncomputable def zkd (p0 : zh) (p1 : zt5) (p2 s2_11 : Int) (v3202 : zt9) (v3204 : zt3) (s33_18 : Int) (r : zt11) : St := ⟨(zrB p0 p1 p2 r s2_11 v3202 v3204 s33_18), ⟨[(zc 3 (zl p0)), (zc 4 (aI 4 p1)), (2129, .nrow), (2130, (rowO true 5 zp r.2.1 true)), (8, (.cells [(xi (p0.Slips.1.length : Int)), (.row 0 2129 0), (.row 0 2130 r.2.1.length), (.d (.sl [] .nil)), (.d (.sl [] .nil))])), (58, (rowO false 1 eI r.2.2 true))], []⟩, []⟩
noncomputable def zdk (p0 : zh) (p1 : zt5) (p2 s2_11 : Int) (v3202 : zt9) (v3204 : zt3) (s33_18 : Int) : ((Int × (List zw) × (List Int) × Int × Int) ⊕ (Int × (List zw) × (List Int))) → Ex × St := Sum.elim (fun r => (.ret, zgd p0 p1 p2 s2_11 v3202 v3204 s33_18 r)) (fun r => ((.exit 4), zkd p0 p1 p2 s2_11 v3202 v3204 s33_18 r))
theorem zTf (k : Nat) (p0 : zh) (p1 : zt5) (p2 s2_11 : Int) (v3202 : zt9) (v3204 : zt3) (s33_18 s39_20 : Int) (s39_28 : zt12) (s39_33 : (List Int)) (x : (Int × (List zw) × (List Int)) ⊕ ((Int × (List zw) × (List Int) × Int × Int) ⊕ (Int × (List zw) × (List Int)))) (h : zIb k p0 p1 p2 s2_11 v3202 v3204 s33_18 s39_20 s39_28 s39_33 = some x) : zT TE 3 (blk TE 3 4) (fun s : (Int × (List zw) × (List Int)) => zgk p0 p1 p2 s2_11 v3202 v3204 s33_18 s.1 s.2.1 s.2.2) (zdk p0 p1 p2 s2_11 v3202 v3204 s33_18) (s39_20, s39_28, s39_33) x := by
 unfold zIb at h
 refine zo h (fun v4201 h4202 g1 => ?_)
 refine zr g1 (fun h4203 g2 => ?_) (fun h4203 g2 => ?_)
 ·refine zo g2 (fun v4204 h4205 g3 => ?_)
  refine zo g3 (fun v4206 h4207 g4 => ?_)
  refine zo g4 (fun v4208 h4209 g5 => ?_)
  refine zr g5 (fun h4210 g6 => ?_) (fun h4210 g6 => ?_)
  ·subst h4210
   exact zqo [(3, 17, 3, .q (.d (.pin [(dl zk v4201.1 v4201.2)]))), (3, 17, 5, .q (xi (v4201.1.length : Int))), (3, 17, 6, .q (xb true)), (3, 19, 2, .q (.d (.pin [(dl zk v4204.1 v4204.2)]))), (3, 19, 5, .q (.d (.pin [(di v4206.Shelf), (di v4206.Many)])))] [(3, 1000020, (.nor, zPb p0 p1 p2 s2_11 v3202 v3204 s33_18 s39_20 s39_28 s39_33 v4206 true))] g6 (ob (o_ia (e := (eL zk)) 1 h4202 rfl) (ob (zC zk v4201.1) (ob (o_b h4203) (ob (o_ia (e := (eL zk)) 1 h4205 rfl) (ob (o_ia (e := zk) 2 h4207 rfl) (ob (zwf k p0 p1 p2 s2_11 v3202 v3204 s33_18 s39_20 s39_28 s39_33 v4206 _ h4209) ob0)))))) (by kernel_rfl)
  ·subst h4210
   refine zo g6 (fun v4211 h4212 g7 => ?_)
   exact zqn ((w64 (s39_20 + 1)), v4211.2.1, v4211.2.2) [2130, 58] [(3, 17, 3, .q (.d (.pin [(dl zk v4201.1 v4201.2)]))), (3, 17, 5, .q (xi (v4201.1.length : Int))), (3, 17, 6, .q (xb true)), (3, 19, 2, .q (.d (.pin [(dl zk v4204.1 v4204.2)]))), (3, 19, 5, .q (.d (.pin [(di v4206.Shelf), (di v4206.Many)])))] [(3, 1000020, (.nor, zPb p0 p1 p2 s2_11 v3202 v3204 s33_18 s39_20 s39_28 s39_33 v4206 false)), (3, 2000128, (.nor, zhc p0 p1 p2 s2_11 v3202 v3204 s33_18 s39_20 s39_28 s39_33 v4206 (decide (v4206.Shelf < (if (4 : Int) < (p0.Far.1.length : Int) then 4 else (p0.Far.1.length : Int)))) v4211))] g7 (ob (o_ia (e := (eL zk)) 1 h4202 rfl) (ob (zC zk v4201.1) (ob (o_b h4203) (ob (o_ia (e := (eL zk)) 1 h4205 rfl) (ob (o_ia (e := zk) 2 h4207 rfl) (ob (zwf k p0 p1 p2 s2_11 v3202 v3204 s33_18 s39_20 s39_28 s39_33 v4206 _ h4209) (ob (z4i k p0 p1 p2 s2_11 v3202 v3204 s33_18 s39_20 s39_28 s39_33 v4206 (decide (v4206.Shelf < (if (4 : Int) < (p0.Far.1.length : Int) then 4 else (p0.Far.1.length : Int)))) _ h4212) (ob (zre true 5 zp v4211.2.1 true) (ob (zre false 1 eI v4211.2.2 true) ob0))))))))) (by kernel_rfl)
 ·exact zqo [(3, 17, 3, .q (.d (.pin [(dl zk v4201.1 v4201.2)]))), (3, 17, 5, .q (xi (v4201.1.length : Int))), (3, 17, 6, .q (xb false))] [] g2 (ob (o_ia (e := (eL zk)) 1 h4202 rfl) (ob (zC zk v4201.1) (ob (o_b h4203) ob0))) (by kernel_rfl)
noncomputable def zUA (p0 : zh) (p1 : zt5) (p2 : Int) (s33_31 : (List Int)) (s2_11 : Int) (v3202 : zt9) (v3204 : zt3) (s33_18 : Int) : TM := zLc p0 p1 p2 ++ [(47, (xb false)), (7, (xi (if (4 : Int) < (p0.Far.1.length : Int) then 4 else (p0.Far.1.length : Int)))), (zsp 8), (9, (.row 0 58 s33_31.length)), (10, (xi s2_11)), (63, (xb true)), (11, (.d (dl (eL zk) v3202.1.1 v3202.1.2))), (12, (xi v3202.2)), (13, (xb v3204.1)), (14, (xi v3204.2)), (88, (xb false)), (15, (xi s33_18))]
noncomputable def z9j (p0 : zh) (p1 : zt5) (p2 s2_11 : Int) (v3202 : zt9) (v3204 : zt3) (s33_18 : Int) (s33_26 : zt12) (s33_31 : (List Int)) : St := ⟨(zUA p0 p1 p2 s33_31 s2_11 v3202 v3204 s33_18), ⟨[(zc 3 (zl p0)), (zc 4 (aI 4 p1)), (2129, .nrow), (2130, (rowO true 5 zp s33_26 true)), (8, (.cells [(xi (p0.Slips.1.length : Int)), (.row 0 2129 0), (.row 0 2130 s33_26.length), (.d (.sl [] .nil)), (.d (.sl [] .nil))])), (58, (rowO false 1 eI s33_31 true))], []⟩, []⟩
noncomputable def zfA (p0 : zh) (p1 : zt5) (p2 : Int) (r : (Int × Int × (List zw) × (List Int) × Int × Int)) (s2_11 : Int) (v3202 : zt9) (v3204 : zt3) : TM := zLc p0 p1 p2 ++ [(47, (xb false)), (7, (xi (if (4 : Int) < (p0.Far.1.length : Int) then 4 else (p0.Far.1.length : Int)))), (zsp 8), (9, (.row 0 58 r.2.2.2.1.length)), (10, (xi s2_11)), (63, (xb true)), (11, (.d (dl (eL zk) v3202.1.1 v3202.1.2))), (12, (xi v3202.2)), (13, (xb v3204.1)), (14, (xi v3204.2)), (88, (xb false)), (15, (xi r.1)), (92, (xb true)), (16, (xi r.2.1)), (101, (xb true)), (zsp 17), (124, (xb true))]
noncomputable def zbd (p0 : zh) (p1 : zt5) (p2 s2_11 : Int) (v3202 : zt9) (v3204 : zt3) (r : (Int × Int × (List zw) × (List Int) × Int × Int)) : St := ⟨(zfA p0 p1 p2 r s2_11 v3202 v3204), ⟨[(zc 3 (zl p0)), (zc 4 (aI 4 p1)), (2129, .nrow), (2130, (rowO true 5 zp r.2.2.1 true)), (8, (.cells [(xi (p0.Slips.1.length : Int)), (.row 0 2129 0), (.row 0 2130 r.2.2.1.length), (.d (.sl [] .nil)), (.d (.sl [] .nil))])), (58, (rowO false 1 eI r.2.2.2.1 true)), (17, (.cells [(xi r.2.2.2.2.1), (xi r.2.2.2.2.2)]))], []⟩, []⟩
noncomputable def zuB (p0 : zh) (p1 : zt5) (p2 : Int) (r : zt11) (s2_11 : Int) (v3202 : zt9) (v3204 : zt3) : TM := zLc p0 p1 p2 ++ [(47, (xb false)), (7, (xi (if (4 : Int) < (p0.Far.1.length : Int) then 4 else (p0.Far.1.length : Int)))), (zsp 8), (9, (.row 0 58 r.2.2.length)), (10, (xi s2_11)), (63, (xb true)), (11, (.d (dl (eL zk) v3202.1.1 v3202.1.2))), (12, (xi v3202.2)), (13, (xb v3204.1)), (14, (xi v3204.2)), (88, (xb false)), (15, (xi r.1)), (92, (xb false))]
noncomputable def zld (p0 : zh) (p1 : zt5) (p2 s2_11 : Int) (v3202 : zt9) (v3204 : zt3) (r : zt11) : St := ⟨(zuB p0 p1 p2 r s2_11 v3202 v3204), ⟨[(zc 3 (zl p0)), (zc 4 (aI 4 p1)), (2129, .nrow), (2130, (rowO true 5 zp r.2.1 true)), (8, (.cells [(xi (p0.Slips.1.length : Int)), (.row 0 2129 0), (.row 0 2130 r.2.1.length), (.d (.sl [] .nil)), (.d (.sl [] .nil))])), (58, (rowO false 1 eI r.2.2 true))], []⟩, []⟩
noncomputable def zSj (p0 : zh) (p1 : zt5) (p2 s2_11 : Int) (v3202 : zt9) (v3204 : zt3) : ((Int × Int × (List zw) × (List Int) × Int × Int) ⊕ (Int × (List zw) × (List Int))) → Ex × St := Sum.elim (fun r => (.ret, zbd p0 p1 p2 s2_11 v3202 v3204 r)) (fun r => ((.exit 2), zld p0 p1 p2 s2_11 v3202 v3204 r))
theorem zEf (k : Nat) (p0 : zh) (p1 : zt5) (p2 s2_11 : Int) (v3202 : zt9) (v3204 : zt3) (s33_18 : Int) (s33_26 : zt12) (s33_31 : (List Int)) (x : (Int × (List zw) × (List Int)) ⊕ ((Int × Int × (List zw) × (List Int) × Int × Int) ⊕ (Int × (List zw) × (List Int)))) (h : zJb k p0 p1 p2 s2_11 v3202 v3204 s33_18 s33_26 s33_31 = some x) : zT TE 3 (blk TE 3 2) (fun s : (Int × (List zw) × (List Int)) => z9j p0 p1 p2 s2_11 v3202 v3204 s.1 s.2.1 s.2.2) (zSj p0 p1 p2 s2_11 v3202 v3204) (s33_18, s33_26, s33_31) x := by
 unfold zJb at h
 refine zr h (fun h3901 g1 => ?_) (fun h3901 g1 => ?_)
 ·refine zo g1 (fun v3902 h3903 g2 => ?_)
  refine zRb g2 (fun v3905 hh g3_0 => ?_) (fun v3905 hh g3_0 => ?_)
  ·subst hh
   exact zqo [(3, 14, 2, .q (xi (v3202.1.1.length : Int))), (3, 14, 3, .q (xb true))] [(3, 4, (.ret, zgd p0 p1 p2 s2_11 v3202 v3204 s33_18 v3905))] g3_0 (ob (zC (eL zk) v3202.1.1) (ob (o_b h3901) (ob (zG (id := 4) (r' := (.ret, zgd p0 p1 p2 s2_11 v3202 v3204 s33_18 v3905)) (zmk (zTf k p0 p1 p2 s2_11 v3202 v3204 s33_18) k _ _ h3903) rfl) ob0))) (by kernel_rfl)
  ·subst hh
   exact zqn ((w64 (s33_18 + 1)), v3905.2.1, v3905.2.2) [2130, 58] [(3, 14, 2, .q (xi (v3202.1.1.length : Int))), (3, 14, 3, .q (xb true))] [(3, 4, (.nor, zkd p0 p1 p2 s2_11 v3202 v3204 s33_18 v3905))] g3_0 (ob (zC (eL zk) v3202.1.1) (ob (o_b h3901) (ob (zG (id := 4) (r' := (.nor, zkd p0 p1 p2 s2_11 v3202 v3204 s33_18 v3905)) (zmk (zTf k p0 p1 p2 s2_11 v3202 v3204 s33_18) k _ _ h3903) rfl) (ob (zre true 5 zp v3905.2.1 true) (ob (zre false 1 eI v3905.2.2 true) ob0))))) (by kernel_rfl)
 ·exact zqo [(3, 14, 2, .q (xi (v3202.1.1.length : Int))), (3, 14, 3, .q (xb false))] [] g1 (ob (zC (eL zk) v3202.1.1) (ob (o_b h3901) ob0)) (by kernel_rfl)
noncomputable def zcA (p0 : zh) (p1 : zt5) (p2 : Int) (s2_24 : (List Int)) (s2_11 : Int) : TM := zLc p0 p1 p2 ++ [(47, (xb false)), (7, (xi (if (4 : Int) < (p0.Far.1.length : Int) then 4 else (p0.Far.1.length : Int)))), (zsp 8), (9, (.row 0 58 s2_24.length)), (10, (xi s2_11))]
noncomputable def znk (p0 : zh) (p1 : zt5) (p2 s2_11 : Int) (s2_19 : zt12) (s2_24 : (List Int)) : St := ⟨(zcA p0 p1 p2 s2_24 s2_11), ⟨[(zc 3 (zl p0)), (zc 4 (aI 4 p1)), (2129, .nrow), (2130, (rowO true 5 zp s2_19 true)), (8, (.cells [(xi (p0.Slips.1.length : Int)), (.row 0 2129 0), (.row 0 2130 s2_19.length), (.d (.sl [] .nil)), (.d (.sl [] .nil))])), (58, (rowO false 1 eI s2_24 true))], []⟩, []⟩
noncomputable def zgA (p0 : zh) (p1 : zt5) (p2 : Int) (r : (Int × (SL (SL zj)) × Int × Bool × Int × (List zw) × (List Int))) : TM := zLc p0 p1 p2 ++ [(47, (xb false)), (7, (xi (if (4 : Int) < (p0.Far.1.length : Int) then 4 else (p0.Far.1.length : Int)))), (zsp 8), (9, (.row 0 58 r.2.2.2.2.2.2.length)), (10, (xi r.1)), (63, (xb true)), (11, (.d (dl (eL zk) r.2.1.1 r.2.1.2))), (12, (xi r.2.2.1)), (13, (xb r.2.2.2.1)), (14, (xi r.2.2.2.2.1)), (88, (xb true))]
noncomputable def ztd (p0 : zh) (p1 : zt5) (p2 : Int) (r : (Int × (SL (SL zj)) × Int × Bool × Int × (List zw) × (List Int))) : St := ⟨(zgA p0 p1 p2 r), ⟨[(zc 3 (zl p0)), (zc 4 (aI 4 p1)), (2129, .nrow), (2130, (rowO true 5 zp r.2.2.2.2.2.1 true)), (8, (.cells [(xi (p0.Slips.1.length : Int)), (.row 0 2129 0), (.row 0 2130 r.2.2.2.2.2.1.length), (.d (.sl [] .nil)), (.d (.sl [] .nil))])), (58, (rowO false 1 eI r.2.2.2.2.2.2 true))], []⟩, []⟩
noncomputable def zwB (p0 : zh) (p1 : zt5) (p2 : Int) (r : (Int × (SL (SL zj)) × Int × Bool × Int × Int × Int × (List zw) × (List Int) × Int × Int)) : TM := zLc p0 p1 p2 ++ [(47, (xb false)), (7, (xi (if (4 : Int) < (p0.Far.1.length : Int) then 4 else (p0.Far.1.length : Int)))), (zsp 8), (9, (.row 0 58 r.2.2.2.2.2.2.2.2.1.length)), (10, (xi r.1)), (63, (xb true)), (11, (.d (dl (eL zk) r.2.1.1 r.2.1.2))), (12, (xi r.2.2.1)), (13, (xb r.2.2.2.1)), (14, (xi r.2.2.2.2.1)), (88, (xb false)), (15, (xi r.2.2.2.2.2.1)), (92, (xb true)), (16, (xi r.2.2.2.2.2.2.1)), (101, (xb true)), (zsp 17), (124, (xb true))]
noncomputable def zzd (p0 : zh) (p1 : zt5) (p2 : Int) (r : (Int × (SL (SL zj)) × Int × Bool × Int × Int × Int × (List zw) × (List Int) × Int × Int)) : St := ⟨(zwB p0 p1 p2 r), ⟨[(zc 3 (zl p0)), (zc 4 (aI 4 p1)), (2129, .nrow), (2130, (rowO true 5 zp r.2.2.2.2.2.2.2.1 true)), (8, (.cells [(xi (p0.Slips.1.length : Int)), (.row 0 2129 0), (.row 0 2130 r.2.2.2.2.2.2.2.1.length), (.d (.sl [] .nil)), (.d (.sl [] .nil))])), (58, (rowO false 1 eI r.2.2.2.2.2.2.2.2.1 true)), (17, (.cells [(xi r.2.2.2.2.2.2.2.2.2.1), (xi r.2.2.2.2.2.2.2.2.2.2)]))], []⟩, []⟩
noncomputable def zYA (p0 : zh) (p1 : zt5) (p2 : Int) (r : zt11) : TM := zLc p0 p1 p2 ++ [(47, (xb false)), (7, (xi (if (4 : Int) < (p0.Far.1.length : Int) then 4 else (p0.Far.1.length : Int)))), (zsp 8), (9, (.row 0 58 r.2.2.length)), (10, (xi r.1)), (63, (xb false))]
noncomputable def zgb (p0 : zh) (p1 : zt5) (p2 : Int) (r : zt11) : St := ⟨(zYA p0 p1 p2 r), ⟨[(zc 3 (zl p0)), (zc 4 (aI 4 p1)), (2129, .nrow), (2130, (rowO true 5 zp r.2.1 true)), (8, (.cells [(xi (p0.Slips.1.length : Int)), (.row 0 2129 0), (.row 0 2130 r.2.1.length), (.d (.sl [] .nil)), (.d (.sl [] .nil))])), (58, (rowO false 1 eI r.2.2 true))], []⟩, []⟩
noncomputable def zok (p0 : zh) (p1 : zt5) (p2 : Int) : ((Int × (SL (SL zj)) × Int × Bool × Int × (List zw) × (List Int)) ⊕ ((Int × (SL (SL zj)) × Int × Bool × Int × Int × Int × (List zw) × (List Int) × Int × Int) ⊕ (Int × (List zw) × (List Int)))) → Ex × St := Sum.elim (fun r => (.ret, ztd p0 p1 p2 r)) (Sum.elim (fun r => (.ret, zzd p0 p1 p2 r)) (fun r => ((.exit 0), zgb p0 p1 p2 r)))
theorem zrd (k : Nat) (p0 : zh) (p1 : zt5) (p2 s2_11 : Int) (s2_19 : zt12) (s2_24 : (List Int)) (x : (Int × (List zw) × (List Int)) ⊕ ((Int × (SL (SL zj)) × Int × Bool × Int × (List zw) × (List Int)) ⊕ ((Int × (SL (SL zj)) × Int × Bool × Int × Int × Int × (List zw) × (List Int) × Int × Int) ⊕ (Int × (List zw) × (List Int))))) (h : zNb k p0 p1 p2 s2_11 s2_19 s2_24 = some x) : zT TE 3 (blk TE 3 0) (fun s : (Int × (List zw) × (List Int)) => znk p0 p1 p2 s.1 s.2.1 s.2.2) (zok p0 p1 p2) (s2_11, s2_19, s2_24) x := by
 unfold zNb at h
 refine zr h (fun h3201 g1 => ?_) (fun h3201 g1 => ?_)
 ·refine zo g1 (fun v3202 h3203 g2 => ?_)
  refine zo g2 (fun v3204 h3205 g3 => ?_)
  refine zo g3 (fun v3206 h3207 g4 => ?_)
  refine zr g4 (fun h3208 g5 => ?_) (fun h3208 g5 => ?_)
  ·subst h3208
   exact zqo [(3, 7, 3, .q (xi (p0.Slips.1.length : Int))), (3, 7, 4, .q (xb true)), (3, 9, 2, .c (.tup [(dl (eL zk) v3202.1.1 v3202.1.2), (di v3202.2)])), (3, 10, 3, .c (.tup [(db v3204.1), (di v3204.2)]))] [(3, 1000011, (.nor, zob p0 p1 p2 s2_11 s2_19 s2_24 v3202 v3204 true))] g5 (ob (zC zL p0.Slips.1) (ob (o_b h3201) (ob (zlk k p0 s2_11 _ h3203) (ob (zLi k p0 s2_11 v3202.1 _ h3205) (ob (zcd k p0 p1 p2 s2_11 s2_19 s2_24 v3202 v3204 _ h3207) ob0))))) (by kernel_rfl)
  ·subst h3208
   refine zo g5 (fun v3209 h3210 g6 => ?_)
   refine zRb g6 (fun v3212 hh g7_0 => ?_) (fun v3212 hh g7_0 => ?_)
   ·subst hh
    exact zqo [(3, 7, 3, .q (xi (p0.Slips.1.length : Int))), (3, 7, 4, .q (xb true)), (3, 9, 2, .c (.tup [(dl (eL zk) v3202.1.1 v3202.1.2), (di v3202.2)])), (3, 10, 3, .c (.tup [(db v3204.1), (di v3204.2)]))] [(3, 1000011, (.nor, zob p0 p1 p2 s2_11 s2_19 s2_24 v3202 v3204 false)), (3, 2, (.ret, zbd p0 p1 p2 s2_11 v3202 v3204 v3212))] g7_0 (ob (zC zL p0.Slips.1) (ob (o_b h3201) (ob (zlk k p0 s2_11 _ h3203) (ob (zLi k p0 s2_11 v3202.1 _ h3205) (ob (zcd k p0 p1 p2 s2_11 s2_19 s2_24 v3202 v3204 _ h3207) (ob (zG (id := 2) (r' := (.ret, zbd p0 p1 p2 s2_11 v3202 v3204 v3212)) (zmk (zEf k p0 p1 p2 s2_11 v3202 v3204) k _ _ h3210) rfl) ob0)))))) (by kernel_rfl)
   ·subst hh
    exact zqn ((w64 (s2_11 + 1)), v3212.2.1, v3212.2.2) [2130, 58] [(3, 7, 3, .q (xi (p0.Slips.1.length : Int))), (3, 7, 4, .q (xb true)), (3, 9, 2, .c (.tup [(dl (eL zk) v3202.1.1 v3202.1.2), (di v3202.2)])), (3, 10, 3, .c (.tup [(db v3204.1), (di v3204.2)]))] [(3, 1000011, (.nor, zob p0 p1 p2 s2_11 s2_19 s2_24 v3202 v3204 false)), (3, 2, (.nor, zld p0 p1 p2 s2_11 v3202 v3204 v3212))] g7_0 (ob (zC zL p0.Slips.1) (ob (o_b h3201) (ob (zlk k p0 s2_11 _ h3203) (ob (zLi k p0 s2_11 v3202.1 _ h3205) (ob (zcd k p0 p1 p2 s2_11 s2_19 s2_24 v3202 v3204 _ h3207) (ob (zG (id := 2) (r' := (.nor, zld p0 p1 p2 s2_11 v3202 v3204 v3212)) (zmk (zEf k p0 p1 p2 s2_11 v3202 v3204) k _ _ h3210) rfl) (ob (zre true 5 zp v3212.2.1 true) (ob (zre false 1 eI v3212.2.2 true) ob0)))))))) (by kernel_rfl)
 ·exact zqo [(3, 7, 3, .q (xi (p0.Slips.1.length : Int))), (3, 7, 4, .q (xb false))] [] g1 (ob (zC zL p0.Slips.1) (ob (o_b h3201) ob0)) (by kernel_rfl)
noncomputable def ztB (p0 : zh) (p1 : zt5) (p2 : Int) (v8 : zt11) (s44_13 : Int) : TM := zLc p0 p1 p2 ++ [(47, (xb false)), (7, (xi (if (4 : Int) < (p0.Far.1.length : Int) then 4 else (p0.Far.1.length : Int)))), (zsp 8), (9, (.row 0 58 v8.2.2.length)), (10, (xi v8.1)), (63, (xb false)), (18, (xi s44_13))]
noncomputable def zTj (p0 : zh) (p1 : zt5) (p2 : Int) (v8 : zt11) (s44_13 : Int) (s44_21 : (List zx)) : St := ⟨(ztB p0 p1 p2 v8 s44_13), ⟨[(zc 3 (zl p0)), (zc 4 (aI 4 p1)), (2129, (rowO true 3 zn s44_21 true)), (2130, (rowO true 5 zp v8.2.1 true)), (8, (.cells [(xi (p0.Slips.1.length : Int)), (.row 0 2129 s44_21.length), (.row 0 2130 v8.2.1.length), (.d (.sl [] .nil)), (.d (.sl [] .nil))])), (58, (rowO false 1 eI v8.2.2 true))], []⟩, []⟩
noncomputable def z5A (p0 : zh) (p1 : zt5) (p2 : Int) (v8 : zt11) (r : (Int × Int × (List zx))) : TM := [(0, (.d (.agg (zl p0)))), (1, (.d (.agg (aI 4 p1)))), (2, (xi p2)), (zsp 3), (zsp 4), (6, (xb true)), (47, (xb false)), (7, (xi (if (4 : Int) < (p0.Far.1.length : Int) then 4 else (p0.Far.1.length : Int)))), (zsp 8), (9, (.row 0 58 v8.2.2.length)), (10, (xi v8.1)), (63, (xb false)), (18, (xi r.1)), (154, (xb true)), (19, (xi r.2.1)), (167, (xb true))]
noncomputable def zjd (p0 : zh) (p1 : zt5) (p2 : Int) (v8 : zt11) (r : (Int × Int × (List zx))) : St := ⟨(z5A p0 p1 p2 v8 r), ⟨[(zc 3 (zl p0)), (zc 4 (aI 4 p1)), (2129, (rowO true 3 zn r.2.2 true)), (2130, (rowO true 5 zp v8.2.1 true)), (8, (.cells [(xi (p0.Slips.1.length : Int)), (.row 0 2129 r.2.2.length), (.row 0 2130 v8.2.1.length), (.d (.sl [] .nil)), (.d (.sl [] .nil))])), (58, (rowO false 1 eI v8.2.2 true))], []⟩, []⟩
noncomputable def z9z (p0 : zh) (p1 : zt5) (p2 : Int) (v8 : zt11) (r : zt17) : TM := zLc p0 p1 p2 ++ [(47, (xb false)), (7, (xi (if (4 : Int) < (p0.Far.1.length : Int) then 4 else (p0.Far.1.length : Int)))), (zsp 8), (9, (.row 0 58 v8.2.2.length)), (10, (xi v8.1)), (63, (xb false)), (18, (xi r.1)), (154, (xb false))]
noncomputable def zib (p0 : zh) (p1 : zt5) (p2 : Int) (v8 : zt11) (r : zt17) : St := ⟨(z9z p0 p1 p2 v8 r), ⟨[(zc 3 (zl p0)), (zc 4 (aI 4 p1)), (2129, (rowO true 3 zn r.2 true)), (2130, (rowO true 5 zp v8.2.1 true)), (8, (.cells [(xi (p0.Slips.1.length : Int)), (.row 0 2129 r.2.length), (.row 0 2130 v8.2.1.length), (.d (.sl [] .nil)), (.d (.sl [] .nil))])), (58, (rowO false 1 eI v8.2.2 true))], []⟩, []⟩
noncomputable def zOj (p0 : zh) (p1 : zt5) (p2 : Int) (v8 : zt11) : ((Int × Int × (List zx)) ⊕ (Int × (List zx))) → Ex × St := Sum.elim (fun r => (.ret, zjd p0 p1 p2 v8 r)) (fun r => ((.exit 6), zib p0 p1 p2 v8 r))
theorem zIf (k : Nat) (p0 : zh) (p1 : zt5) (p2 : Int) (v8 : zt11) (s44_13 : Int) (s44_21 : (List zx)) (x : (Int × (List zx)) ⊕ ((Int × Int × (List zx)) ⊕ (Int × (List zx)))) (h : zKb k p0 p1 p2 v8 s44_13 s44_21 = some x) : zT TE 3 (blk TE 3 6) (fun s : (Int × (List zx)) => zTj p0 p1 p2 v8 s.1 s.2) (zOj p0 p1 p2 v8) (s44_13, s44_21) x := by
 unfold zKb at h
 refine zr h (fun h4501 g1 => ?_) (fun h4501 g1 => ?_)
 ·refine zo g1 (fun v4502 h4503 g2 => ?_)
  refine z6 g2 (fun h4504 g3 => ?_)
  refine zo g3 (fun v4505 h4506 g4 => ?_)
  refine zr g4 (fun h4507 g5 => ?_) (fun h4507 g5 => ?_)
  ·exact zqo [(3, 26, 2, .q (xb true)), (3, 28, 2, .q (.rp 0 58 v8.2.2.length s44_13.toNat 0)), (3, 28, 3, .q (xi v4502)), (3, 28, 5, .q (.ptr 0 4 (s44_13.toNat))), (3, 28, 6, .q (xi (p1 s44_13.toNat))), (3, 28, 7, .c (di v4505)), (3, 29, 1, .q (xb true)), (3, 30, 0, .c (db true))] [] g5 (ob (o_b h4501) (ob (zqa 22 8 0 58 s44_13 false 1 eI v8.2.2 true (by kernel_rfl) (by kernel_rfl) h4503) (ob (zql 3 (1, false) 0 58 0 s44_13 (xi v4502) false 1 eI v8.2.2 true (by kernel_rfl) h4503 (by kernel_rfl)) (ob (zAb (m := 4) 0 4 0 1 s44_13.toNat h4504 (by omega)) (ob (zQl 4 p1 s44_13.toNat (by have := h4504; simp only [Bool.and_eq_true, decide_eq_true_eq] at this; omega)) (ob (zyc k (p1 s44_13.toNat) 5 _ h4506) (ob (o_b h4507) (ob zZk ob0)))))))) (by kernel_rfl)
  ·refine zo g5 (fun v4508 h4509 g6 => ?_)
   refine z6 g6 (fun h4510 g7 => ?_)
   exact zqn ((w64 (s44_13 + 1)), (s44_21 ++ [(⟨v4508, 60⟩ : zx)])) [2129, 2130, 58] [(3, 26, 2, .q (xb true)), (3, 28, 2, .q (.rp 0 58 v8.2.2.length s44_13.toNat 0)), (3, 28, 3, .q (xi v4502)), (3, 28, 5, .q (.ptr 0 4 (s44_13.toNat))), (3, 28, 6, .q (xi (p1 s44_13.toNat))), (3, 28, 7, .c (di v4505)), (3, 29, 1, .q (xb false)), (3, 31, 4, .c (.agg [(di v4508.Low), (di v4508.High)])), (3, 31, 7, .ap (s44_21 ++ [(⟨v4508, 60⟩ : zx)]).length (rowO true 3 zn (s44_21 ++ [(⟨v4508, 60⟩ : zx)]) true))] [] g7 (ob (o_b h4501) (ob (zqa 22 8 0 58 s44_13 false 1 eI v8.2.2 true (by kernel_rfl) (by kernel_rfl) h4503) (ob (zql 3 (1, false) 0 58 0 s44_13 (xi v4502) false 1 eI v8.2.2 true (by kernel_rfl) h4503 (by kernel_rfl)) (ob (zAb (m := 4) 0 4 0 1 s44_13.toNat h4504 (by omega)) (ob (zQl 4 p1 s44_13.toNat (by have := h4504; simp only [Bool.and_eq_true, decide_eq_true_eq] at this; omega)) (ob (zyc k (p1 s44_13.toNat) 5 _ h4506) (ob (o_b h4507) (ob (z7c k (w64 (v4502 + v4505)) (w64 (v4502 + v4505)) _ h4509) (ob (o_ap (b := true) (z := 3) (e := zn) (l := s44_21) (w := true) (⟨v4508, 60⟩ : zx) (fun _ => rfl) h4510) (ob (zre true 3 zn (s44_21 ++ [(⟨v4508, 60⟩ : zx)]) true) (ob (zre true 5 zp v8.2.1 true) (ob (zre false 1 eI v8.2.2 true) ob0)))))))))))) (by kernel_rfl)
 ·exact zqo [(3, 26, 2, .q (xb false))] [] g1 (ob (o_b h4501) ob0) (by kernel_rfl)
noncomputable def zrA (p0 : zh) (p1 : zt5) (p2 : Int) (v8 : zt11) (v12 : zt17) (s45_16 : Int) (v4702 : (zD × Int)) (v4704 : (Int × Int)) (v4707 : Int) (r : Bool) : TM := zLc p0 p1 p2 ++ [(47, (xb false)), (7, (xi (if (4 : Int) < (p0.Far.1.length : Int) then 4 else (p0.Far.1.length : Int)))), (zsp 8), (9, (.row 0 58 v8.2.2.length)), (10, (xi v8.1)), (63, (xb false)), (18, (xi v12.1)), (154, (xb false)), (181, (xb false)), (20, (xi s45_16)), (185, (xb true)), (zsp 21), (22, (xi v4702.2)), (23, (xi v4704.1)), (24, (xi v4704.2)), (25, (xi v4707)), (224, (xb r))]
noncomputable def zpb (p0 : zh) (p1 : zt5) (p2 : Int) (v8 : zt11) (v12 : zt17) (s45_16 : Int) (v4702 : (zD × Int)) (v4704 : (Int × Int)) (v4707 : Int) (r : Bool) : St := ⟨(zrA p0 p1 p2 v8 v12 s45_16 v4702 v4704 v4707 r), ⟨[(zc 3 (zl p0)), (zc 4 (aI 4 p1)), (2129, (rowO true 3 zn v12.2 false)), (2130, (rowO true 5 zp v8.2.1 false)), (8, (.cells [(xi (p0.Slips.1.length : Int)), (.row 0 2129 v12.2.length), (.row 0 2130 v8.2.1.length), (.d (.sl [] .nil)), (.d (.sl [] .nil))])), (58, (rowO false 1 eI v8.2.2 true)), (21, (.cells [(xi v4702.1.Low), (xi v4702.1.High)]))], []⟩, []⟩
noncomputable def z1B (p0 : zh) (p1 : zt5) (p2 : Int) (v8 : zt11) (v12 : zt17) (s45_16 : Int) (v4702 : (zD × Int)) (v4704 : (Int × Int)) (v4707 : Int) : TM := zLc p0 p1 p2 ++ [(47, (xb false)), (7, (xi (if (4 : Int) < (p0.Far.1.length : Int) then 4 else (p0.Far.1.length : Int)))), (zsp 8), (9, (.row 0 58 v8.2.2.length)), (10, (xi v8.1)), (63, (xb false)), (18, (xi v12.1)), (154, (xb false)), (181, (xb false)), (20, (xi s45_16)), (185, (xb true)), (zsp 21), (22, (xi v4702.2)), (23, (xi v4704.1)), (24, (xi v4704.2)), (25, (xi v4707))]
theorem zGf (k : Nat) (p0 : zh) (p1 : zt5) (p2 : Int) (v8 : zt11) (v12 : zt17) (s45_16 : Int) (v4702 : (zD × Int)) (v4704 : (Int × Int)) (v4707 : Int) (r : Bool) (h : zZb k p0 p1 p2 v8 v12 s45_16 v4702 v4704 v4707 = some r) : ev TE 3 (rgn TE 3 40) ⟨(z1B p0 p1 p2 v8 v12 s45_16 v4702 v4704 v4707), ⟨[(zc 3 (zl p0)), (zc 4 (aI 4 p1)), (2129, (rowO true 3 zn v12.2 false)), (2130, (rowO true 5 zp v8.2.1 false)), (8, (.cells [(xi (p0.Slips.1.length : Int)), (.row 0 2129 v12.2.length), (.row 0 2130 v8.2.1.length), (.d (.sl [] .nil)), (.d (.sl [] .nil))])), (58, (rowO false 1 eI v8.2.2 true)), (21, (.cells [(xi v4702.1.Low), (xi v4702.1.High)]))], []⟩, []⟩ = some (.nor, zpb p0 p1 p2 v8 v12 s45_16 v4702 v4704 v4707 r) := by
 unfold zZb at h
 refine zr h (fun h4801 g1 => ?_) (fun h4801 g1 => ?_)
 ·exact zE (g := fun r => (Ex.nor, zpb p0 p1 p2 v8 v12 s45_16 v4702 v4704 v4707 r)) g1 (zqe [(3, 40, 2, .q (xb true))] [] (ob (o_b h4801) ob0) (by kernel_rfl))
 ·refine zr g1 (fun h4802 g2 => ?_) (fun h4802 g2 => ?_)
  ·exact zE (g := fun r => (Ex.nor, zpb p0 p1 p2 v8 v12 s45_16 v4702 v4704 v4707 r)) g2 (zqe [(3, 40, 2, .q (xb false)), (3, 40, 6, .q (xb true))] [] (ob (o_b h4801) (ob (o_b h4802) ob0)) (by kernel_rfl))
  ·refine zo g2 (fun v4803 h4804 g3 => ?_)
   refine zr g3 (fun h4805 g4 => ?_) (fun h4805 g4 => ?_)
   ·exact zE (g := fun r => (Ex.nor, zpb p0 p1 p2 v8 v12 s45_16 v4702 v4704 v4707 r)) g4 (zqe [(3, 40, 2, .q (xb false)), (3, 40, 6, .q (xb false)), (3, 40, 10, .c (.agg [(di v4803.Low), (di v4803.High)])), (3, 40, 13, .q (xb true))] [] (ob (o_b h4801) (ob (o_b h4802) (ob (z7c k v4707 v4707 _ h4804) (ob (o_b h4805) ob0)))) (by kernel_rfl))
   ·exact zE (g := fun r => (Ex.nor, zpb p0 p1 p2 v8 v12 s45_16 v4702 v4704 v4707 r)) g4 (zqe [(3, 40, 2, .q (xb false)), (3, 40, 6, .q (xb false)), (3, 40, 10, .c (.agg [(di v4803.Low), (di v4803.High)])), (3, 40, 13, .q (xb false))] [] (ob (o_b h4801) (ob (o_b h4802) (ob (z7c k v4707 v4707 _ h4804) (ob (o_b h4805) ob0)))) (by kernel_rfl))
noncomputable def z2A (p0 : zh) (p1 : zt5) (p2 : Int) (v8 : zt11) (v12 : zt17) (s45_16 : Int) : TM := zLc p0 p1 p2 ++ [(47, (xb false)), (7, (xi (if (4 : Int) < (p0.Far.1.length : Int) then 4 else (p0.Far.1.length : Int)))), (zsp 8), (9, (.row 0 58 v8.2.2.length)), (10, (xi v8.1)), (63, (xb false)), (18, (xi v12.1)), (154, (xb false)), (181, (xb false)), (20, (xi s45_16))]
noncomputable def zhk (p0 : zh) (p1 : zt5) (p2 : Int) (v8 : zt11) (v12 : zt17) (s45_16 : Int) (s45_25 s45_27 : Bool) : St := ⟨(z2A p0 p1 p2 v8 v12 s45_16), ⟨[(zc 3 (zl p0)), (zc 4 (aI 4 p1)), (2129, (rowO true 3 zn v12.2 s45_25)), (2130, (rowO true 5 zp v8.2.1 s45_27)), (8, (.cells [(xi (p0.Slips.1.length : Int)), (.row 0 2129 v12.2.length), (.row 0 2130 v8.2.1.length), (.d (.sl [] .nil)), (.d (.sl [] .nil))])), (58, (rowO false 1 eI v8.2.2 true))], []⟩, []⟩
noncomputable def zTA (p0 : zh) (p1 : zt5) (p2 : Int) (v8 : zt11) (v12 : zt17) (r : (Int × Int × Int × Int × Int × Int × Int)) : TM := zLc p0 p1 p2 ++ [(47, (xb false)), (7, (xi (if (4 : Int) < (p0.Far.1.length : Int) then 4 else (p0.Far.1.length : Int)))), (zsp 8), (9, (.row 0 58 v8.2.2.length)), (10, (xi v8.1)), (63, (xb false)), (18, (xi v12.1)), (154, (xb false)), (181, (xb false)), (20, (xi r.1)), (185, (xb true)), (zsp 21), (22, (xi r.2.1)), (23, (xi r.2.2.1)), (24, (xi r.2.2.2.1)), (25, (xi r.2.2.2.2.1)), (224, (xb true))]
noncomputable def zad (p0 : zh) (p1 : zt5) (p2 : Int) (v8 : zt11) (v12 : zt17) (r : (Int × Int × Int × Int × Int × Int × Int)) : St := ⟨(zTA p0 p1 p2 v8 v12 r), ⟨[(zc 3 (zl p0)), (zc 4 (aI 4 p1)), (2129, (rowO true 3 zn v12.2 false)), (2130, (rowO true 5 zp v8.2.1 false)), (8, (.cells [(xi (p0.Slips.1.length : Int)), (.row 0 2129 v12.2.length), (.row 0 2130 v8.2.1.length), (.d (.sl [] .nil)), (.d (.sl [] .nil))])), (58, (rowO false 1 eI v8.2.2 true)), (21, (.cells [(xi r.2.2.2.2.2.1), (xi r.2.2.2.2.2.2)]))], []⟩, []⟩
noncomputable def zJB (p0 : zh) (p1 : zt5) (p2 : Int) (v8 : zt11) (v12 : zt17) (r : (Int × Bool × Bool)) : TM := zLc p0 p1 p2 ++ [(47, (xb false)), (7, (xi (if (4 : Int) < (p0.Far.1.length : Int) then 4 else (p0.Far.1.length : Int)))), (zsp 8), (9, (.row 0 58 v8.2.2.length)), (10, (xi v8.1)), (63, (xb false)), (18, (xi v12.1)), (154, (xb false)), (181, (xb false)), (20, (xi r.1)), (185, (xb false))]
noncomputable def zxb (p0 : zh) (p1 : zt5) (p2 : Int) (v8 : zt11) (v12 : zt17) (r : (Int × Bool × Bool)) : St := ⟨(zJB p0 p1 p2 v8 v12 r), ⟨[(zc 3 (zl p0)), (zc 4 (aI 4 p1)), (2129, (rowO true 3 zn v12.2 r.2.1)), (2130, (rowO true 5 zp v8.2.1 r.2.2)), (8, (.cells [(xi (p0.Slips.1.length : Int)), (.row 0 2129 v12.2.length), (.row 0 2130 v8.2.1.length), (.d (.sl [] .nil)), (.d (.sl [] .nil))])), (58, (rowO false 1 eI v8.2.2 true))], []⟩, []⟩
noncomputable def zKj (p0 : zh) (p1 : zt5) (p2 : Int) (v8 : zt11) (v12 : zt17) : ((Int × Int × Int × Int × Int × Int × Int) ⊕ (Int × Bool × Bool)) → Ex × St := Sum.elim (fun r => (.ret, zad p0 p1 p2 v8 v12 r)) (fun r => ((.exit 8), zxb p0 p1 p2 v8 v12 r))
theorem zHf (k : Nat) (p0 : zh) (p1 : zt5) (p2 : Int) (v8 : zt11) (v12 : zt17) (s45_16 : Int) (s45_25 s45_27 : Bool) (x : (Int × Bool × Bool) ⊕ ((Int × Int × Int × Int × Int × Int × Int) ⊕ (Int × Bool × Bool))) (h : zGb k p0 p1 p2 v8 v12 s45_16 s45_25 s45_27 = some x) : zT TE 3 (blk TE 3 8) (fun s : (Int × Bool × Bool) => zhk p0 p1 p2 v8 v12 s.1 s.2.1 s.2.2) (zKj p0 p1 p2 v8 v12) (s45_16, s45_25, s45_27) x := by
 unfold zGb at h
 refine zr h (fun h4701 g1 => ?_) (fun h4701 g1 => ?_)
 ·refine zo g1 (fun v4702 h4703 g2 => ?_)
  refine zo g2 (fun v4704 h4705 g3 => ?_)
  refine z6 g3 (fun h4706 g4 => ?_)
  refine zo g4 (fun v4707 h4708 g5 => ?_)
  refine zo g5 (fun v4709 h4710 g6 => ?_)
  refine zr g6 (fun h4711 g7 => ?_) (fun h4711 g7 => ?_)
  ·subst h4711
   exact zqo [(3, 35, 2, .q (xb true)), (3, 37, 5, .cr [((dl zn v12.2 (rcap true v12.2)), (rowO true 3 zn v12.2 false)), ((dl zp v8.2.1 (rcap true v8.2.1)), (rowO true 5 zp v8.2.1 false))] (.tup [(.agg [(di v4702.1.Low), (di v4702.1.High)]), (di v4702.2)])), (3, 38, 2, .cr [((dl zn v12.2 (rcap true v12.2)), (rowO true 3 zn v12.2 false)), ((dl zp v8.2.1 (rcap true v8.2.1)), (rowO true 5 zp v8.2.1 false))] (.tup [(di v4704.1), (di v4704.2)])), (3, 39, 1, .q (.ptr 0 4 (s45_16.toNat))), (3, 39, 2, .q (xi (p1 s45_16.toNat))), (3, 39, 3, .c (di v4707))] [(3, 1000040, (.nor, zpb p0 p1 p2 v8 v12 s45_16 v4702 v4704 v4707 true))] g7 (ob (o_b h4701) (ob (o_cr true 3 zn v12.2 s45_25 0 2129) (ob (o_cr true 5 zp v8.2.1 s45_27 0 2130) (ob (z5k k (⟨(p0.Slips.1.length : Int), (v12.2, (rcap true v12.2)), (v8.2.1, (rcap true v8.2.1)), ([], Cap.nil), ([], Cap.nil)⟩ : zd) s45_16 (w64 ((p0.Slips.1.length : Int) - 1)) _ h4703) (ob (o_cr true 3 zn v12.2 false 0 2129) (ob (o_cr true 5 zp v8.2.1 false 0 2130) (ob (zXn k (⟨(p0.Slips.1.length : Int), (v12.2, (rcap true v12.2)), (v8.2.1, (rcap true v8.2.1)), ([], Cap.nil), ([], Cap.nil)⟩ : zd) s45_16 0 _ h4705) (ob (zAb (m := 4) 0 4 0 1 s45_16.toNat h4706 (by omega)) (ob (zQl 4 p1 s45_16.toNat (by have := h4706; simp only [Bool.and_eq_true, decide_eq_true_eq] at this; omega)) (ob (zyc k (p1 s45_16.toNat) 5 _ h4708) (ob (zGf k p0 p1 p2 v8 v12 s45_16 v4702 v4704 v4707 _ h4710) ob0))))))))))) (by kernel_rfl)
  ·subst h4711
   exact zqn ((w64 (s45_16 + 1)), false, false) [2129, 2130, 58] [(3, 35, 2, .q (xb true)), (3, 37, 5, .cr [((dl zn v12.2 (rcap true v12.2)), (rowO true 3 zn v12.2 false)), ((dl zp v8.2.1 (rcap true v8.2.1)), (rowO true 5 zp v8.2.1 false))] (.tup [(.agg [(di v4702.1.Low), (di v4702.1.High)]), (di v4702.2)])), (3, 38, 2, .cr [((dl zn v12.2 (rcap true v12.2)), (rowO true 3 zn v12.2 false)), ((dl zp v8.2.1 (rcap true v8.2.1)), (rowO true 5 zp v8.2.1 false))] (.tup [(di v4704.1), (di v4704.2)])), (3, 39, 1, .q (.ptr 0 4 (s45_16.toNat))), (3, 39, 2, .q (xi (p1 s45_16.toNat))), (3, 39, 3, .c (di v4707))] [(3, 1000040, (.nor, zpb p0 p1 p2 v8 v12 s45_16 v4702 v4704 v4707 false))] g7 (ob (o_b h4701) (ob (o_cr true 3 zn v12.2 s45_25 0 2129) (ob (o_cr true 5 zp v8.2.1 s45_27 0 2130) (ob (z5k k (⟨(p0.Slips.1.length : Int), (v12.2, (rcap true v12.2)), (v8.2.1, (rcap true v8.2.1)), ([], Cap.nil), ([], Cap.nil)⟩ : zd) s45_16 (w64 ((p0.Slips.1.length : Int) - 1)) _ h4703) (ob (o_cr true 3 zn v12.2 false 0 2129) (ob (o_cr true 5 zp v8.2.1 false 0 2130) (ob (zXn k (⟨(p0.Slips.1.length : Int), (v12.2, (rcap true v12.2)), (v8.2.1, (rcap true v8.2.1)), ([], Cap.nil), ([], Cap.nil)⟩ : zd) s45_16 0 _ h4705) (ob (zAb (m := 4) 0 4 0 1 s45_16.toNat h4706 (by omega)) (ob (zQl 4 p1 s45_16.toNat (by have := h4706; simp only [Bool.and_eq_true, decide_eq_true_eq] at this; omega)) (ob (zyc k (p1 s45_16.toNat) 5 _ h4708) (ob (zGf k p0 p1 p2 v8 v12 s45_16 v4702 v4704 v4707 _ h4710) (ob (zre true 3 zn v12.2 false) (ob (zre true 5 zp v8.2.1 false) (ob (zre false 1 eI v8.2.2 true) ob0)))))))))))))) (by kernel_rfl)
 ·exact zqo [(3, 35, 2, .q (xb false))] [] g1 (ob (o_b h4701) ob0) (by kernel_rfl)
theorem zhl (k : Nat) (p0 : zh) (p1 : zt5) (p2 : Int) (r : Bool) (h : z3b k p0 p1 p2 = some r) : zI TE (ev TE) 3 [(.agg (zl p0)), (.agg (aI 4 p1)), (di p2)] = some (zdb r) := by
 unfold z3b at h
 refine zo h (fun v1 h2 g1 => ?_)
 have y1 := fun (d : D) (P : List Prop) (V : Ovs) (C : Cuts) (q : All P) h => (zqc V C (ob (z8j k p0 p1 p2 _ h2) q) h : zI TE (ev TE) 3 [(.agg (zl p0)), (.agg (aI 4 p1)), (di p2)] = some d)
 refine zr g1 (fun h3 g2 => ?_) (fun h3 g2 => ?_)
 ·subst h3
  exact zP (g := zdb) g2 (y1 _ _ [(3, 2, 0, .c (db true))] [(3, 1000001, (.nor, zU p0 p1 p2 true))] (ob zZk ob0) (by kernel_rfl))
 ·subst h3
  refine z6 g2 (fun h4 g3 => ?_)
  refine zo g3 (fun v5 h6 g4 => ?_)
  have y2 := fun (d : _) (P : List Prop) (V : Ovs) (C : Cuts) (q : All P) h => y1 d _ ([(3, 3, 2, .q (xi (p0.Far.1.length : Int))), (3, 4, 2, .q (xi (p0.Slips.1.length : Int))), (3, 5, 1, .ms (List.replicate (if (4 : Int) < (p0.Far.1.length : Int) then 4 else (p0.Far.1.length : Int)).toNat 0 : List Int).length ((List.replicate (if (4 : Int) < (p0.Far.1.length : Int) then 4 else (p0.Far.1.length : Int)).toNat 0 : List Int).map eI))] ++ V) C (ob (zC eI p0.Far.1) (ob (zC zL p0.Slips.1) (ob (o_ms (z := 0) (n := (if (4 : Int) < (p0.Far.1.length : Int) then 4 else (p0.Far.1.length : Int))) 0 h4) (ob (by simp : (if (4 : Int) < (p0.Far.1.length : Int) then 4 else (p0.Far.1.length : Int)).toNat = (List.replicate (if (4 : Int) < (p0.Far.1.length : Int) then 4 else (p0.Far.1.length : Int)).toNat 0 : List Int).length) (ob (z6A (e := eI) (if (4 : Int) < (p0.Far.1.length : Int) then 4 else (p0.Far.1.length : Int)).toNat 0) q))))) h
  refine zRb g4 (fun v8 hh g5_0 => ?_) (fun w4_0 hh g5_0 => ?_)
  ·subst hh
   exact zP (g := zdb) g5_0 (y2 _ _ [] [(3, 1000001, (.nor, zU p0 p1 p2 false)), (3, 0, (.ret, ztd p0 p1 p2 v8))] (ob (zG (id := 0) (r' := (.ret, ztd p0 p1 p2 v8)) (zmk (zrd k p0 p1 p2) k _ _ h6) rfl) ob0) (by kernel_rfl))
  ·subst hh
   refine zRb g5_0 (fun v8 hh g5_1 => ?_) (fun v8 hh g5_1 => ?_)
   ·subst hh
    exact zP (g := zdb) g5_1 (y2 _ _ [] [(3, 1000001, (.nor, zU p0 p1 p2 false)), (3, 0, (.ret, zzd p0 p1 p2 v8))] (ob (zG (id := 0) (r' := (.ret, zzd p0 p1 p2 v8)) (zmk (zrd k p0 p1 p2) k _ _ h6) rfl) ob0) (by kernel_rfl))
   ·subst hh
    refine zo g5_1 (fun v9 h10 g6 => ?_)
    have y3 := fun (d : _) (P : List Prop) (V : Ovs) (C : Cuts) (q : All P) h => y2 d _ V C (ob (zG (id := 0) (r' := (.nor, zgb p0 p1 p2 v8)) (zmk (zrd k p0 p1 p2) k _ _ h6) rfl) q) h
    refine zRb g6 (fun v12 hh g7_0 => ?_) (fun v12 hh g7_0 => ?_)
    ·subst hh
     exact zP (g := zdb) g7_0 (y3 _ _ [] [(3, 1000001, (.nor, zU p0 p1 p2 false)), (3, 0, (.nor, zgb p0 p1 p2 v8)), (3, 6, (.ret, zjd p0 p1 p2 v8 v12))] (ob (zG (id := 6) (r' := (.ret, zjd p0 p1 p2 v8 v12)) (zUb (zIf k p0 p1 p2 v8) k _ _ h10) rfl) ob0) (by kernel_rfl))
    ·subst hh
     have y4 := fun (d : _) (P : List Prop) (V : Ovs) (C : Cuts) (q : All P) h => y3 d _ ([(3, 32, 2, .q (xi (v8.2.1.length : Int)))] ++ V) C (ob (zG (id := 6) (r' := (.nor, zib p0 p1 p2 v8 v12)) (zUb (zIf k p0 p1 p2 v8) k _ _ h10) rfl) (ob (zco true 5 zp v8.2.1 true) q)) h
     refine zr g7_0 (fun h13 g8 => ?_) (fun h13 g8 => ?_)
     ·exact zP (g := zdb) g8 (y4 _ _ [(3, 32, 3, .q (xb true)), (3, 33, 0, .c (db true))] [(3, 1000001, (.nor, zU p0 p1 p2 false)), (3, 0, (.nor, zgb p0 p1 p2 v8)), (3, 6, (.nor, zib p0 p1 p2 v8 v12))] (ob (o_b h13) (ob zZk ob0)) (by kernel_rfl))
     ·refine zo g8 (fun v14 h15 g9 => ?_)
      refine zRb g9 (fun v17 hh g10_0 => ?_) (fun v17 hh g10_0 => ?_)
      ·subst hh
       exact zP (g := zdb) g10_0 (y4 _ _ [(3, 32, 3, .q (xb false))] [(3, 1000001, (.nor, zU p0 p1 p2 false)), (3, 0, (.nor, zgb p0 p1 p2 v8)), (3, 6, (.nor, zib p0 p1 p2 v8 v12)), (3, 8, (.ret, zad p0 p1 p2 v8 v12 v17))] (ob (o_b h13) (ob (zG (id := 8) (r' := (.ret, zad p0 p1 p2 v8 v12 v17)) (zmk (zHf k p0 p1 p2 v8 v12) k _ _ h15) rfl) ob0)) (by kernel_rfl))
      ·subst hh
       refine zo g10_0 (fun v18 h19 g11 => ?_)
       refine zo g11 (fun v20 h21 g12 => ?_)
       have y5 := fun (d : _) (P : List Prop) (V : Ovs) (C : Cuts) (q : All P) h => y4 d _ ([(3, 32, 3, .q (xb false)), (3, 42, 2, .c (di v18)), (3, 43, 2, .q (.rp 0 58 v8.2.2.length v18.toNat 0)), (3, 43, 3, .q (xi v20))] ++ V) C (ob (o_b h13) (ob (zG (id := 8) (r' := (.nor, zxb p0 p1 p2 v8 v12 v17)) (zmk (zHf k p0 p1 p2 v8 v12) k _ _ h15) rfl) (ob (zyc k p2 (if (4 : Int) < (p0.Far.1.length : Int) then 4 else (p0.Far.1.length : Int)) _ h19) (ob (zqa 22 8 0 58 v18 false 1 eI v8.2.2 true (by kernel_rfl) (by kernel_rfl) h21) (ob (zql 3 (1, false) 0 58 0 v18 (xi v20) false 1 eI v8.2.2 true (by kernel_rfl) h21 (by kernel_rfl)) q))))) h
       refine zr g12 (fun h22 g13 => ?_) (fun h22 g13 => ?_)
       ·exact zP (g := zdb) g13 (y5 _ _ [(3, 43, 4, .q (xb true)), (3, 44, 0, .c (db true))] [(3, 1000001, (.nor, zU p0 p1 p2 false)), (3, 0, (.nor, zgb p0 p1 p2 v8)), (3, 6, (.nor, zib p0 p1 p2 v8 v12)), (3, 8, (.nor, zxb p0 p1 p2 v8 v12 v17))] (ob (o_b h22) (ob zZk ob0)) (by kernel_rfl))
       ·refine z6 g13 (fun h23 g14 => ?_)
        refine zo g14 (fun v24 h25 g15 => ?_)
        refine zo g15 (fun v26 h27 g16 => ?_)
        refine zo g16 (fun v28 h29 g17 => ?_)
        refine zo g17 (fun v30 h31 g18 => ?_)
        refine zo g18 (fun v32 h33 g19 => ?_)
        refine zo g19 (fun v34 h35 g20 => ?_)
        have y6 := fun (d : _) (P : List Prop) (V : Ovs) (C : Cuts) (q : All P) h => y5 d _ ([(3, 43, 4, .q (xb false)), (3, 46, 2, .fz (dl zn v12.2 (rcap true v12.2)) (rowO true 3 zn v12.2 false)), (3, 46, 3, .ns (v12.2.map zn) v12.2.length), (3, 47, 5, .q (.rp 0 58 v8.2.2.length v18.toNat 0)), (3, 47, 6, .q (xi v24)), (3, 47, 10, .q (.rp 0 58 v8.2.2.length v18.toNat 0)), (3, 47, 11, .q (xi v26)), (3, 47, 13, .c (.agg [(di v28.Low), (di v28.High)])), (3, 47, 14, .q (.rp 0 238 v12.2.length v18.toNat 0)), (3, 47, 15, .q (.rp 0 238 v12.2.length v18.toNat 0)), (3, 47, 16, .rs (rowO false 3 zn (v12.2.set v18.toNat (⟨v28, v30.Room⟩ : zx)) true)), (3, 47, 999, .nm [] [(27, 1, (v12.2.set v18.toNat (⟨v28, v30.Room⟩ : zx)).length)]), (3, 48, 2, .cr [((dl zn (v12.2.set v18.toNat (⟨v28, v30.Room⟩ : zx)) (rcap false (v12.2.set v18.toNat (⟨v28, v30.Room⟩ : zx)))), (rowO false 3 zn (v12.2.set v18.toNat (⟨v28, v30.Room⟩ : zx)) false)), ((dl zp v8.2.1 (rcap true v8.2.1)), (rowO true 5 zp v8.2.1 false))] (.tup [(.agg [(di v32.1.Low), (di v32.1.High)]), (di v32.2)])), (3, 49, 1, .cr [((dl zn (v12.2.set v18.toNat (⟨v28, v30.Room⟩ : zx)) (rcap false (v12.2.set v18.toNat (⟨v28, v30.Room⟩ : zx)))), (rowO false 3 zn (v12.2.set v18.toNat (⟨v28, v30.Room⟩ : zx)) false)), ((dl zp v8.2.1 (rcap true v8.2.1)), (rowO true 5 zp v8.2.1 false))] (.tup [(dl eI v34.1.1 v34.1.2), (di v34.2)]))] ++ V) C (ob (o_b h22) (ob (o_cr true 3 zn v12.2 v17.2.1 0 2129) (ob (zqA v12.2 zn) (ob (o_ns (P := TE.P) (φ := fun _ _ => none) (T := 34) (q := (3, [(di 0), (di 0), (di 0)])) (c := (rcap true v12.2)) (e := zn) v12.2 (by kernel_rfl) (by kernel_rfl) (fun _ => rfl) h23) (ob (rfl : (([] : List (List D)).isEmpty || !(v12.2.map zn).isEmpty) = true) (ob (zqa 22 8 0 58 v18 false 1 eI v8.2.2 true (by kernel_rfl) (by kernel_rfl) h25) (ob (zql 3 (1, false) 0 58 0 v18 (xi v24) false 1 eI v8.2.2 true (by kernel_rfl) h25 (by kernel_rfl)) (ob (zqa 22 8 0 58 v18 false 1 eI v8.2.2 true (by kernel_rfl) (by kernel_rfl) h27) (ob (zql 3 (1, false) 0 58 0 v18 (xi v26) false 1 eI v8.2.2 true (by kernel_rfl) h27 (by kernel_rfl)) (ob (z7c k (w64 (v24 - 1)) (w64 (v26 - 1)) _ h29) (ob (zqa 34 24 0 238 v18 false 3 zn v12.2 true (by kernel_rfl) (by kernel_rfl) h31) (ob (zqf 53 (0, 2, true) 0 238 0 0 v18 false 3 zn v12.2 true (by kernel_rfl) (by decide) h31) (ob (o_rs (b := false) (z := 3) (e := zn) (l := v12.2) (o := 0) (n := 2) (ds := [(di v28.Low), (di v28.High)]) (i := v18) (y' := (⟨v28, v30.Room⟩ : zx)) h31 (Nat.le_of_ble_eq_true rfl) rfl) (ob (show v12.2.length = (v12.2.set v18.toNat (⟨v28, v30.Room⟩ : zx)).length by simp) (ob (o_cr false 3 zn (v12.2.set v18.toNat (⟨v28, v30.Room⟩ : zx)) true 0 238) (ob (o_cr true 5 zp v8.2.1 v17.2.2 0 2130) (ob (z5k k (⟨(p0.Slips.1.length : Int), ((v12.2.set v18.toNat (⟨v28, v30.Room⟩ : zx)), (rcap false (v12.2.set v18.toNat (⟨v28, v30.Room⟩ : zx)))), (v8.2.1, (rcap true v8.2.1)), ([], Cap.nil), ([], Cap.nil)⟩ : zd) v18 0 _ h33) (ob (o_cr false 3 zn (v12.2.set v18.toNat (⟨v28, v30.Room⟩ : zx)) false 0 238) (ob (o_cr true 5 zp v8.2.1 false 0 2130) (ob (zjs k (⟨(p0.Slips.1.length : Int), ((v12.2.set v18.toNat (⟨v28, v30.Room⟩ : zx)), (rcap false (v12.2.set v18.toNat (⟨v28, v30.Room⟩ : zx)))), (v8.2.1, (rcap true v8.2.1)), ([], Cap.nil), ([], Cap.nil)⟩ : zd) _ h35) q)))))))))))))))))))) h
        refine zr g20 (fun h36 g21 => ?_) (fun h36 g21 => ?_)
        ·refine zr g21 (fun h37 g22 => ?_) (fun h37 g22 => ?_)
         ·exact zP (g := zdb) g22 (y6 _ _ [(3, 50, 2, .q (xb true)), (3, 50, 6, .q (xb true)), (3, 50, 7, .c (db true))] [(3, 1000001, (.nor, zU p0 p1 p2 false)), (3, 0, (.nor, zgb p0 p1 p2 v8)), (3, 6, (.nor, zib p0 p1 p2 v8 v12)), (3, 8, (.nor, zxb p0 p1 p2 v8 v12 v17))] (ob (o_b h36) (ob (o_b h37) (ob zZk ob0))) (by kernel_rfl))
         ·exact zP (g := zdb) g22 (y6 _ _ [(3, 50, 2, .q (xb true)), (3, 50, 6, .q (xb false))] [(3, 1000001, (.nor, zU p0 p1 p2 false)), (3, 0, (.nor, zgb p0 p1 p2 v8)), (3, 6, (.nor, zib p0 p1 p2 v8 v12)), (3, 8, (.nor, zxb p0 p1 p2 v8 v12 v17))] (ob (o_b h36) (ob (o_b h37) ob0)) (by kernel_rfl))
        ·exact zP (g := zdb) g21 (y6 _ _ [(3, 50, 2, .q (xb false))] [(3, 1000001, (.nor, zU p0 p1 p2 false)), (3, 0, (.nor, zgb p0 p1 p2 v8)), (3, 6, (.nor, zib p0 p1 p2 v8 v12)), (3, 8, (.nor, zxb p0 p1 p2 v8 v12 v17))] (ob (o_b h36) ob0) (by kernel_rfl))
end Go.AM

namespace Go.AM
open Go
def Ok {α : Type} (o : Option α) (Q : α → Prop) : Prop := ∃ a, o = some a ∧ Q a
section
variable {α β : Type}
theorem Ok.pure {a : α} {Q : α → Prop} (h : Q a) : Ok (some a) Q := ⟨a, rfl, h⟩
theorem Ok.bind {o : Option α} {g : α → Option β} {P : α → Prop} {Q : β → Prop} (h : Ok o P) (hg : ∀ a, P a → Ok (g a) Q) : Ok (o.bind g) Q := by
 obtain ⟨a, rfl, ha⟩ := h
 exact hg a ha
theorem Ok.mono {o : Option α} {P Q : α → Prop} (h : Ok o P) (hq : ∀ a, P a → Q a) : Ok o Q := by
 obtain ⟨a, ha, hp⟩ := h
 exact ⟨a, ha, hq a hp⟩
theorem Ok.cond {b : Bool} {x y : Option α} {Q : α → Prop} (ht : b = true → Ok x Q) (hf : b = false → Ok y Q) : Ok (cond b x y) Q := by
 cases b
 ·exact hf rfl
 ·exact ht rfl
theorem Ok.eq {o : Option α} {a : α} (h : Ok o (· = a)) : o = some a := by
 obtain ⟨b, hb, rfl⟩ := h
 exact hb
theorem Ok.imp {o : Option α} {a : α} {Q : α → Prop} (h : Ok o Q) (ho : o = some a) : Q a := by
 obtain ⟨b, hb, hq⟩ := h
 rw [ho] at hb; cases hb; exact hq
theorem Ok.iter {S R : Type} {f : S → Option (S ⊕ R)} {Q : R → Prop} (I : Nat → S → Prop) (n : Nat)
  (h : ∀ j s, j ≤ n → I j s → Ok (f s) (fun x => match x with
   | .inl s' => j < n ∧ I (j + 1) s'
   | .inr r => Q r)) {k : Nat} {s : S} (h0 : I 0 s) (hk : n < k) : Ok (Go.AM.iter f k s) Q := by
 suffices ∀ m j s, j + m = n → I j s → ∀ k, m < k → Ok (Go.AM.iter f k s) Q from this n 0 s (by omega) h0 k hk
 intro m
 induction m with
 | zero =>
  intro j s hj hi k hk
  obtain ⟨k, rfl⟩ : ∃ k', k = k' + 1 := ⟨k - 1, by omega⟩
  obtain ⟨x, hx, hq⟩ := h j s (by omega) hi
  cases x with
  | inl s' => exact absurd hq.1 (by omega)
  | inr r => exact ⟨r, by simp [Go.AM.iter, hx], hq⟩
 | succ m ih =>
  intro j s hj hi k hk
  obtain ⟨k, rfl⟩ : ∃ k', k = k' + 1 := ⟨k - 1, by omega⟩
  obtain ⟨x, hx, hq⟩ := h j s (by omega) hi
  cases x with
  | inl s' =>
   obtain ⟨r, hr, hq'⟩ := ih (j + 1) s' (by omega) hq.2 k (by omega)
   exact ⟨r, by simp [Go.AM.iter, hx, hr], hq'⟩
  | inr r => exact ⟨r, by simp [Go.AM.iter, hx], hq⟩
def Goes {S R : Type} (I : S → Prop) (Q : R → Prop) : S ⊕ R → Prop
 | .inl s => I s
 | .inr r => Q r
theorem Ok.count {S R : Type} {f : S → Option (S ⊕ R)} {Q : R → Prop} (n : Nat) (I : Nat → S → Prop)
  (next : ∀ j s, j < n → I j s → Ok (f s) (Goes (I (j + 1)) Q))
  (last : ∀ s, I n s → Ok (f s) (Goes (fun _ => False) Q)) {k : Nat} {s : S} (h0 : I 0 s) (hk : n < k) : Ok (Go.AM.iter f k s) Q := by
 refine Ok.iter I n (fun j s hj hi => ?_) h0 hk
 by_cases h : j < n
 ·refine (next j s h hi).mono fun x hx => ?_
  cases x with
  | inl s' => exact ⟨h, hx⟩
  | inr r => exact hx
 ·obtain rfl : j = n := by omega
  refine (last s hi).mono fun x hx => ?_
  cases x with
  | inl s' => exact hx.elim
  | inr r => exact hx
theorem Ok.every {α : Type} {f : Bool × Int → Option ((Bool × Int) ⊕ (Bool × Int))} (l : List α) (p : α → Prop)
  (next : ∀ acc (j : Nat) (h : j < l.length), Ok (f (acc, (j : Int))) (fun x => ∃ r, x = .inl (r, ((j + 1 : Nat) : Int)) ∧ (r = true ↔ acc = true ∧ p l[j])))
  (last : ∀ acc, f (acc, (l.length : Int)) = some (.inr (acc, (l.length : Int)))) {k : Nat} {acc : Bool} (hk : l.length < k) :
  Ok (Go.AM.iter f k (acc, 0)) (fun r => r.1 = true ↔ acc = true ∧ ∀ x ∈ l, p x) := by
 refine Ok.count l.length (fun j s => s.2 = (j : Int) ∧ (s.1 = true ↔ acc = true ∧ ∀ x ∈ l.take j, p x)) ?_ ?_ ⟨rfl, by simp⟩ hk
 ·rintro j ⟨a, i⟩ hj ⟨hi, ha⟩
  obtain rfl : i = (j : Int) := hi
  refine (next a j hj).mono ?_
  rintro x ⟨r, rfl, hr⟩
  refine ⟨rfl, hr.trans ?_⟩
  rw [List.take_succ_eq_append_getElem hj]
  simp only [List.mem_append, List.mem_singleton]
  rw [ha]
  constructor
  ·rintro ⟨⟨h1, h2⟩, h3⟩
   exact ⟨h1, fun x hx => hx.elim (h2 x) fun e => e ▸ h3⟩
  ·rintro ⟨h1, h2⟩
   exact ⟨⟨h1, fun x hx => h2 x (.inl hx)⟩, h2 _ (.inr rfl)⟩
 ·rintro ⟨a, i⟩ ⟨hi, ha⟩
  obtain rfl : i = (l.length : Int) := hi
  rw [last a]
  refine Ok.pure ?_
  simpa [Goes] using ha
end
theorem z7 {n : Int} (h1 : -9223372036854775808 ≤ n) (h2 : n ≤ 9223372036854775807) : w64 n = n := by
 have hd : w64 n = if n % 18446744073709551616 ≥ 9223372036854775808 then n % 18446744073709551616 - 18446744073709551616 else n % 18446744073709551616 := by
  show IntKind.wrap .i64 n = _
  have e : IntKind.wrap .i64 n = if (true && decide (n % 18446744073709551616 ≥ 9223372036854775808)) = true then n % 18446744073709551616 - 18446744073709551616 else n % 18446744073709551616 := rfl
  rw [e]
  simp
 rw [hd]
 split <;> omega
theorem zcx {α : Type} {l : List α} {i : Int} (h0 : 0 ≤ i) (h : i.toNat < l.length) : idx l i = some l[i.toNat] := by
 simp [idx, h0, List.getElem?_eq_getElem h]
theorem zDb {α : Type} {l : List α} {i : Nat} (h : i < l.length) : idx l (i : Int) = some l[i] := by
 simp [idx, List.getElem?_eq_getElem h]
theorem Ok.idx {α : Type} {l : List α} {i : Int} (h0 : 0 ≤ i) (h : i < l.length) : Ok (Go.AM.idx l i) (fun x => l[i.toNat]? = some x) :=
 ⟨l[i.toNat]'(by omega), zcx h0 (by omega), List.getElem?_eq_getElem (by omega)⟩
theorem zBs {n : Nat} (h : n ≤ 62) : zK 1 (n : Int) = 2 ^ n := by
 unfold zK
 have hm : min (n : Int).toNat 64 = n := by omega
 rw [hm, Int.one_mul, z7]
 ·have : (0 : Int) < 2 ^ n := Int.pow_pos (by omega)
  omega
 ·have h2 : (2 : Nat) ^ n ≤ 2 ^ 62 := Nat.pow_le_pow_right (by omega) h
  have h3 : ((2 ^ n : Nat) : Int) ≤ ((2 ^ 62 : Nat) : Int) := by exact_mod_cast h2
  have h4 : ((2 ^ n : Nat) : Int) = (2 : Int) ^ n := by push_cast; rfl
  rw [← h4]; omega
theorem zCm {x i : Nat} (hi : i < 64) (hx : x < 2 ^ 63) : (ztb (zY (x : Int) (i : Int)) 1 == 1) = x.testBit i := by
 have hm : min (i : Int).toNat 64 = i := by omega
 have hs : zY (x : Int) (i : Int) = ((x >>> i : Nat) : Int) := by
  unfold zY
  rw [hm, Nat.shiftRight_eq_div_pow]
  have : (2 : Int) ^ i = ((2 ^ i : Nat) : Int) := by push_cast; rfl
  rw [this, ← Int.ofNat_fdiv]
 have hle : x >>> i < 2 ^ 63 := by
  rw [Nat.shiftRight_eq_div_pow]
  exact Nat.lt_of_le_of_lt (Nat.div_le_self _ _) hx
 rw [hs]
 unfold ztb
 have hb : (BitVec.ofInt 64 ((x >>> i : Nat) : Int) &&& BitVec.ofInt 64 1).toNat = (x >>> i) % 2 := by
  rw [BitVec.toNat_and, BitVec.ofInt_natCast, BitVec.toNat_ofNat]
  have : (BitVec.ofInt 64 1).toNat = 1 := by decide
  rw [this, Nat.and_one_is_mod]
  omega
 rw [hb, z7 (by omega) (by omega), Nat.testBit_eq_decide_div_mod_eq, Nat.shiftRight_eq_div_pow]
 generalize x / 2 ^ i % 2 = y at *
 cases h : decide (y = 1) <;> simp at h ⊢ <;> omega
def dif (x y : Nat) : Nat := x &&& (2 ^ 64 - 1 - y)
theorem zLs {x y : Nat} (hx : x < 2 ^ 63) (hy : y < 2 ^ 63) : z6i (x : Int) (y : Int) = ((dif x y : Nat) : Int) ∧ dif x y < 2 ^ 63 ∧ dif x y ≤ x ∧ ∀ i, (dif x y).testBit i = (x.testBit i && !y.testBit i) := by
 unfold dif
 have hb : (BitVec.ofInt 64 (x : Int) &&& ~~~ BitVec.ofInt 64 (y : Int)).toNat = x &&& (2 ^ 64 - 1 - y) := by
  rw [BitVec.toNat_and, BitVec.toNat_not, BitVec.ofInt_natCast, BitVec.ofInt_natCast, BitVec.toNat_ofNat, BitVec.toNat_ofNat, Nat.mod_eq_of_lt (by omega), Nat.mod_eq_of_lt (by omega)]
 refine ⟨?_, ?_, ?_, ?_⟩
 ·unfold z6i
  rw [hb, z7]
  ·omega
  ·have : x &&& (2 ^ 64 - 1 - y) ≤ x := Nat.and_le_left
   omega
 ·exact Nat.lt_of_le_of_lt Nat.and_le_left hx
 ·exact Nat.and_le_left
 ·intro i
  rw [Nat.testBit_and]
  have h1 : 2 ^ 64 - 1 - y = 2 ^ 64 - (y + 1) := by omega
  rw [h1, Nat.testBit_two_pow_sub_succ (by omega)]
  cases hxi : x.testBit i with
  | false => simp
  | true =>
   have : i < 63 := by
    apply Classical.byContradiction
    intro hn
    have : x < 2 ^ i := Nat.lt_of_lt_of_le hx (Nat.pow_le_pow_right (by omega) (by omega))
    rw [Nat.testBit_lt_two_pow this] at hxi
    cases hxi
   simp; omega
open Classical in
theorem zIu {κ ν : Type} {q : κ → κ → Bool} (hq : ∀ a b, q a b = true ↔ a = b) (k k' : κ) (v : ν) : ∀ m, z8 q k' (mset q k v m) = if k' = k then some v else z8 q k' m
 | [] => by
  simp only [mset, z8]
  by_cases h : k' = k
  ·rw [(hq k' k).2 h, if_pos h]; rfl
  ·have : q k' k = false := by cases hb : q k' k; rfl; exact absurd ((hq _ _).1 hb) h
   rw [this, if_neg h]; rfl
 | p :: t => by
  have ih := zIu hq k k' v t
  simp only [mset]
  cases hk : q k p.1 with
  | true =>
   have hk' := (hq _ _).1 hk
   simp only [cond_true, z8]
   by_cases h : k' = k
   ·rw [if_pos h, h, hk]; rfl
   ·have : q k' p.1 = false := by cases hb : q k' p.1; rfl; exact absurd ((hq _ _).1 hb) (by rw [← hk']; exact h)
    rw [this, if_neg h]; rfl
  | false =>
   simp only [cond_false, z8]
   cases hp : q k' p.1 with
   | true =>
    by_cases h : k' = k
    ·rw [h, hk] at hp; cases hp
    ·rw [if_neg h]; rfl
   | false => exact ih
theorem zVo (f g : Nat → Bool) : ∀ n i, eqB f g i n = true ↔ ∀ j, i ≤ j → j < i + n → f j = g j
 | 0, i => by simp [eqB]; omega
 | n + 1, i => by
  simp only [eqB, Bool.and_eq_true, zVo f g n (i + 1), beq_iff_eq]
  constructor
  ·rintro ⟨h0, h⟩ j h1 h2
   by_cases hj : j = i
   ·rw [hj]; exact h0
   ·exact h j (by omega) (by omega)
  ·intro h
   exact ⟨h i (by omega) (by omega), fun j h1 h2 => h j (by omega) (by omega)⟩
end Go.AM
namespace Go.AM
open Go
section
variable {α β : Type}
theorem z7n {n : Nat} (h : n ≤ 1000000) : decide (n ≤ LIM) = true := decide_eq_true (by show _ ≤ 4398046511104; omega)
end
end Go.AM
namespace Go.AM
open Go
section
variable {α β : Type}
theorem z4B {x y : Nat} (hx : x < 2 ^ 63) (hy : y < 2 ^ 63) : or64 (x : Int) (y : Int) = ((x ||| y : Nat) : Int) := by
 unfold or64
 have hb : (BitVec.ofInt 64 (x : Int) ||| BitVec.ofInt 64 (y : Int)).toNat = x ||| y := by
  rw [BitVec.toNat_or, BitVec.ofInt_natCast, BitVec.ofInt_natCast, BitVec.toNat_ofNat, BitVec.toNat_ofNat, Nat.mod_eq_of_lt (by omega), Nat.mod_eq_of_lt (by omega)]
 have h2 : x ||| y < 2 ^ 63 := Nat.or_lt_two_pow hx hy
 rw [hb, z7 (by omega) (by omega)]
end
end Go.AM
set_option linter.unusedVariables false
namespace Go.AM.Sl
open Go Go.AM
theorem z8b (c x : Bool) : cond c (some x) (some false) = some (c && x) := by cases c <;> rfl
theorem zhb {j n : Nat} (h : j < n) (hn : n < 9223372036854775808) : w64 ((j : Int) + 1) = ((j + 1 : Nat) : Int) := by
 rw [z7 (by omega) (by omega)]; push_cast; rfl
theorem zgh {n : Nat} (hn : n < 9223372036854775808) : w64 ((n : Int) - 1) = (n : Int) - 1 := z7 (by omega) (by omega)
theorem zHb {α : Type} {j : Nat} {l : List α} (h : j < l.length) : decide ((j : Int) < (l.length : Int)) = true := by simp; omega
theorem zOm {α : Type} {l : List α} : decide ((l.length : Int) < (l.length : Int)) = false := by simp
theorem Ok.everyI {α : Type} {f : Bool × Int → Option ((Bool × Int) ⊕ (Bool × Int))} (l : List α) (p : Nat → α → Prop)
  (next : ∀ acc (j : Nat) (h : j < l.length), Ok (f (acc, (j : Int))) (fun x => ∃ r, x = .inl (r, ((j + 1 : Nat) : Int)) ∧ (r = true ↔ acc = true ∧ p j l[j])))
  (last : ∀ acc, f (acc, (l.length : Int)) = some (.inr (acc, (l.length : Int)))) {k : Nat} {acc : Bool} (hk : l.length < k) :
  Ok (Go.AM.iter f k (acc, 0)) (fun r => r.1 = true ↔ acc = true ∧ ∀ j (h : j < l.length), p j l[j]) := by
 refine Ok.count l.length (fun j s => s.2 = (j : Int) ∧ (s.1 = true ↔ acc = true ∧ ∀ i (h : i < l.length), i < j → p i l[i])) ?_ ?_ ⟨rfl, by simp⟩ hk
 ·rintro j ⟨a, i⟩ hj ⟨hi, ha⟩
  obtain rfl : i = (j : Int) := hi
  refine (next a j hj).mono ?_
  rintro x ⟨r, rfl, hr⟩
  refine ⟨rfl, hr.trans ?_⟩
  rw [ha]
  constructor
  ·rintro ⟨⟨h1, h2⟩, h3⟩
   refine ⟨h1, fun i h hij => ?_⟩
   by_cases e : i = j
   ·subst e; exact h3
   ·exact h2 i h (by omega)
  ·rintro ⟨h1, h2⟩
   exact ⟨⟨h1, fun i h hij => h2 i h (by omega)⟩, h2 j hj (by omega)⟩
 ·rintro ⟨a, i⟩ ⟨hi, ha⟩
  obtain rfl : i = (l.length : Int) := hi
  rw [last a]
  refine Ok.pure ?_
  show a = true ↔ _
  rw [ha]
  exact ⟨fun h => ⟨h.1, fun i hi => h.2 i hi hi⟩, fun h => ⟨h.1, fun i hi _ => h.2 i hi⟩⟩
def ex (f : Nat → Nat) : Nat → List Nat
 | 0 => []
 | m + 1 => List.replicate (f m) m ++ ex f m
def hi (f : Nat → Nat) (m : Nat) : Nat → List Nat
 | 0 => []
 | d + 1 => List.replicate (f (m + d)) (m + d) ++ hi f m d
theorem z3t (f : Nat → Nat) (m : Nat) : ∀ d, hi f m (d + 1) = hi f (m + 1) d ++ List.replicate (f m) m
 | 0 => by simp [hi]
 | d + 1 => by
  have ih := z3t f m d
  rw [hi, ih, hi]
  have : m + 1 + d = m + (d + 1) := by omega
  rw [this, List.append_assoc]
theorem z4p {f g : Nat → Nat} {m : Nat} : ∀ {d}, (∀ j, m ≤ j → j < m + d → f j = g j) → hi f m d = hi g m d
 | 0, _ => rfl
 | d + 1, h => by
  rw [hi, hi, h (m + d) (by omega) (by omega), z4p fun j h1 h2 => h j h1 (by omega)]
theorem zGu {f g : Nat → Nat} : ∀ {n}, (∀ j, j < n → f j = g j) → ex f n = ex g n
 | 0, _ => rfl
 | n + 1, h => by rw [ex, ex, h n (by omega), zGu fun j hj => h j (by omega)]
theorem zjv (f : Nat → Nat) : ∀ n, hi f 0 n = ex f n
 | 0 => rfl
 | n + 1 => by rw [hi, ex, zjv f n]; simp
theorem zlt {f : Nat → Nat} : ∀ {n}, ex f n = [] ↔ ∀ j, j < n → f j = 0
 | 0 => by simp [ex]
 | n + 1 => by
  rw [ex, List.append_eq_nil_iff, zlt, List.replicate_eq_nil_iff]
  constructor
  ·rintro ⟨h1, h2⟩ j hj
   by_cases e : j = n
   ·rw [e]; exact h1
   ·exact h2 j (by omega)
  ·intro h
   exact ⟨h n (by omega), fun j hj => h j (by omega)⟩
theorem zEw {f : Nat → Nat} {x : Nat} : ∀ {n}, x ∈ ex f n → x < n ∧ 0 < f x
 | 0, h => by simp [ex] at h
 | n + 1, h => by
  rw [ex, List.mem_append, List.mem_replicate] at h
  rcases h with ⟨h1, rfl⟩ | h
  ·exact ⟨by omega, by omega⟩
  ·have := zEw h
   exact ⟨by omega, this.2⟩
theorem zKo {f : Nat → Nat} {b : Nat} : ∀ {n}, (∀ j, j < n → f j ≤ b) → (ex f n).length ≤ b * n
 | 0, _ => by simp [ex]
 | n + 1, h => by
  have := zKo (n := n) fun j hj => h j (by omega)
  have := h n (by omega)
  rw [ex, List.length_append, List.length_replicate, Nat.mul_succ]
  omega
theorem zWx (r c m : Nat) (t : List Nat) : (List.replicate c m ++ t).drop r = List.replicate (c - r) m ++ t.drop (r - c) := by
 rw [List.drop_append, List.drop_replicate, List.length_replicate]
theorem zty (r c m : Nat) (t : List Nat) : (List.replicate c m ++ t).take r = List.replicate (min r c) m ++ t.take (r - c) := by
 rw [List.take_append, List.take_replicate, List.length_replicate]
def topF (b : Nat → Nat) (far : Nat → Int) : Nat → Int
 | 0 => 0
 | j + 1 => if 0 < b j then far j else topF b far j
theorem zkv {b : Nat → Nat} {far : Nat → Int} {x : Nat} {t : List Nat} : ∀ {n}, ex b n = x :: t → topF b far n = far x
 | 0, h => by simp [ex] at h
 | n + 1, h => by
  rw [ex] at h
  rw [topF]
  by_cases hb : 0 < b n
  ·rw [if_pos hb]
   obtain ⟨c, hc⟩ : ∃ c, b n = c + 1 := ⟨b n - 1, by omega⟩
   rw [hc, List.replicate_succ, List.cons_append] at h
   injection h with h1 h2
   rw [h1]
  ·rw [if_neg hb]
   have : b n = 0 := by omega
   rw [this] at h
   exact zkv (by simpa using h)
def wk (C : Nat) (far : Nat → Int) : Nat → List Nat → Int
 | _, [] => 0
 | 0, x :: t => 2 * far x + wk C far (C - 1) t
 | r + 1, _ :: t => wk C far r t
theorem z1u (C : Nat) (far : Nat → Int) : ∀ (r : Nat) (l : List Nat), wk C far r l = wk C far 0 (l.drop r)
 | 0, _ => by simp
 | r + 1, [] => by simp [wk]
 | r + 1, x :: t => by rw [wk, List.drop_succ_cons, z1u C far r t]
theorem zUy {C : Nat} (hC : 0 < C) (far : Nat → Int) (x : Nat) (t : List Nat) : wk C far 0 (x :: t) = 2 * far x + wk C far 0 ((x :: t).drop C) := by
 rw [wk, z1u C far (C - 1) t]
 obtain ⟨c, rfl⟩ : ∃ c, C = c + 1 := ⟨C - 1, by omega⟩
 simp
theorem zCq {C : Nat} {far : Nat → Int} {b : Int} (hb : 0 ≤ b) : ∀ (l : List Nat) (r : Nat), (∀ x ∈ l, 0 ≤ far x ∧ far x ≤ b) → 0 ≤ wk C far r l ∧ wk C far r l ≤ 2 * b * l.length
 | [], r, _ => by cases r <;> simp [wk]
 | x :: t, 0, h => by
  have := zCq (C := C) hb t (C - 1) fun y hy => h y (by simp [hy])
  have hx := h x (by simp)
  rw [wk, List.length_cons]
  push_cast
  rw [Int.mul_add]
  omega
 | x :: t, r + 1, h => by
  have := zCq (C := C) hb t r fun y hy => h y (by simp [hy])
  rw [wk, List.length_cons]
  push_cast
  rw [Int.mul_add]
  omega
abbrev nF (f : zh) : Nat := f.Far.1.length
abbrev nS (f : zh) : Nat := f.Slips.1.length
def fr (f : zh) (i : Nat) : Int := (f.Far.1[i]?).getD 0
theorem zDB {f : zh} {i : Nat} (h : i < nF f) : f.Far.1[i] = fr f i := by
 unfold fr
 rw [List.getElem?_eq_getElem h]; rfl
theorem zYy {f : zh} {i : Nat} (h : i < nF f) : idx f.Far.1 (i : Int) = some (fr f i) := by rw [zDb h, zDB h]
def frB (f : zh) : Nat → Int
 | 0 => 0
 | i + 1 => fr f i
def sh (l : List zj) (i : Nat) : Int := ((l[i]?).map (·.Shelf)).getD 0
def shB (l : List zj) : Nat → Int
 | 0 => -1
 | i + 1 => sh l i
theorem zwj {l : List zj} {i : Nat} (h : i < l.length) : l[i].Shelf = sh l i := by
 unfold sh
 rw [List.getElem?_eq_getElem h]; rfl
def z7h (lo hi : Int) (s : zD) : Prop := lo ≤ s.Low ∧ s.Low ≤ s.High ∧ s.High ≤ hi
def zqb (n : Nat) (l : List zj) : Prop := ∀ j (h : j < l.length), (shB l j + 1 ≤ l[j].Shelf ∧ l[j].Shelf ≤ (n : Int) - 1) ∧ (1 ≤ l[j].Many ∧ l[j].Many ≤ 20)
def zhj (n : Nat) (s : zJ) : Prop := ((0 ≤ s.Until ∧ s.Until ≤ 100000) ∧ 0 < s.Lines.1.length) ∧ zqb n s.Lines.1
structure Fine (f : zh) : Prop where
 nfar : 1 ≤ nF f ∧ nF f ≤ 12
 npick : f.Pick.1.length = nF f
 step : z7h 1 10 f.Step
 carry : 1 ≤ f.Carry ∧ f.Carry ≤ 20
 nslips : nS f ≤ 9
 far : ∀ i, i < nF f → frB f i ≤ fr f i ∧ fr f i ≤ 500
 pick : ∀ i (h : i < f.Pick.1.length), z7h 0 300 f.Pick.1[i]
 slips : ∀ i (h : i < nS f), zhj (nF f) f.Slips.1[i]
structure zDc (f : zh) : Prop where
 far : nF f < 9223372036854775808
 pick : f.Pick.1.length < 9223372036854775808
 slips : nS f < 9223372036854775808
 lines : ∀ s ∈ f.Slips.1, s.Lines.1.length < 9223372036854775808
structure Fuel (k : Nat) (f : zh) : Prop where
 k0 : 5000 < k
 far : nF f < k
 pick : f.Pick.1.length < k
 slips : nS f < k
 lines : ∀ s ∈ f.Slips.1, s.Lines.1.length < k
theorem zFb (k : Nat) (a b c : Int) : zOb k a b c = some (decide (b ≤ a) && decide (a ≤ c)) := by
 simp only [zOb, z8b]
theorem z7C (k : Nat) (a b c : Int) : zVb k a b c = some (decide (b ≤ a) && decide (a ≤ c)) := by
 simp only [zVb, z8b]
theorem zPg (k : Nat) (s : zD) (a b : Int) : zrg k s a b = some (decide (a ≤ s.Low) && (decide (s.Low ≤ s.High) && decide (s.High ≤ b))) := by
 simp only [zrg, z8b]
theorem zyn (k : Nat) (f : zh) : Ok (zlg k f) (fun r => r = true ↔ (1 ≤ nF f ∧ nF f ≤ 12) ∧ f.Pick.1.length = nF f ∧ z7h 1 10 f.Step ∧ (1 ≤ f.Carry ∧ f.Carry ≤ 20) ∧ nS f ≤ 9) := by
 simp only [zlg, zFb, zPg, Option.bind_some, z8b]
 refine Ok.pure ?_
 simp only [Bool.and_eq_true, decide_eq_true_eq, beq_iff_eq, nF, nS, z7h]
 omega
theorem zEq {k : Nat} {f : zh} (hs : zDc f) (hk : Fuel k f) (acc : Bool) : Ok (iter (fun s => zLe k f s.1 s.2.1 s.2.2) k (acc, 0, 0)) (fun r => r.1 = true ↔ acc = true ∧ ∀ i, i < nF f → frB f i ≤ fr f i ∧ fr f i ≤ 500) := by
 refine Ok.count (nF f) (fun j s => s.2.2 = (j : Int) ∧ s.2.1 = frB f j ∧ (s.1 = true ↔ acc = true ∧ ∀ i, i < j → frB f i ≤ fr f i ∧ fr f i ≤ 500)) ?_ ?_ ⟨rfl, rfl, by simp⟩ hk.far
 ·rintro j ⟨a, d, i⟩ hj ⟨hi, hd, ha⟩
  obtain rfl : i = (j : Int) := hi
  obtain rfl : d = frB f j := hd
  simp only [zLe, zHh, zHb hj, cond_true, zYy hj, zFb, Option.bind_some, z8b, zhb hj hs.far]
  refine Ok.pure ⟨rfl, rfl, ?_⟩
  simp only [Bool.and_eq_true, decide_eq_true_eq]
  have ha' : a = true ↔ acc = true ∧ ∀ i, i < j → frB f i ≤ fr f i ∧ fr f i ≤ 500 := ha
  rw [ha']
  constructor
  ·rintro ⟨⟨h1, h2⟩, h3⟩
   refine ⟨h1, fun i hij => ?_⟩
   by_cases e : i = j
   ·subst e; exact h3
   ·exact h2 i (by omega)
  ·rintro ⟨h1, h2⟩
   exact ⟨⟨h1, fun i hij => h2 i (by omega)⟩, h2 j (by omega)⟩
 ·rintro ⟨a, d, i⟩ ⟨hi, hd, ha⟩
  obtain rfl : i = (nF f : Int) := hi
  simp only [zLe, zOm, cond_false]
  exact Ok.pure ha
theorem zJq {k : Nat} {f : zh} (hs : zDc f) (hk : Fuel k f) (v : Bool × Int × Int) (acc : Bool) : Ok (iter (fun s => zJe k f v s.1 s.2) k (acc, 0)) (fun r => r.1 = true ↔ acc = true ∧ ∀ i (h : i < f.Pick.1.length), z7h 0 300 f.Pick.1[i]) := by
 refine Ok.everyI f.Pick.1 (fun _ s => z7h 0 300 s) (fun a j hj => ?_) (fun a => by simp [zJe]) hk.pick
 simp only [zJe, zLh, zHb hj, cond_true, zDb hj, zPg, Option.bind_some, z8b]
 refine Ok.pure ⟨_, by rw [zhb hj hs.pick], ?_⟩
 simp only [Bool.and_eq_true, decide_eq_true_eq, z7h]
theorem zfs {l : List zj} : ∀ {j}, j ≤ l.length → (∀ i (h : i < l.length), i < j → shB l i + 1 ≤ l[i].Shelf) → -1 ≤ shB l j
 | 0, _, _ => by simp [shB]
 | j + 1, hj, h => by
  have ih := zfs (j := j) (by omega) fun i hi hij => h i hi (by omega)
  have := h j (by omega) (by omega)
  rw [zwj (by omega)] at this
  simp only [shB]
  omega
theorem zlq {n : Nat} {l : List zj} (h : zqb n l) : ∀ i, i < l.length → (i : Int) ≤ sh l i
 | 0, hi => by
  have := (h 0 hi).1.1
  rw [zwj hi] at this
  simpa [shB] using this
 | i + 1, hi => by
  have ih := zlq h i (by omega)
  have := (h (i + 1) hi).1.1
  rw [zwj hi] at this
  simp only [shB] at this
  push_cast
  omega
theorem zSl {n : Nat} {l : List zj} (h : zqb n l) : l.length ≤ n := by
 cases hl : l.length with
 | zero => omega
 | succ m =>
  have h1 := zlq h m (by omega)
  have h2 := (h m (by omega)).1.2
  rw [zwj (by omega)] at h2
  omega
theorem zQw {k : Nat} {f : zh} (hs : zDc f) (v3 : Bool × Int × Int) (v5 : Bool × Int) (i0 : Int) (s : zJ) (hl : s.Lines.1.length < 9223372036854775808) (hlk : s.Lines.1.length < k) (acc : Bool) (hn : acc = true → nF f ≤ 12) :
  Ok (iter (fun t => z8d k f v3 v5 i0 s t.1 t.2.1 t.2.2) k (acc, (-1), 0)) (fun r => r.1 = true ↔ acc = true ∧ zqb (nF f) s.Lines.1) := by
 let P := fun i (h : i < s.Lines.1.length) => (shB s.Lines.1 i + 1 ≤ s.Lines.1[i].Shelf ∧ s.Lines.1[i].Shelf ≤ (nF f : Int) - 1) ∧ (1 ≤ s.Lines.1[i].Many ∧ s.Lines.1[i].Many ≤ 20)
 refine Ok.count s.Lines.1.length (fun j t => t.2.2 = (j : Int) ∧ t.2.1 = shB s.Lines.1 j ∧ (t.1 = true ↔ acc = true ∧ ∀ i (h : i < s.Lines.1.length), i < j → P i h)) ?_ ?_ ⟨rfl, rfl, by simp⟩ hlk
 ·rintro j ⟨a, d, i⟩ hj ⟨hi, hd, ha⟩
  obtain rfl : i = (j : Int) := hi
  obtain rfl : d = shB s.Lines.1 j := hd
  simp only [z8d, zkh, zHb hj, cond_true, zDb hj, zFb, Option.bind_some, z8b, zhb hj hl, zgh hs.far]
  refine Ok.pure ⟨rfl, by rw [zwj hj]; rfl, ?_⟩
  simp only [Bool.and_eq_true, decide_eq_true_eq]
  cases a with
  | false =>
   constructor
   ·rintro ⟨h, _⟩; cases h
   ·rintro ⟨h1, h2⟩
    exact absurd (ha.2 ⟨h1, fun i h hij => h2 i h (by omega)⟩) (by simp)
  | true =>
   obtain ⟨h1, h2⟩ := ha.1 rfl
   have hw : w64 (shB s.Lines.1 j + 1) = shB s.Lines.1 j + 1 := by
    have hlow := zfs (l := s.Lines.1) (j := j) (by omega) fun i hi hij => (h2 i hi hij).1.1
    have hn := hn h1
    have hup : shB s.Lines.1 j ≤ 12 := by
     cases j with
     | zero => simp [shB]
     | succ j =>
      have := (h2 j (by omega) (by omega)).1.2
      rw [zwj (by omega)] at this
      simp only [shB]
      have : ((nF f : Nat) : Int) ≤ 12 := by exact_mod_cast hn
      omega
    exact z7 (by omega) (by omega)
   rw [hw]
   constructor
   ·rintro ⟨_, h3⟩
    refine ⟨h1, fun i h hij => ?_⟩
    by_cases e : i = j
    ·subst e; exact h3
    ·exact h2 i h (by omega)
   ·rintro ⟨_, h3⟩
    exact ⟨rfl, h3 j hj (by omega)⟩
 ·rintro ⟨a, d, i⟩ ⟨hi, hd, ha⟩
  obtain rfl : i = (s.Lines.1.length : Int) := hi
  simp only [z8d, zOm, cond_false]
  refine Ok.pure ?_
  show a = true ↔ _
  have ha' : a = true ↔ acc = true ∧ ∀ i (h : i < s.Lines.1.length), i < s.Lines.1.length → P i h := ha
  rw [ha']
  exact ⟨fun h => ⟨h.1, fun i hi => h.2 i hi hi⟩, fun h => ⟨h.1, fun i hi _ => h.2 i hi⟩⟩
theorem zGq {k : Nat} {f : zh} (hs : zDc f) (hk : Fuel k f) (v3 : Bool × Int × Int) (v5 : Bool × Int) (acc : Bool) (hn : acc = true → nF f ≤ 12) : Ok (iter (fun s => zMe k f v3 v5 s.1 s.2) k (acc, 0)) (fun r => r.1 = true ↔ acc = true ∧ ∀ i (h : i < nS f), zhj (nF f) f.Slips.1[i]) := by
 refine Ok.count (nS f) (fun j s => s.2 = (j : Int) ∧ (s.1 = true ↔ acc = true ∧ ∀ i (h : i < nS f), i < j → zhj (nF f) f.Slips.1[i])) ?_ ?_ ⟨rfl, by simp⟩ hk.slips
 ·rintro j ⟨a, i⟩ hj ⟨hi, ha⟩
  obtain rfl : i = (j : Int) := hi
  have hm := List.getElem_mem hj
  simp only [zMe, zlh, zHb hj, cond_true, zDb hj, zFb, Option.bind_some, z8b]
  refine Ok.bind (zQw hs v3 v5 _ _ (hs.lines _ hm) (hk.lines _ hm) _ fun h => ?_) fun r hr => ?_
  ·simp only [Bool.and_eq_true] at h
   exact hn (ha.1 h.1).1
  ·refine Ok.pure ⟨by rw [zhb hj hs.slips], ?_⟩
   show r.1 = true ↔ _
   rw [hr]
   simp only [Bool.and_eq_true, decide_eq_true_eq]
   have ha' : a = true ↔ acc = true ∧ ∀ i (h : i < nS f), i < j → zhj (nF f) f.Slips.1[i] := ha
   rw [ha']
   constructor
   ·rintro ⟨⟨⟨h1, h5⟩, h2, h3⟩, h4⟩
    refine ⟨h1, fun i h hij => ?_⟩
    by_cases e : i = j
    ·subst e; exact ⟨⟨h2, by omega⟩, h4⟩
    ·exact h5 i h (by omega)
   ·rintro ⟨h1, h2⟩
    obtain ⟨⟨h3, h4⟩, h5⟩ := h2 j hj (by omega)
    exact ⟨⟨⟨h1, fun i h hij => h2 i h (by omega)⟩, h3, by omega⟩, h5⟩
 ·rintro ⟨a, i⟩ ⟨hi, ha⟩
  obtain rfl : i = (nS f : Int) := hi
  simp only [zMe, zOm, cond_false]
  refine Ok.pure ?_
  show a = true ↔ _
  have ha' : a = true ↔ acc = true ∧ ∀ i (h : i < nS f), i < nS f → zhj (nF f) f.Slips.1[i] := ha
  rw [ha']
  exact ⟨fun h => ⟨h.1, fun i hi => h.2 i hi hi⟩, fun h => ⟨h.1, fun i hi _ => h.2 i hi⟩⟩
open Classical in
theorem zel {k : Nat} {f : zh} (hs : zDc f) (hk : Fuel k f) : Ok (zYf k f) (fun r => r = if Fine f then 0 else 30) := by
 unfold zYf
 refine Ok.bind (zyn k f) fun v1 h1 => ?_
 refine Ok.bind (zEq hs hk v1) fun v3 h3 => ?_
 refine Ok.bind (zJq hs hk v3 v3.1) fun v5 h5 => ?_
 refine Ok.bind (zGq hs hk v3 v5 v5.1 fun h => ?_) fun v7 h7 => ?_
 ·exact (h1.1 (h3.1 (h5.1 h).1).1).1.2
 have fin : v7.1 = true ↔ Fine f := by
  rw [h7, h5, h3, h1]
  exact ⟨fun h => ⟨h.1.1.1.1, h.1.1.1.2.1, h.1.1.1.2.2.1, h.1.1.1.2.2.2.1, h.1.1.1.2.2.2.2, h.1.1.2, h.1.2, h.2⟩, fun h => ⟨⟨⟨⟨h.nfar, h.npick, h.step, h.carry, h.nslips⟩, h.far⟩, h.pick⟩, h.slips⟩⟩
 refine Ok.cond (fun hb => Ok.pure ?_) (fun hb => Ok.pure ?_)
 ·rw [if_neg]
  intro hF
  rw [fin.2 hF] at hb
  cases hb
 ·rw [if_pos (fin.1 (by simpa using hb))]
theorem zdx {f : zh} (h : Fine f) : ∀ i, i < nF f → 0 ≤ fr f i
 | 0, hi => by have := (h.far 0 hi).1; simpa [frB] using this
 | i + 1, hi => by
  have := (h.far (i + 1) hi).1
  have ih := zdx h i (by omega)
  simp only [frB] at this
  omega
theorem z1o (f g : Nat → Int) : ∀ n i, eqI f g i n = true ↔ ∀ j, i ≤ j → j < i + n → f j = g j
 | 0, i => by simp [eqI]; omega
 | n + 1, i => by
  simp only [eqI, Bool.and_eq_true, z1o f g n (i + 1), beq_iff_eq]
  constructor
  ·rintro ⟨h0, h⟩ j h1 h2
   by_cases hj : j = i
   ·rw [hj]; exact h0
   ·exact h j (by omega) (by omega)
  ·intro h
   exact ⟨h i (by omega) (by omega), fun j h1 h2 => h j (by omega) (by omega)⟩
def put1 (g : Nat → Nat) (x : zj) : Nat → Nat := fun j => if j = x.Shelf.toNat then x.Many.toNat else g j
def pc (l : List zj) : Nat → Nat := l.foldl put1 fun _ => 0
theorem z8o (l : List zj) (x : zj) : pc (l ++ [x]) = put1 (pc l) x := by simp [pc]
def slp (f : zh) (i : Nat) : zJ := (f.Slips.1[i]?).getD ⟨([], .nil), 0⟩
theorem zkt {f : zh} {i : Nat} (h : i < nS f) : f.Slips.1[i] = slp f i := by
 unfold slp
 rw [List.getElem?_eq_getElem h]; rfl
theorem zez {f : zh} {i : Nat} (h : i < nS f) : idx f.Slips.1 (i : Int) = some (slp f i) := by rw [zDb h, zkt h]
theorem zcn {f : zh} (hF : Fine f) {i : Nat} (h : i < nS f) : zhj (nF f) (slp f i) := by
 have := hF.slips i h
 rwa [zkt h] at this
abbrev lns (f : zh) (i : Nat) : List zj := (slp f i).Lines.1
theorem zZo {n : Nat} {l : List zj} (h : zqb n l) {i : Nat} (hi : i < l.length) : 0 ≤ l[i].Shelf ∧ l[i].Shelf < n := by
 have h1 := zlq h i hi
 rw [← zwj hi] at h1
 have := (h i hi).1.2
 omega
theorem zzr {n : Nat} {l : List zj} (h : zqb n l) : (∀ j, pc l j ≤ 20) ∧ ∀ j, n ≤ j → pc l j = 0 := by
 have key : ∀ m, m ≤ l.length → (∀ j, pc (l.take m) j ≤ 20) ∧ ∀ j, n ≤ j → pc (l.take m) j = 0 := by
  intro m
  induction m with
  | zero => intro _; simp [pc]
  | succ m ih =>
   intro hm
   obtain ⟨h1, h2⟩ := ih (by omega)
   rw [List.take_succ_eq_append_getElem (by omega), z8o]
   have hl := h m (by omega)
   have hs := zZo h (i := m) (by omega)
   refine ⟨fun j => ?_, fun j hj => ?_⟩
   ·unfold put1
    split
    ·omega
    ·exact h1 j
   ·unfold put1
    rw [if_neg (by omega)]
    exact h2 j hj
 have := key l.length (Nat.le_refl _)
 rwa [List.take_length] at this
theorem zus {k : Nat} {f : zh} (hs : zDc f) (hk : Fuel k f) (hF : Fine f) {i : Nat} (hi : i < nS f) : Ok (zTc k ⟨f⟩ (i : Int)) (fun g => ∀ j, g j = ((pc (lns f i) j : Nat) : Int)) := by
 unfold zTc
 have hm := List.getElem_mem hi
 rw [zkt hi] at hm
 have hfine := zcn hF hi
 simp only [zez hi, Option.bind_some]
 refine Ok.bind (P := fun v : Int × (Nat → Int) => ∀ j, v.2 j = ((pc (lns f i) j : Nat) : Int)) ?_ fun v hv => Ok.pure hv
 refine Ok.count (lns f i).length (fun j s => s.1 = (j : Int) ∧ ∀ t, s.2 t = ((pc ((lns f i).take j) t : Nat) : Int)) ?_ ?_ ⟨rfl, by simp [pc]⟩ (hk.lines _ hm)
 ·rintro j ⟨a, g⟩ hj ⟨ha, hg⟩
  obtain rfl : a = (j : Int) := ha
  have hl : (shB (lns f i) j + 1 ≤ (lns f i)[j].Shelf ∧ _) ∧ (1 ≤ (lns f i)[j].Many ∧ (lns f i)[j].Many ≤ 20) := hfine.2 j hj
  have hsh : 0 ≤ (lns f i)[j].Shelf ∧ (lns f i)[j].Shelf < nF f := zZo hfine.2 hj
  have hn := hF.nfar.2
  simp only [zOc, zHb hj, cond_true, zDb hj, Option.bind_some]
  have e : (decide (0 ≤ (lns f i)[j].Shelf) && decide ((lns f i)[j].Shelf < 12)) = true := by
   simp only [Bool.and_eq_true, decide_eq_true_eq]; omega
  rw [e, cond_true]
  refine Ok.pure ⟨zhb hj (hs.lines _ hm), fun t => ?_⟩
  rw [List.take_succ_eq_append_getElem hj, z8o]
  simp only [upd, put1]
  have hg' := hg t
  simp only at hg'
  split
  ·omega
  ·exact hg'
 ·rintro ⟨a, g⟩ ⟨ha, hg⟩
  obtain rfl : a = ((lns f i).length : Int) := ha
  simp only [zOc, zOm, cond_false]
  refine Ok.pure fun t => ?_
  have := hg t
  rwa [List.take_length] at this
def zdi (f : zh) (i : Nat) : Int := wk f.Carry.toNat (fr f) 0 (ex (pc (lns f i)) (nF f))
theorem zEz {f : zh} (hF : Fine f) {i : Nat} (h : i < nF f) : 0 ≤ fr f i ∧ fr f i ≤ 500 := ⟨zdx hF i h, (hF.far i h).2⟩
theorem zQz {f : zh} (hF : Fine f) {g : Nat → Nat} : ∀ x ∈ ex g (nF f), 0 ≤ fr f x ∧ fr f x ≤ 500 := fun x hx => zEz hF (zEw hx).1
theorem zzv {f : zh} (hF : Fine f) {i : Nat} (hi : i < nS f) : 0 ≤ zdi f i ∧ zdi f i ≤ 240000 := by
 have h1 := zzr (zcn hF hi).2
 have h2 := zKo (f := pc (lns f i)) (b := 20) (n := nF f) fun j _ => h1.1 j
 have h3 := zCq (C := f.Carry.toNat) (b := 500) (by omega) (ex (pc (lns f i)) (nF f)) 0 (zQz hF)
 have h4 := hF.nfar.2
 unfold zdi
 have : ((ex (pc (lns f i)) (nF f)).length : Int) ≤ 240 := by
  have : 20 * nF f ≤ 240 := by omega
  omega
 omega
theorem z1q (k : Nat) : z7g k = some fun _ => 0 := rfl
theorem zny {k : Nat} {f : zh} (hk : Fuel k f) (hF : Fine f) (i : Int) (v1 : (SL Int) × Int × Int × (SL zD) × Int × (SL zJ) × Int) (n : Int) {g : Nat → Int} {lf : Nat → Nat} (hg : ∀ t, t < 12 → g t = ((lf t : Nat) : Int)) (h20 : ∀ t, lf t ≤ 20) :
  Ok (iter (fun s => zve k ⟨f⟩ i v1 n s.1 s.2.1 s.2.2.1 s.2.2.2) k (f.Carry, (nF f : Int) - 1, g, fun _ => 0)) (fun r => ∃ a b : Nat → Nat, (∀ t, t < 12 → r.2.2.1 t = ((a t : Nat) : Int)) ∧ (∀ t, t < 12 → r.2.2.2 t = ((b t : Nat) : Int)) ∧
   ex a (nF f) = (ex lf (nF f)).drop f.Carry.toNat ∧ ex b (nF f) = (ex lf (nF f)).take f.Carry.toNat ∧ (∀ t, nF f ≤ t → a t = lf t) ∧ (∀ t, a t ≤ lf t) ∧ ∀ t, nF f ≤ t → b t = 0) := by
 have hC := hF.carry
 refine Ok.count (nF f) (fun j s => ∃ m r : Nat, m + j = nF f ∧ s.2.1 = (m : Int) - 1 ∧ s.1 = (r : Int) ∧ r ≤ 20 ∧ ∃ a b : Nat → Nat, (∀ t, t < 12 → s.2.2.1 t = ((a t : Nat) : Int)) ∧ (∀ t, t < 12 → s.2.2.2 t = ((b t : Nat) : Int)) ∧
   (∀ t, t < m → a t = lf t ∧ b t = 0) ∧ (ex lf (nF f)).drop f.Carry.toNat = hi a m j ++ (ex lf m).drop r ∧ (ex lf (nF f)).take f.Carry.toNat = hi b m j ++ (ex lf m).take r ∧ (∀ t, nF f ≤ t → a t = lf t) ∧ (∀ t, a t ≤ lf t) ∧ ∀ t, nF f ≤ t → b t = 0) ?_ ?_ ?_ hk.far
 ·rintro j ⟨s1, s2, s3, s4⟩ hj ⟨m, r, hm, h2, h1, hr, a, b, ha, hb, hlow, hd, ht, hx, hle, hy⟩
  obtain ⟨m, rfl⟩ : ∃ m', m = m' + 1 := ⟨m - 1, by omega⟩
  have hn := hF.nfar.2
  obtain rfl : s2 = (m : Int) := by simp only at h2; omega
  obtain rfl : s1 = (r : Int) := h1
  simp only [zve]
  have e1 : decide ((m : Int) ≥ 0) = true := by simp
  have e2 : decide ((m : Int) < 12) = true := by simp; omega
  have e3 : s3 m = ((lf m : Nat) : Int) := by
   have := ha m (by omega)
   simp only at this
   rw [this, (hlow m (by omega)).1]
  have e4 : (if s3 m < (r : Int) then s3 m else (r : Int)) = ((min r (lf m) : Nat) : Int) := by
   rw [e3]
   split <;> omega
  have hb20 := h20 m
  simp only [e1, e2, Bool.and_self, cond_true, Int.toNat_natCast, e4]
  rw [e3, z7 (by omega) (by omega), z7 (by omega) (by omega), z7 (by omega) (by omega)]
  refine Ok.pure ⟨m, r - min r (lf m), by omega, rfl, by show _ = _; omega, by omega, fun t => if t = m then lf m - r else a t, fun t => if t = m then min r (lf m) else b t, fun t ht => ?_, fun t ht => ?_, fun t ht => ?_, ?_, ?_, fun t ht => ?_, fun t => ?_, fun t ht => ?_⟩
  ·simp only [upd]
   split
   ·omega
   ·exact ha t ht
  ·simp only [upd]
   split
   ·rfl
   ·exact hb t ht
  ·dsimp only
   rw [if_neg (by omega), if_neg (by omega)]
   exact hlow t (by omega)
  ·rw [hd, z3t, ex, zWx, ← List.append_assoc]
   rw [if_pos rfl]
   have : r - min r (lf m) = r - lf m := by omega
   rw [this, z4p (g := a) (m := m + 1) (fun t h1 h2 => if_neg (by omega))]
  ·rw [ht, z3t, ex, zty, ← List.append_assoc]
   rw [if_pos rfl]
   have : r - min r (lf m) = r - lf m := by omega
   rw [this, z4p (g := b) (m := m + 1) (fun t h1 h2 => if_neg (by omega))]
  ·dsimp only; rw [if_neg (by omega)]; exact hx t ht
  ·dsimp only
   split
   ·rename_i e; subst e; omega
   ·exact hle t
  ·dsimp only; rw [if_neg (by omega)]; exact hy t ht
 ·rintro ⟨s1, s2, s3, s4⟩ ⟨m, r, hm, h2, h1, hr, a, b, ha, hb, hlow, hd, ht, hx, hle, hy⟩
  obtain rfl : m = 0 := by omega
  obtain rfl : s2 = -1 := by simp only at h2; omega
  simp only [zve]
  have e1 : decide ((-1 : Int) ≥ 0) = false := by decide
  rw [e1, cond_false]
  rw [zjv] at hd ht
  simp only [ex, List.drop_nil, List.take_nil, List.append_nil] at hd ht
  exact Ok.pure ⟨a, b, ha, hb, hd.symm, ht.symm, hx, hle, hy⟩
 ·refine ⟨nF f, f.Carry.toNat, by omega, rfl, by show f.Carry = _; omega, by omega, lf, fun _ => 0, hg, fun _ _ => rfl, fun t _ => ⟨rfl, rfl⟩, by simp [hi], by simp [hi], fun _ _ => rfl, fun _ => Nat.le_refl _, fun _ _ => rfl⟩
theorem z4s {f : zh} (hs : zDc f) (k : Nat) (n : Int) : zUc k ⟨f⟩ n = some (decide (0 ≤ n) && decide (n ≤ (nS f : Int) - 1)) := by
 simp only [zUc, zFb, zgh hs.slips, Option.bind_some]
theorem zxD (k : Nat) {n : Int} {m : Nat} (hm : 0 < m) (hb : m < 1000) : ∃ i, i < m ∧ zvb k n (m : Int) = some (i : Int) := by
 have h1 : decide ((m : Int) < 1) = false := by simp; omega
 have h2 : ((m : Int) == 0) = false := by simp; omega
 have hneg := Int.tmod_lt_of_pos n (show (0 : Int) < (m : Int) by omega)
 have hlow : -(m : Int) < n.tmod (m : Int) := by
  have := Int.lt_tmod_of_pos n (show (0 : Int) < (m : Int) by omega)
  omega
 simp only [zvb, h1, h2, cond_false, zNd]
 by_cases h : n.tmod (m : Int) < 0
 ·refine ⟨(n.tmod (m : Int) + m).toNat, by omega, ?_⟩
  rw [show decide (n.tmod (m : Int) < 0) = true by simpa using h]
  simp only [cond_true, Option.bind_some]
  rw [z7 (by omega) (by omega), Int.toNat_of_nonneg (by omega)]
 ·refine ⟨(n.tmod (m : Int)).toNat, by omega, ?_⟩
  rw [show decide (n.tmod (m : Int) < 0) = false by simpa using h]
  simp only [cond_false, Option.bind_some]
  rw [Int.toNat_of_nonneg (by omega)]
def rv (l : List zj) : List Nat := l.reverse.flatMap fun x => List.replicate x.Many.toNat x.Shelf.toNat
theorem zgz (l : List zj) (x : zj) : rv (l ++ [x]) = List.replicate x.Many.toNat x.Shelf.toNat ++ rv l := by
 simp [rv]
theorem zYo {g : Nat → Nat} {s : Nat} : ∀ {N : Nat}, s ≤ N → (∀ j, s ≤ j → j < N → g j = 0) → ex g N = ex g s
 | 0, h, _ => by rw [show s = 0 by omega]
 | N + 1, h, hz => by
  by_cases e : s = N + 1
  ·rw [e]
  ·rw [ex, hz N (by omega) (by omega), List.replicate_zero, List.nil_append]
   exact zYo (by omega) fun j h1 h2 => hz j h1 (by omega)
theorem z2u {n : Nat} {l : List zj} (h : zqb n l) : ∀ m, m ≤ l.length → ∀ N : Nat, shB l m < (N : Int) → (∀ j, N ≤ j → pc (l.take m) j = 0) ∧ ex (pc (l.take m)) N = rv (l.take m)
 | 0, _, N, _ => by
  refine ⟨fun j _ => by simp [pc], ?_⟩
  rw [List.take_zero]
  have : ex (pc []) N = ex (pc []) 0 := zYo (by omega) fun j _ _ => rfl
  rw [this]; rfl
 | m + 1, hm, N, hN => by
  have hlt : m < l.length := by omega
  have h1 := h m hlt
  have h2 := zZo h hlt
  have hs : (l[m].Shelf.toNat : Int) = l[m].Shelf := by omega
  have hN' : l[m].Shelf < (N : Int) := by
   have : shB l (m + 1) = l[m].Shelf := (zwj hlt).symm
   omega
  obtain ⟨i1, i2⟩ := z2u h m (by omega) l[m].Shelf.toNat (by omega)
  rw [List.take_succ_eq_append_getElem hlt, z8o, zgz]
  have hz : ∀ j, l[m].Shelf.toNat + 1 ≤ j → put1 (pc (l.take m)) l[m] j = 0 := fun j hj => by
   unfold put1
   rw [if_neg (by omega)]
   exact i1 j (by omega)
  refine ⟨fun j hj => hz j (by omega), ?_⟩
  rw [zYo (s := l[m].Shelf.toNat + 1) (by omega) fun j h3 _ => hz j h3, ex]
  congr 1
  ·unfold put1
   rw [if_pos (by omega)]
  ·rw [← i2]
   refine zGu fun j hj => ?_
   unfold put1
   rw [if_neg (by omega)]
theorem zYz (C : Nat) (far : Nat → Int) (r : Nat) : wk C far r [] = 0 := by cases r <;> rfl
section
variable (T U : Nat → Int)
def lsum (u : Int) : List Nat → Int
 | [] => 0
 | x :: t => (if U x ≤ u then T x else 0) + lsum u t
def zYq (l : List Nat) : Prop := ∀ x ∈ l, lsum T U (U x) l ≤ U x
def CanL (p : Nat) (l : List Nat) : Prop := ∃ g : Nat → Nat, (∀ i ∈ l, g i < p) ∧ ∀ q, zYq T U (l.filter fun i => g i == q)
variable {T U} {u : Int}
theorem zYq.nil : zYq T U [] := fun x hx => by cases hx
theorem CanL.nil (p : Nat) : CanL T U p [] := ⟨fun _ => 0, fun i hi => (by cases hi), fun q => zYq.nil⟩
theorem CanL.step {p : Nat} {l : List Nat} {a : Nat} (ha : a ∈ l) : CanL T U (p + 1) l ↔ ∃ sub : Nat → Bool, sub a = true ∧ zYq T U (l.filter sub) ∧ CanL T U p (l.filter fun i => !sub i) := by
 constructor
 ·rintro ⟨g, h1, h2⟩
  refine ⟨fun i => g i == g a, by simp, h2 _, fun i => if g i = p then g a else g i, fun i hi => ?_, fun q => ?_⟩
  ·have hi' := List.mem_filter.1 hi
   have hlt := h1 i hi'.1
   have hne : g i ≠ g a := by simpa using hi'.2
   dsimp only
   split
   ·have := h1 a ha; omega
   ·omega
  ·by_cases hq : q = g a
   ·subst hq
    have e : ((l.filter fun i => !(g i == g a)).filter fun i => (if g i = p then g a else g i) == g a) = (l.filter fun i => g i == p).filter fun i => !(g i == g a) := by
     rw [List.filter_filter, List.filter_filter]
     refine List.filter_congr fun i _ => ?_
     by_cases h : g i = g a
     ·simp [h]
     ·by_cases h' : g i = p <;> simp [h, h']
    rw [e]
    by_cases hp : g a = p
    ·have : (l.filter fun i => g i == p).filter (fun i => !(g i == g a)) = [] := by
      rw [List.filter_filter]
      refine List.filter_eq_nil_iff.2 fun i _ => ?_
      rw [hp]; simp
     rw [this]
     exact .nil
    ·have : (l.filter fun i => g i == p).filter (fun i => !(g i == g a)) = l.filter fun i => g i == p := by
      rw [List.filter_filter]
      refine List.filter_congr fun i _ => ?_
      by_cases h : g i = p
      ·have : ¬ p = g a := fun e => hp e.symm
       simp [h, this]
      ·simp [h]
     rw [this]
     exact h2 p
   ·by_cases hqp : q = p
    ·have : ((l.filter fun i => !(g i == g a)).filter fun i => (if g i = p then g a else g i) == q) = [] := by
      rw [List.filter_filter]
      refine List.filter_eq_nil_iff.2 fun i _ => ?_
      subst hqp
      by_cases h : g i = q
      ·have : ¬ g a = q := fun e => hq e.symm
       simp [h, this]
      ·simp [h]
     rw [this]
     exact .nil
    ·have : ((l.filter fun i => !(g i == g a)).filter fun i => (if g i = p then g a else g i) == q) = l.filter fun i => g i == q := by
      rw [List.filter_filter]
      refine List.filter_congr fun i _ => ?_
      by_cases h : g i = p
      ·have e1 : (g a == q) = false := by simp; omega
       have e2 : (p == q) = false := by simp; omega
       simp [h, e1, e2]
      ·by_cases h' : g i = q
       ·simp [h', hqp, hq]
       ·simp [h, h']
     rw [this]
     exact h2 q
 ·rintro ⟨sub, hsa, hf, g, h1, h2⟩
  refine ⟨fun i => if sub i then p else g i, fun i hi => ?_, fun q => ?_⟩
  ·dsimp only
   cases hs : sub i with
   | true => simp
   | false =>
    have := h1 i (List.mem_filter.2 ⟨hi, by simp [hs]⟩)
    simp; omega
  ·by_cases hq : q = p
   ·have : (l.filter fun i => (if sub i = true then p else g i) == q) = l.filter sub := by
     refine List.filter_congr fun i hi => ?_
     cases hs : sub i with
     | true => simp [hq]
     | false =>
      have := h1 i (List.mem_filter.2 ⟨hi, by simp [hs]⟩)
      simp; omega
    rw [this]
    exact hf
   ·have : (l.filter fun i => (if sub i = true then p else g i) == q) = (l.filter fun i => !sub i).filter fun i => g i == q := by
     rw [List.filter_filter]
     refine List.filter_congr fun i hi => ?_
     cases hs : sub i with
     | true => simp; omega
     | false => simp
    rw [this]
    exact h2 q
end
def am : List zj → Nat → Int
 | [], _ => 0
 | x :: t, s => (if x.Shelf = (s : Int) then x.Many else 0) + am t s
theorem zRl : ∀ (a b : List zj) (s : Nat), am (a ++ b) s = am a s + am b s
 | [], b, s => by simp [am]
 | x :: a, b, s => by simp only [List.cons_append, am, zRl a b s]; omega
theorem zcs (l : List zj) (x : zj) (s : Nat) : am (l ++ [x]) s = am l s + if x.Shelf = (s : Int) then x.Many else 0 := by
 rw [zRl]; simp [am]
def zLb : List zj → Int
 | [] => 0
 | x :: t => x.Many + zLb t
theorem znl : ∀ (a b : List zj), zLb (a ++ b) = zLb a + zLb b
 | [], b => by simp [zLb]
 | x :: a, b => by simp only [List.cons_append, zLb, znl a b]; omega
theorem zhw (l : List zj) (x : zj) : zLb (l ++ [x]) = zLb l + x.Many := by
 rw [znl]; simp [zLb]
def zRt (l : List zj) : Prop := ∀ x ∈ l, 1 ≤ x.Many ∧ x.Many ≤ 20
theorem zqi {n : Nat} {l : List zj} (h : zqb n l) : zRt l := fun x hx => by
 obtain ⟨i, hi, rfl⟩ := List.getElem_of_mem hx
 exact (h i hi).2
theorem zgt : ∀ {l : List zj}, zRt l → ∀ s, 0 ≤ am l s ∧ am l s ≤ 20 * l.length
 | [], _, s => by simp [am]
 | x :: t, h, s => by
  have h1 := zgt (l := t) (fun y hy => h y (by simp [hy])) s
  have h2 := h x (by simp)
  have e : (20 * ((x :: t).length : Int)) = 20 * (t.length : Int) + 20 := by rw [List.length_cons]; push_cast; omega
  simp only [am]
  split <;> omega
theorem zrq : ∀ {l : List zj}, zRt l → (l.length : Int) ≤ zLb l ∧ zLb l ≤ 20 * l.length
 | [], _ => by simp [zLb]
 | x :: t, h => by
  have h1 := zrq (l := t) (fun y hy => h y (by simp [hy]))
  have h2 := h x (by simp)
  have e : ((x :: t).length : Int) = (t.length : Int) + 1 := by rw [List.length_cons]; push_cast; rfl
  simp only [zLb]
  omega
def tot : List (List zj) → Nat → Int
 | [], _ => 0
 | t :: ts, s => am t s + tot ts s
theorem zKr : ∀ (a b : List (List zj)) (s : Nat), tot (a ++ b) s = tot a s + tot b s
 | [], b, s => by simp [tot]
 | x :: a, b, s => by simp only [List.cons_append, tot, zKr a b s]; omega
theorem zuu (a : List (List zj)) (t : List zj) (s : Nat) : tot (a ++ [t]) s = tot a s + am t s := by
 rw [zKr]; simp [tot]
def zTg (f : zh) (t : List zj) : Prop := t ≠ [] ∧ zqb (nF f) t ∧ zLb t ≤ f.Carry
theorem zTg.am {f : zh} (hF : Fine f) {t : List zj} (h : zqb (nF f) t) (s : Nat) : 0 ≤ am t s ∧ am t s ≤ 240 := by
 have h1 := zgt (zqi h) s
 have h2 := zSl h
 have h3 := hF.nfar
 omega
theorem zDt {f : zh} (hF : Fine f) : ∀ {ts : List (List zj)}, (∀ t ∈ ts, zTg f t) → ∀ s, 0 ≤ tot ts s ∧ tot ts s ≤ 240 * ts.length
 | [], _, s => by simp [tot]
 | t :: ts, h, s => by
  have h1 := zDt hF (ts := ts) (fun y hy => h y (by simp [hy])) s
  have h2 := zTg.am hF (h t (by simp)).2.1 s
  have e : (240 * ((t :: ts).length : Int)) = 240 * (ts.length : Int) + 240 := by rw [List.length_cons]; push_cast; omega
  simp only [tot]
  omega
def zRm (f : zh) (i : Nat) (ts : List (List zj)) : Prop := (∀ t ∈ ts, zTg f t) ∧ ∀ s, s < nF f → tot ts s = ((pc (lns f i) s : Nat) : Int)
theorem zVr {n : Nat} {l : List zj} (h : zqb n l) : ∀ m, m ≤ l.length → ∀ s, am (l.take m) s = ((pc (l.take m) s : Nat) : Int)
 | 0, _, s => by simp [am, pc]
 | m + 1, hm, s => by
  have hlt : m < l.length := by omega
  have h1 := h m hlt
  have h2 := zZo h hlt
  have ih := zVr h m (by omega) s
  have hz := (z2u h m (by omega) l[m].Shelf.toNat (by omega)).1
  rw [List.take_succ_eq_append_getElem hlt, zcs, z8o, ih]
  unfold put1
  by_cases e : l[m].Shelf = (s : Int)
  ·rw [if_pos e, if_pos (by omega), hz s (by omega)]
   omega
  ·rw [if_neg e, if_neg (by omega)]
   omega
theorem zIB {n : Nat} {l : List zj} (h : zqb n l) (s : Nat) : am l s = ((pc l s : Nat) : Int) := by
 have := zVr h l.length (Nat.le_refl _) s
 rwa [List.take_length] at this
def zjx (k : Nat) (R : List (SL zj)) : Prop := (R.length < k ∧ R.length ≤ 10000000000000) ∧ ∀ l ∈ R, l.1.length < k ∧ l.1.length < 9223372036854775808
def zZA (f : zh) (n : Int) (R : List (SL zj)) (r : Bool × Int) : Prop :=
 (¬ Fine f ∧ r = (false, 30)) ∨ (Fine f ∧ ¬ (0 ≤ n ∧ n < (nS f : Int)) ∧ r = (false, 31)) ∨ (Fine f ∧ ∃ i : Nat, i < nS f ∧ n = (i : Int) ∧ r.2 = 0 ∧ (r.1 = true ↔ zRm f i (R.map (·.1))))
theorem zZl (f : zh) (n : Int) : (decide (0 ≤ n) && decide (n ≤ (nS f : Int) - 1)) = true ↔ 0 ≤ n ∧ n < (nS f : Int) := by
 simp only [Bool.and_eq_true, decide_eq_true_eq]
 omega
def zNt (n : Nat) (l : List zj) (i : Nat) (h : i < l.length) : Prop := (shB l i + 1 ≤ l[i].Shelf ∧ l[i].Shelf ≤ (n : Int) - 1) ∧ (1 ≤ l[i].Many ∧ l[i].Many ≤ 20)
theorem ziy (l : List zj) (a : Nat) : ∀ {j}, j ≤ a → shB (l.take a) j = shB l j
 | 0, _ => rfl
 | j + 1, h => by
  show sh (l.take a) j = sh l j
  unfold sh
  rw [List.getElem?_take, if_pos (by omega)]
theorem zLv {n : Nat} {l : List zj} {a : Nat} (h : ∀ i (hi : i < l.length), i < a → zNt n l i hi) : zqb n (l.take a) := fun j hj => by
 have hj2 : j < a ∧ j < l.length := by rw [List.length_take] at hj; omega
 have := h j hj2.2 hj2.1
 rw [ziy l a (by omega), List.getElem_take]
 exact this
theorem zpz {n : Nat} {l : List zj} (h : zqb n l) {s : Nat} (hs : n ≤ s) : am l s = 0 := by
 rw [zIB h, (zzr h).2 s hs]
 rfl
theorem zbz {n : Nat} {l : List zj} (h : zqb n l) (a s : Nat) : am (l.take a) s ≤ am l s := by
 have h1 : am l s = am (l.take a) s + am (l.drop a) s := by rw [← zRl, List.take_append_drop]
 have h2 := (zgt (l := l.drop a) (fun x hx => zqi h x (List.mem_of_mem_drop hx)) s).1
 omega
theorem zNs : ∀ (L : List (List zj)) {j : Nat} (h : j < L.length) (x : Nat), tot L x = tot (L.take j) x + am L[j] x + tot (L.drop (j + 1)) x
 | t :: ts, 0, _, x => by simp [tot]
 | t :: ts, j + 1, h, x => by
  have := zNs ts (j := j) (by simpa using h) x
  simp only [List.take_succ_cons, List.drop_succ_cons, List.getElem_cons_succ, tot]
  omega
theorem zUv {k : Nat} {f : zh} (hs : zDc f) (hk : Fuel k f) (hF : Fine f) (i : Int) (p2 : SL (SL zj)) (s1 : Int) {t : SL zj} (hrow : t.1.length < k ∧ t.1.length < 9223372036854775808) {left0 : Nat → Int} (h20 : ∀ s, s < nF f → 0 ≤ left0 s ∧ left0 s ≤ 20) :
  Ok (iter (fun s => zCd k f i p2 s1 t s.1 s.2.1 s.2.2.1 s.2.2.2) k ((-1), 0, 0, left0)) (fun r => match r with
   | .inl _ => ¬ (zqb (nF f) t.1 ∧ ∀ s, s < nF f → am t.1 s ≤ left0 s)
   | .inr z => zqb (nF f) t.1 ∧ z.2.1 = zLb t.1 ∧ (∀ s, s < 12 → z.2.2.2 s = left0 s - am t.1 s) ∧ ∀ s, s < nF f → 0 ≤ z.2.2.2 s) := by
 have h12 := hF.nfar
 have h0 := hk.k0
 refine Ok.count t.1.length (fun a s => s.2.2.1 = (a : Int) ∧ s.1 = shB t.1 a ∧ s.2.1 = zLb (t.1.take a) ∧ (∀ x, x < 12 → s.2.2.2 x = left0 x - am (t.1.take a) x) ∧ (∀ x, x < nF f → 0 ≤ s.2.2.2 x) ∧ ∀ i (hi : i < t.1.length), i < a → zNt (nF f) t.1 i hi) ?_ ?_ ⟨rfl, rfl, rfl, fun x _ => by simp [am], fun x hx => (h20 x hx).1, fun i _ h => absurd h (by omega)⟩ hrow.1
 ·rintro a ⟨last, all, a', left⟩ ha ⟨ha', hlast, hall, hleft, hpos, hP⟩
  obtain rfl : a' = (a : Int) := ha'
  obtain rfl : last = shB t.1 a := hlast
  obtain rfl : all = zLb (t.1.take a) := hall
  have hleft : ∀ x, x < 12 → left x = left0 x - am (t.1.take a) x := hleft
  have hpos : ∀ x, x < nF f → 0 ≤ left x := hpos
  have hlt := zLv hP
  have hlen : a ≤ 12 := by
   have h1 := zSl hlt
   rw [List.length_take] at h1
   omega
  obtain ⟨x, hx⟩ : ∃ x, x = t.1[a] := ⟨_, rfl⟩
  have hlow := zfs (l := t.1) (j := a) (by omega) fun i hi hij => (hP i hi hij).1.1
  have hup : shB t.1 a ≤ (nF f : Int) - 1 := by
   cases a with
   | zero => simp only [shB]; omega
   | succ j =>
    have := (hP j (by omega) (by omega)).1.2
    rw [zwj (by omega)] at this
    simp only [shB]
    omega
  have w0 : w64 (shB t.1 a + 1) = shB t.1 a + 1 := z7 (by omega) (by omega)
  have wn : w64 ((f.Far.1.length : Int) - 1) = (nF f : Int) - 1 := zgh hs.far
  have e1 : idx t.1 (a : Int) = some x := by rw [hx]; exact zDb ha
  have hb2 := zrq (zqi hlt)
  have hll : (t.1.take a).length ≤ 12 := by rw [List.length_take]; omega
  simp only [zCd, zHb ha, cond_true, e1, Option.bind_some, zzg, zFb, w0, wn]
  by_cases hc1 : shB t.1 a + 1 ≤ x.Shelf ∧ x.Shelf ≤ (nF f : Int) - 1
  ·have d1 : (decide (shB t.1 a + 1 ≤ x.Shelf) && decide (x.Shelf ≤ (nF f : Int) - 1)) = true := by
    simp only [Bool.and_eq_true, decide_eq_true_eq]; exact hc1
   obtain ⟨s, hse⟩ : ∃ s : Nat, x.Shelf = (s : Int) := ⟨x.Shelf.toNat, by omega⟩
   have hsn : s < nF f := by omega
   have d2 : (decide (0 ≤ x.Shelf) && decide (x.Shelf < 12)) = true := by
    simp only [Bool.and_eq_true, decide_eq_true_eq]; omega
   have hls := hleft s (by omega)
   have hps := hpos s hsn
   have hb := zgt (zqi hlt) s
   have h20s := h20 s hsn
   rw [d1, d2]
   simp only [Bool.not_true, cond_false, cond_true, Option.bind_some, hse, Int.toNat_natCast]
   by_cases hc2 : 1 ≤ x.Many ∧ x.Many ≤ left s
   ·have d3 : (decide (1 ≤ x.Many) && decide (x.Many ≤ left s)) = true := by
     simp only [Bool.and_eq_true, decide_eq_true_eq]; exact hc2
    have w1 : w64 (zLb (t.1.take a) + x.Many) = zLb (t.1.take (a + 1)) := by
     rw [List.take_succ_eq_append_getElem ha, ← hx, zhw]; exact z7 (by omega) (by omega)
    have w2 : w64 (left s - x.Many) = left s - x.Many := z7 (by omega) (by omega)
    rw [d3, w1, w2]
    simp only [Bool.not_true, cond_false]
    refine Ok.pure ⟨zhb ha hrow.2, ?_, rfl, fun y hy => ?_, fun y hy => ?_, fun i hi hia => ?_⟩
    ·show (s : Int) = sh t.1 a
     rw [← zwj ha, ← hx, hse]
    ·show upd left s (left s - x.Many) y = _
     rw [List.take_succ_eq_append_getElem ha, ← hx, zcs]
     unfold upd
     by_cases e : y = s
     ·rw [if_pos e, if_pos (by omega), e, hls]; omega
     ·rw [if_neg e, if_neg (by omega), hleft y hy]; omega
    ·show 0 ≤ upd left s (left s - x.Many) y
     unfold upd
     split
     ·omega
     ·exact hpos y hy
    ·by_cases e : i = a
     ·subst e
      unfold zNt
      rw [← hx]
      exact ⟨hc1, by omega⟩
     ·exact hP i hi (by omega)
   ·have d3 : (decide (1 ≤ x.Many) && decide (x.Many ≤ left s)) = false := by
     cases hd : (decide (1 ≤ x.Many) && decide (x.Many ≤ left s)) with
     | false => rfl
     | true => simp only [Bool.and_eq_true, decide_eq_true_eq] at hd; exact absurd hd hc2
    rw [d3]
    simp only [Bool.not_false, cond_true]
    refine Ok.pure fun ⟨hl, ham⟩ => ?_
    have h1 := (hl a ha).2.1
    rw [← hx] at h1
    have h2 := ham s hsn
    have h3 := zbz hl (a + 1) s
    rw [List.take_succ_eq_append_getElem ha, ← hx, zcs, if_pos hse] at h3
    omega
  ·have d1 : (decide (shB t.1 a + 1 ≤ x.Shelf) && decide (x.Shelf ≤ (nF f : Int) - 1)) = false := by
    cases hd : (decide (shB t.1 a + 1 ≤ x.Shelf) && decide (x.Shelf ≤ (nF f : Int) - 1)) with
    | false => rfl
    | true => simp only [Bool.and_eq_true, decide_eq_true_eq] at hd; exact absurd hd hc1
   rw [d1]
   simp only [Bool.not_false, cond_true, Option.bind_some]
   refine Ok.pure fun ⟨hl, _⟩ => hc1 ?_
   have h1 := (hl a ha).1
   rw [← hx] at h1
   exact h1
 ·rintro ⟨last, all, a', left⟩ ⟨ha', hlast, hall, hleft, hpos, hP⟩
  obtain rfl : a' = (t.1.length : Int) := ha'
  simp only [zCd, zOm, cond_false]
  have hl : zqb (nF f) t.1 := fun i hi => hP i hi hi
  have hall : all = zLb (t.1.take t.1.length) := hall
  have hleft : ∀ x, x < 12 → left x = left0 x - am (t.1.take t.1.length) x := hleft
  rw [List.take_length] at hall hleft
  exact Ok.pure ⟨hl, hall, hleft, hpos⟩
theorem zsB {k : Nat} {f : zh} (hs : zDc f) (hk : Fuel k f) (n : Int) {p2 : SL (SL zj)} (hR : zjx k p2.1) : Ok (zVg k f n p2) (zZA f n p2.1) := by
 unfold zVg
 obtain ⟨c, hc, hc'⟩ := zel hs hk
 rw [hc]
 by_cases hF : Fine f
 ·rw [if_pos hF] at hc'
  subst hc'
  have t : ((0 : Int) != 0) = false := by decide
  simp only [Option.bind_some, t, cond_false, z4s hs]
  by_cases hn : 0 ≤ n ∧ n < (nS f : Int)
  ·rw [(zZl f n).2 hn]
   obtain ⟨i, rfl⟩ : ∃ i : Nat, n = (i : Int) := ⟨n.toNat, by omega⟩
   have hi : i < nS f := by omega
   have h12 := hF.nfar
   have h0 := hk.k0
   have hlf : zqb (nF f) (lns f i) := (zcn hF hi).2
   have hpc := zzr hlf
   simp only [Bool.not_true, cond_false]
   refine Ok.bind (zus hs hk hF hi) fun g hg => ?_
   refine Ok.bind (Ok.count p2.1.length (fun j s => s.1 = (j : Int) ∧ (∀ t ∈ (p2.1.take j).map (·.1), zTg f t) ∧ (∀ x, x < 12 → s.2 x = ((pc (lns f i) x : Nat) : Int) - tot ((p2.1.take j).map (·.1)) x) ∧ ∀ x, x < nF f → 0 ≤ s.2 x)
    (Q := fun r : (Int × (SL zj) × Int × Int × Int × Int × (Nat → Int) × Int × Int) ⊕ ((Int × (SL zj) × Int × Int × Int × Int × (Nat → Int)) ⊕ (Int × (Nat → Int))) => match r with
    | .inl _ => ¬ zRm f i (p2.1.map (·.1))
    | .inr (.inl _) => ¬ zRm f i (p2.1.map (·.1))
    | .inr (.inr z) => (∀ t ∈ p2.1.map (·.1), zTg f t) ∧ ∀ x, x < 12 → z.2 x = ((pc (lns f i) x : Nat) : Int) - tot (p2.1.map (·.1)) x) ?_ ?_ ⟨rfl, fun t ht => by simp at ht, fun x _ => by
     show g x = _
     rw [hg x]; simp [tot], fun x _ => by show 0 ≤ g x; rw [hg x]; omega⟩ hR.1.1) fun r hr => ?_
   ·rintro j ⟨j', left⟩ hj ⟨hj', hall, hl, hpos⟩
    obtain rfl : j' = (j : Int) := hj'
    have hl : ∀ x, x < 12 → left x = ((pc (lns f i) x : Nat) : Int) - tot ((p2.1.take j).map (·.1)) x := hl
    have hpos : ∀ x, x < nF f → 0 ≤ left x := hpos
    have hti := zDt hF hall
    have hmem : p2.1[j].1 ∈ p2.1.map (·.1) := List.mem_map.2 ⟨_, List.getElem_mem hj, rfl⟩
    have hrow := hR.2 _ (List.getElem_mem hj)
    have split3 : ∀ x, tot (p2.1.map (·.1)) x = tot ((p2.1.take j).map (·.1)) x + am p2.1[j].1 x + tot ((p2.1.drop (j + 1)).map (·.1)) x := fun x => by
     have h1 := zNs (p2.1.map (·.1)) (j := j) (by rw [List.length_map]; exact hj) x
     rw [List.getElem_map, ← List.map_take, ← List.map_drop] at h1
     exact h1
    simp only [zVe, zHb hj, cond_true, zDb hj, Option.bind_some]
    refine Ok.bind (zUv hs hk hF (i : Int) p2 (j : Int) hrow (left0 := left) fun x hx => ⟨hpos x hx, by
     have h1 := hl x (by omega)
     have h2 := (hti x).1
     have h3 := hpc.1 x
     omega⟩) fun r hr => ?_
    cases r with
    | inl z =>
     refine Ok.pure fun h => hr ⟨(h.1 _ hmem).2.1, fun x hx => ?_⟩
     have h1 := h.2 x hx
     have h2 := hl x (by omega)
     have h3 := split3 x
     have h4 := (zDt hF (ts := (p2.1.drop (j + 1)).map (·.1)) (fun t ht => h.1 t (by
      obtain ⟨u, hu, rfl⟩ := List.mem_map.1 ht
      exact List.mem_map.2 ⟨u, List.mem_of_mem_drop hu, rfl⟩)) x).1
     omega
    | inr z =>
     obtain ⟨hlf2, hld, hz, hzp⟩ := hr
     have hlo := zrq (zqi hlf2)
     have hln2 := zSl hlf2
     simp only [Sum.elim_inr, zFb, hld, Option.bind_some]
     by_cases hc1 : 1 ≤ zLb p2.1[j].1 ∧ zLb p2.1[j].1 ≤ f.Carry
     ·have d1 : (decide (1 ≤ zLb p2.1[j].1) && decide (zLb p2.1[j].1 ≤ f.Carry)) = true := by
       simp only [Bool.and_eq_true, decide_eq_true_eq]; exact hc1
      rw [d1]
      simp only [Bool.not_true, cond_false]
      refine Ok.pure ⟨zhb hj (by have := hR.1.2; omega), fun t ht => ?_, fun x hx => ?_, hzp⟩
      ·rw [List.take_succ_eq_append_getElem hj, List.map_append] at ht
       rcases List.mem_append.1 ht with h | h
       ·exact hall t h
       ·obtain rfl : t = p2.1[j].1 := by simpa using h
        refine ⟨fun e => ?_, hlf2, hc1.2⟩
        rw [e] at hc1
        simp only [zLb] at hc1
        omega
      ·show z.2.2.2 x = _
       rw [hz x hx, hl x hx, List.take_succ_eq_append_getElem hj, List.map_append]
       show _ = _ - tot (_ ++ [p2.1[j].1]) x
       rw [zuu]
       omega
     ·have d1 : (decide (1 ≤ zLb p2.1[j].1) && decide (zLb p2.1[j].1 ≤ f.Carry)) = false := by
       cases hd : (decide (1 ≤ zLb p2.1[j].1) && decide (zLb p2.1[j].1 ≤ f.Carry)) with
       | false => rfl
       | true => simp only [Bool.and_eq_true, decide_eq_true_eq] at hd; exact absurd hd hc1
      rw [d1]
      simp only [Bool.not_false, cond_true]
      refine Ok.pure fun h => hc1 ?_
      obtain ⟨h1, h2, h3⟩ := h.1 _ hmem
      have : 0 < p2.1[j].1.length := List.length_pos_iff.2 h1
      exact ⟨by omega, h3⟩
   ·rintro ⟨j', left⟩ ⟨hj', hall, hl, hpos⟩
    obtain rfl : j' = (p2.1.length : Int) := hj'
    simp only [zVe, zOm, cond_false]
    have hl : ∀ x, x < 12 → left x = ((pc (lns f i) x : Nat) : Int) - tot ((p2.1.take p2.1.length).map (·.1)) x := hl
    rw [List.take_length] at hl hall
    exact Ok.pure ⟨hall, hl⟩
   ·cases r with
    | inl z => exact Ok.pure (.inr (.inr ⟨hF, i, hi, rfl, rfl, ⟨fun h => (by cases h), fun h => absurd h hr⟩⟩))
    | inr r =>
     cases r with
     | inl z => exact Ok.pure (.inr (.inr ⟨hF, i, hi, rfl, rfl, ⟨fun h => (by cases h), fun h => absurd h hr⟩⟩))
     | inr z =>
      obtain ⟨hall, hl⟩ := hr
      simp only [Sum.elim_inr, z1q, Option.bind_some]
      refine Ok.pure (.inr (.inr ⟨hF, i, hi, rfl, rfl, ?_⟩))
      show eqI z.2 (fun _ => 0) 0 12 = true ↔ _
      rw [z1o]
      constructor
      ·intro h
       refine ⟨hall, fun x hx => ?_⟩
       have h1 := h x (by omega) (by omega)
       rw [hl x (by omega)] at h1
       omega
      ·intro h x _ hx
       rw [hl x (by omega)]
       by_cases e : x < nF f
       ·rw [h.2 x e]; omega
       ·have h1 : ∀ ts : List (List zj), (∀ t ∈ ts, zTg f t) → tot ts x = 0 := by
         intro ts
         induction ts with
         | nil => intro _; rfl
         | cons t ts ih =>
          intro h
          simp only [tot]
          rw [zpz (h t (by simp)).2.1 (by omega), ih fun y hy => h y (by simp [hy])]
          rfl
        rw [h1 _ hall, hpc.2 x (by omega)]
        rfl
  ·have e : (decide (0 ≤ n) && decide (n ≤ (nS f : Int) - 1)) = false := by
    cases hd : (decide (0 ≤ n) && decide (n ≤ (nS f : Int) - 1)) with
    | false => rfl
    | true => exact absurd ((zZl f n).1 hd) hn
   rw [e]
   exact Ok.pure (.inr (.inl ⟨hF, hn, rfl⟩))
 ·rw [if_neg hF] at hc'
  subst hc'
  have t : ((30 : Int) != 0) = true := by decide
  simp only [Option.bind_some, t, cond_true]
  exact Ok.pure (.inl ⟨hF, rfl⟩)
def zfb (b : Nat → Nat) : Nat → List zj
 | 0 => []
 | m + 1 => zfb b m ++ (if 0 < b m then [⟨(m : Int), (b m : Int)⟩] else [])
theorem zXv {n : Nat} {l : List zj} (h : zqb n l) {x : zj} (h1 : shB l l.length + 1 ≤ x.Shelf) (h2 : x.Shelf ≤ (n : Int) - 1) (h3 : 1 ≤ x.Many ∧ x.Many ≤ 20) : zqb n (l ++ [x]) := fun j hj => by
 have hb : ∀ i, i ≤ l.length → shB (l ++ [x]) i = shB l i := fun i hi => by
  cases i with
  | zero => rfl
  | succ i =>
   show sh (l ++ [x]) i = sh l i
   unfold sh
   rw [List.getElem?_append_left (by omega)]
 rw [List.length_append] at hj
 have hj : j < l.length + 1 := by simpa using hj
 rw [hb j (by omega)]
 by_cases e : j < l.length
 ·rw [List.getElem_append_left e]
  exact h j e
 ·have e : j = l.length := by omega
  subst e
  rw [List.getElem_append_right (by omega)]
  simp only [Nat.sub_self, List.getElem_cons_zero]
  exact ⟨⟨h1, h2⟩, h3⟩
def zYl (t : List zj) : Int := ((t.getLast?).map (·.Shelf)).getD 0
theorem zAy {t : List zj} (h : t ≠ []) : shB t t.length = zYl t := by
 have : 0 < t.length := List.length_pos_iff.2 h
 obtain ⟨m, hm⟩ : ∃ m, t.length = m + 1 := ⟨t.length - 1, by omega⟩
 unfold zYl
 rw [List.getLast?_eq_getElem?, hm]
 rfl
theorem zwv (t : List zj) (x : zj) : zYl (t ++ [x]) = x.Shelf := by
 simp [zYl]
theorem zxn (b : Nat → Nat) : ∀ m, (zfb b m = [] ∧ ∀ s, s < m → b s = 0) ∨ (zfb b m ≠ [] ∧ ∃ s : Nat, zYl (zfb b m) = (s : Int) ∧ s < m ∧ ∀ far : Nat → Int, topF b far m = far s)
 | 0 => .inl ⟨rfl, fun s h => absurd h (by omega)⟩
 | m + 1 => by
  by_cases hb : 0 < b m
  ·refine .inr ⟨?_, m, ?_, by omega, fun far => ?_⟩
   ·simp [zfb, hb]
   ·simp only [zfb, if_pos hb, zwv]
   ·rw [topF, if_pos hb]
  ·have e : zfb b (m + 1) = zfb b m := by simp only [zfb, if_neg hb, List.append_nil]
   rw [e]
   rcases zxn b m with ⟨h1, h2⟩ | ⟨h1, s, h2, h3, h4⟩
   ·refine .inl ⟨h1, fun s hs => ?_⟩
    by_cases e : s = m
    ·subst e; omega
    ·exact h2 s (by omega)
   ·exact .inr ⟨h1, s, h2, by omega, fun far => by rw [topF, if_neg hb]; exact h4 far⟩
theorem zQp {n : Nat} {b : Nat → Nat} (h20 : ∀ s, b s ≤ 20) (hz : ∀ s, n ≤ s → b s = 0) : ∀ m, zqb n (zfb b m)
 | 0 => fun j hj => by simp [zfb] at hj
 | m + 1 => by
  have ih := zQp h20 hz m
  by_cases hb : 0 < b m
  ·simp only [zfb, if_pos hb]
   have hmn : m < n := Classical.byContradiction fun hc => by have := hz m (by omega); omega
   have := h20 m
   refine zXv ih ?_ (by show (m : Int) ≤ _; omega) (by show 1 ≤ ((b m : Nat) : Int) ∧ ((b m : Nat) : Int) ≤ 20; omega)
   show _ ≤ (m : Int)
   rcases zxn b m with ⟨h1, _⟩ | ⟨h1, s, h2, h3, _⟩
   ·rw [h1]; simp only [List.length_nil, shB]; omega
   ·rw [zAy h1, h2]; omega
  ·have e : zfb b (m + 1) = zfb b m := by simp only [zfb, if_neg hb, List.append_nil]
   rw [e]; exact ih
theorem zIs (b : Nat → Nat) (s : Nat) : ∀ m, am (zfb b m) s = if s < m then ((b s : Nat) : Int) else 0
 | 0 => by simp [zfb, am]
 | m + 1 => by
  have ih := zIs b s m
  simp only [zfb, zRl, ih]
  by_cases hb : 0 < b m
  ·simp only [if_pos hb, am]
   by_cases e : s = m
   ·subst e; simp
   ·rw [if_neg (by omega : ¬ (m : Int) = (s : Int))]
    by_cases h : s < m
    ·rw [if_pos h, if_pos (by omega)]; omega
    ·rw [if_neg h, if_neg (by omega)]; rfl
  ·simp only [if_neg hb, am]
   by_cases e : s = m
   ·subst e
    have : b s = 0 := by omega
    simp [this]
   ·by_cases h : s < m
    ·rw [if_pos h, if_pos (by omega)]; omega
    ·rw [if_neg h, if_neg (by omega)]; rfl
theorem zKp (b : Nat → Nat) : ∀ m, zLb (zfb b m) = ((ex b m).length : Int)
 | 0 => rfl
 | m + 1 => by
  have ih := zKp b m
  simp only [zfb, znl, ih, ex, List.length_append, List.length_replicate]
  by_cases hb : 0 < b m
  ·simp only [if_pos hb, zLb]; push_cast; omega
  ·have : b m = 0 := by omega
   rw [if_neg hb, this]; simp [zLb]
theorem zvn (f : Nat → Nat) (s : Nat) : ∀ n, (ex f n).count s = if s < n then f s else 0
 | 0 => by simp [ex]
 | n + 1 => by
  rw [ex, List.count_append, List.count_replicate, zvn f s n]
  by_cases e : n = s
  ·subst e; simp
  ·have : (n == s) = false := by simpa using e
   simp only [this, Bool.false_eq_true, if_false, Nat.zero_add]
   by_cases h : s < n
   ·rw [if_pos h, if_pos (show s < n + 1 by omega)]
   ·rw [if_neg h, if_neg (show ¬ s < n + 1 by omega)]
def zQe (f : zh) : List (List zj) → Int
 | [] => 0
 | t :: ts => 2 * fr f (zYl t).toNat + zQe f ts
theorem zso (f : zh) : ∀ (a b : List (List zj)), zQe f (a ++ b) = zQe f a + zQe f b
 | [], b => by simp [zQe]
 | x :: a, b => by simp only [List.cons_append, zQe, zso f a b]; omega
theorem zHv (f : zh) (a : List (List zj)) (t : List zj) : zQe f (a ++ [t]) = zQe f a + 2 * fr f (zYl t).toNat := by
 rw [zso]; simp [zQe]
def zDx (f : zh) (n : Int) (r : SL (SL zj) × Int) : Prop :=
 (¬ Fine f ∧ r.1.1 = [] ∧ r.2 = 30) ∨ (Fine f ∧ ¬ (0 ≤ n ∧ n < (nS f : Int)) ∧ r.1.1 = [] ∧ r.2 = 31) ∨ (Fine f ∧ ∃ i : Nat, i < nS f ∧ n = (i : Int) ∧ r.2 = 0 ∧ zRm f i (r.1.1.map (·.1)) ∧ zQe f (r.1.1.map (·.1)) = zdi f i ∧ r.1.1.length ≤ 240)
theorem z9x (k : Nat) (f : zh) (i : Int) (v7 : (SL Int) × Int × Int × (SL zD) × Int × (SL zJ) × Int) (out : List (SL zj)) (a b : Int) (c d : Nat → Int) : zOh k f i v7 out a b c d = zve k ⟨f⟩ i v7 0 a b c d := rfl
theorem zfy {k : Nat} {f : zh} (hk : Fuel k f) (i : Int) (v7 : (SL Int) × Int × Int × (SL zD) × Int × (SL zJ) × Int) (out : List (SL zj)) (v : Int × Int × (Nat → Int) × (Nat → Int)) {b : Nat → Nat} (hb : ∀ t, t < 12 → v.2.2.2 t = ((b t : Nat) : Int)) :
  Ok (iter (fun s => zKe k f i v7 out v s.1 s.2) k (0, ([] : List zj))) (fun r => r.2 = zfb b 12) := by
 have h0 := hk.k0
 refine Ok.count 12 (fun j s => s.1 = (j : Int) ∧ s.2 = zfb b j ∧ s.2.length ≤ j) ?_ ?_ ⟨rfl, rfl, Nat.le_refl _⟩ (by omega)
 ·rintro j ⟨j', t⟩ hj ⟨hj', ht, hl⟩
  obtain rfl : j' = (j : Int) := hj'
  obtain rfl : t = zfb b j := ht
  have hl : (zfb b j).length ≤ j := hl
  have c1 : decide ((j : Int) < 12) = true := decide_eq_true (by omega)
  have c2 : decide (0 ≤ (j : Int)) = true := by simp
  have c3 : decide ((zfb b j).length + 1 ≤ LIM) = true := z7n (by omega)
  have hsucc : w64 ((j : Int) + 1) = ((j + 1 : Nat) : Int) := zhb (n := 100) (by omega) (by omega)
  simp only [zKe, c1, c2, Bool.and_self, cond_true, Int.toNat_natCast, hb j hj, c3]
  by_cases hbj : 0 < b j
  ·have c4 : decide (((b j : Nat) : Int) > 0) = true := decide_eq_true (by omega)
   rw [c4, cond_true]
   refine Ok.pure ⟨hsucc, ?_, ?_⟩
   ·show _ = zfb b (j + 1)
    simp only [zfb, if_pos hbj]
   ·show (zfb b j ++ [_]).length ≤ _
    rw [List.length_append]; simp; omega
  ·have c4 : decide (((b j : Nat) : Int) > 0) = false := decide_eq_false (by omega)
   rw [c4, cond_false]
   refine Ok.pure ⟨hsucc, ?_, by show (zfb b j).length ≤ _; omega⟩
   show _ = zfb b (j + 1)
   simp only [zfb, if_neg hbj, List.append_nil]
 ·rintro ⟨j', t⟩ ⟨hj', ht, hl⟩
  obtain rfl : j' = (12 : Int) := hj'
  have c1 : decide ((12 : Int) < 12) = false := by decide
  simp only [zKe, c1, cond_false]
  exact Ok.pure ht
theorem z5C {k : Nat} {f : zh} (hs : zDc f) (hk : Fuel k f) (n : Int) : Ok (zGi k f n) (zDx f n) := by
 unfold zGi
 obtain ⟨c, hc, hc'⟩ := zel hs hk
 rw [hc]
 by_cases hF : Fine f
 ·rw [if_pos hF] at hc'
  subst hc'
  have t : ((0 : Int) != 0) = false := by decide
  simp only [Option.bind_some, t, cond_false, z4s hs]
  by_cases hn : 0 ≤ n ∧ n < (nS f : Int)
  ·rw [(zZl f n).2 hn]
   obtain ⟨i, rfl⟩ : ∃ i : Nat, n = (i : Int) := ⟨n.toNat, by omega⟩
   have hi : i < nS f := by omega
   have h12 := hF.nfar
   have h0 := hk.k0
   have hlf : zqb (nF f) (lns f i) := (zcn hF hi).2
   have hpc := zzr hlf
   have hC := hF.carry
   have hW := zzv hF hi
   simp only [Bool.not_true, cond_false, z0f, Option.bind_some]
   refine Ok.bind (zus hs hk hF hi) fun g hg => ?_
   have hlen : (ex (pc (lns f i)) (nF f)).length ≤ 240 := by
    have := zKo (f := pc (lns f i)) (b := 20) (n := nF f) fun j _ => hpc.1 j
    omega
   refine Ok.bind (P := fun v : (Nat → Int) × List (SL zj) => zRm f i (v.2.map (·.1)) ∧ zQe f (v.2.map (·.1)) = zdi f i ∧ v.2.length ≤ 240) ?_ fun v hv => Ok.pure (.inr (.inr ⟨hF, i, hi, rfl, rfl, hv.1, hv.2.1, hv.2.2⟩))
   refine Ok.iter (fun j s => ∃ lf : Nat → Nat, (∀ t, t < 12 → s.1 t = ((lf t : Nat) : Int)) ∧ (∀ t, lf t ≤ 20) ∧ (∀ t, nF f ≤ t → lf t = 0) ∧ zQe f (s.2.map (·.1)) + wk f.Carry.toNat (fr f) 0 (ex lf (nF f)) = zdi f i ∧ (ex lf (nF f)).length + j ≤ 240 ∧ s.2.length = j ∧ (∀ t ∈ s.2.map (·.1), zTg f t) ∧ ∀ x, x < nF f → tot (s.2.map (·.1)) x + lf x = ((pc (lns f i) x : Nat) : Int)) 240 ?_ ⟨pc (lns f i), fun t _ => hg t, hpc.1, hpc.2, by simp [zdi, zQe], by omega, rfl, fun t ht => by simp at ht, fun x _ => by simp [tot]⟩ (by omega)
   rintro j ⟨s1, s2⟩ hj ⟨lf, h1, h20, hz, hw, hl, hsl, hall, htot⟩
   have hw : zQe f (s2.map (·.1)) + wk f.Carry.toNat (fr f) 0 (ex lf (nF f)) = zdi f i := hw
   have hsl : s2.length = j := hsl
   have hall : ∀ t ∈ s2.map (·.1), zTg f t := hall
   have htot : ∀ x, x < nF f → tot (s2.map (·.1)) x + lf x = ((pc (lns f i) x : Nat) : Int) := htot
   simp only [zNh, z1q, Option.bind_some]
   refine Ok.cond (fun hb => ?_) (fun hb => ?_)
   ·have hne : ex lf (nF f) ≠ [] := by
     intro he
     have hall := zlt.1 he
     have : eqI s1 (fun _ => 0) 0 12 = true := (z1o _ _ 12 0).2 fun t _ ht => by
      have := h1 t (by omega)
      simp only at this
      rw [this]
      by_cases e : t < nF f
      ·rw [hall t e]; rfl
      ·rw [hz t (by omega)]; rfl
     rw [this] at hb
     cases hb
    rw [zgh hs.far]
    simp only [z9x]
    refine Ok.bind (zny hk hF _ _ _ h1 h20) fun v ⟨a, b, ha, hb', hd, ht, hx, hle, hy⟩ => ?_
    refine Ok.bind (zfy hk _ _ _ _ hb') fun w hw' => ?_
    rw [hw']
    obtain ⟨x, tl, hxt⟩ : ∃ x tl, ex lf (nF f) = x :: tl := by
     cases h : ex lf (nF f) with
     | nil => exact absurd h hne
     | cons x tl => exact ⟨x, tl, rfl⟩
    have hsum : ∀ y, y < nF f → a y + b y = lf y := fun y hy => by
     have h1 := zvn lf y (nF f)
     have h2 := zvn a y (nF f)
     have h3 := zvn b y (nF f)
     rw [if_pos hy] at h1 h2 h3
     have h4 : (ex lf (nF f)).count y = (ex b (nF f)).count y + (ex a (nF f)).count y := by
      rw [ht, hd, ← List.count_append, List.take_append_drop]
     omega
    have hb20 : ∀ y, b y ≤ 20 := fun y => by
     by_cases e : y < nF f
     ·have := hsum y e; have := h20 y; omega
     ·have := hy y (by omega); omega
    have hexb : ex b 12 = ex b (nF f) := zYo (by omega) fun j h1 _ => hy j h1
    obtain ⟨c, hc⟩ : ∃ c, f.Carry.toNat = c + 1 := ⟨f.Carry.toNat - 1, by omega⟩
    have hbx : ex b 12 = x :: tl.take c := by rw [hexb, ht, hxt, hc, List.take_succ_cons]
    have htop : topF b (fr f) 12 = fr f x := zkv hbx
    have hfine := zQp (n := nF f) hb20 hy 12
    have hload := zKp b 12
    have hok : zTg f (zfb b 12) := by
     refine ⟨fun e => ?_, hfine, ?_⟩
     ·rw [e, hbx] at hload
      simp only [zLb, List.length_cons] at hload
      omega
     ·rw [hload, hexb, ht, List.length_take]
      omega
    have hlast : fr f (zYl (zfb b 12)).toNat = fr f x := by
     rcases zxn b 12 with ⟨h, _⟩ | ⟨_, s, h2, _, h4⟩
     ·exact absurd h hok.1
     ·rw [h2, Int.toNat_natCast, ← h4 (fr f), htop]
    have hcons := zUy (C := f.Carry.toNat) (by omega) (fr f) x tl
    rw [← hxt, ← hd] at hcons
    have c3 : decide (s2.length + 1 ≤ LIM) = true := z7n (by omega)
    rw [c3, cond_true]
    have hxl : (ex lf (nF f)).length = tl.length + 1 := by rw [hxt]; rfl
    refine Ok.pure ⟨by omega, a, ha, fun y => by have := hle y; have := h20 y; omega, fun y hy' => by rw [hx y hy']; exact hz y hy', ?_, ?_, ?_, fun u hu => ?_, fun y hy' => ?_⟩
    ·show zQe f ((s2 ++ [(zfb b 12, xcap true (zfb b 12))]).map (·.1)) + _ = _
     rw [List.map_append]
     show zQe f (s2.map (·.1) ++ [zfb b 12]) + _ = _
     rw [zHv, hlast]
     omega
    ·rw [hd, List.length_drop]
     omega
    ·show (s2 ++ [(zfb b 12, xcap true (zfb b 12))]).length = _
     rw [List.length_append]; simp [hsl]
    ·have hu : u ∈ (s2 ++ [(zfb b 12, xcap true (zfb b 12))]).map (·.1) := hu
     rw [List.map_append] at hu
     rcases List.mem_append.1 hu with h | h
     ·exact hall u h
     ·obtain rfl : u = zfb b 12 := by simpa using h
      exact hok
    ·show tot ((s2 ++ [(zfb b 12, xcap true (zfb b 12))]).map (·.1)) y + _ = _
     rw [List.map_append]
     show tot (s2.map (·.1) ++ [zfb b 12]) y + _ = _
     rw [zuu, zIs, if_pos (by omega)]
     have h1 := htot y hy'
     have h2 := hsum y hy'
     omega
   ·have hall2 : eqI s1 (fun _ => 0) 0 12 = true := by simpa using hb
    have hall2 := (z1o _ _ 12 0).1 hall2
    have hz0 : ∀ t, t < nF f → lf t = 0 := fun t ht => by
     have e1 := h1 t (by omega)
     have e2 := hall2 t (by omega) (by omega)
     simp only at e1 e2
     rw [e1] at e2
     omega
    have he : ex lf (nF f) = [] := zlt.2 hz0
    rw [he, zYz] at hw
    refine Ok.pure ⟨⟨hall, fun x hx => ?_⟩, by show zQe f (s2.map (·.1)) = _; omega, by show s2.length ≤ 240; omega⟩
    have h1 := htot x hx
    have h2 := hz0 x hx
    show tot (s2.map (·.1)) x = _
    omega
  ·have e : (decide (0 ≤ n) && decide (n ≤ (nS f : Int) - 1)) = false := by
    cases hd : (decide (0 ≤ n) && decide (n ≤ (nS f : Int) - 1)) with
    | false => rfl
    | true => exact absurd ((zZl f n).1 hd) hn
   rw [e]
   exact Ok.pure (.inr (.inl ⟨hF, hn, rfl, rfl⟩))
 ·rw [if_neg hF] at hc'
  subst hc'
  have t : ((30 : Int) != 0) = true := by decide
  simp only [Option.bind_some, t, cond_true]
  exact Ok.pure (.inl ⟨hF, rfl, rfl⟩)
theorem zWB {k : Nat} {f : zh} (hk : 5000 < k) (hF : Fine f) {R : List (SL zj)} (hall : ∀ t ∈ R.map (·.1), zTg f t) (hl : R.length ≤ 240) : zjx k R := ⟨⟨by omega, by omega⟩, fun l hlm => by
 have h1 := zSl (hall l.1 (List.mem_map.2 ⟨l, hlm, rfl⟩)).2.1
 have h2 := hF.nfar
 omega⟩
end Go.AM.Sl
