/- The statement NamesakeTrue holds for every input that its row lets in. Conditions: none. -/
import Derived.Test.YtbigoihkijjeiaaDoorRows
import Derived.Test.YtbigoihkijjeiaaDoorTie
import Derived.Test.YtbigoihkijjeiaaDoorCards
import Derived.SevenTiedAt
import Derived.Test.YtbigoihkijjeiaaDoorE
set_option linter.all false
set_option linter.unusedVariables false
set_option linter.unusedSimpArgs false
set_option maxRecDepth 100000
namespace Go.AM
open Go Go.RowKit Go.ChangeShapes Go.WideShapes Go.ChangeAt
open Go.Proofs.YtbigoihkijjeiaaDoor
noncomputable abbrev PG : Program := Go.Proofs.Tryd.prog
theorem zWA : zTp TE := ⟨by kernel_rfl, Nat.le_of_ble_eq_true (by kernel_rfl), by kernel_rfl⟩
theorem z0x : ∀ a : zN, (z9f a).length = PG.cellsOf 58 := by
 have h : PG.cellsOf 58 = 2 := by kernel_rfl
 rw [h]; intro a; rfl
theorem zYt {W : World} : zLc PG W 58 false z9f zok :=
 (ztl (fs := z8n PG 58) (l := [z8 PG 58 0, z8 PG 58 1]) (by kernel_rfl) (by kernel_rfl) (fun p => by have := z0x ⟨p.1, p.2.1⟩; simpa [z9f, List.append_assoc] using this) (zsd (f := z8 PG 58 0) (off := 0) (z := 1) (e := eI) (good := fun (a : Int) => (-9223372036854775808 ≤ a ∧ a ≤ 9223372036854775807)) ((show (z8 PG 58 0).type = 3 by kernel_rfl) ▸ ((zrh false (by kernel_rfl)) : zLc PG W 3 false eI (fun (a : Int) => (-9223372036854775808 ≤ a ∧ a ≤ 9223372036854775807)))) (by kernel_rfl) (fun _ => rfl) (zsd (f := z8 PG 58 1) (off := 1) (z := 1) (e := eI) (good := fun (a : Int) => (-9223372036854775808 ≤ a ∧ a ≤ 9223372036854775807)) ((show (z8 PG 58 1).type = 3 by kernel_rfl) ▸ ((zrh false (by kernel_rfl)) : zLc PG W 3 false eI (fun (a : Int) => (-9223372036854775808 ≤ a ∧ a ≤ 9223372036854775807)))) (by kernel_rfl) (fun _ => rfl) (zHo _ false)))).map (fun p => ⟨p.1, p.2.1⟩) (fun p => by simp [z9f, List.append_assoc]) (fun p h => h)
theorem zDw : ∀ a : zn, (zd a).length = PG.cellsOf 60 := by
 have h : PG.cellsOf 60 = 6 := by kernel_rfl
 rw [h]; intro a; rfl
theorem zfu {W : World} : zLc PG W 60 false zd zNe :=
 (ztl (fs := z8n PG 60) (l := [z8 PG 60 0, z8 PG 60 1, z8 PG 60 2, z8 PG 60 3, z8 PG 60 4]) (by kernel_rfl) (by kernel_rfl) (fun p => by have := zDw ⟨p.1, p.2.1, p.2.2.1, p.2.2.2.1, p.2.2.2.2.1⟩; simpa [zd, List.append_assoc] using this) (zsd (f := z8 PG 60 0) (off := 0) (z := 1) (e := eI) (good := fun (a : Int) => (-9223372036854775808 ≤ a ∧ a ≤ 9223372036854775807)) ((show (z8 PG 60 0).type = 3 by kernel_rfl) ▸ ((zrh false (by kernel_rfl)) : zLc PG W 3 false eI (fun (a : Int) => (-9223372036854775808 ≤ a ∧ a ≤ 9223372036854775807)))) (by kernel_rfl) (fun _ => rfl) (zsd (f := z8 PG 60 1) (off := 1) (z := 1) (e := eI) (good := fun (a : Int) => (-9223372036854775808 ≤ a ∧ a ≤ 9223372036854775807)) ((show (z8 PG 60 1).type = 3 by kernel_rfl) ▸ ((zrh false (by kernel_rfl)) : zLc PG W 3 false eI (fun (a : Int) => (-9223372036854775808 ≤ a ∧ a ≤ 9223372036854775807)))) (by kernel_rfl) (fun _ => rfl) (zsd (f := z8 PG 60 2) (off := 2) (z := 2) (e := z9f) (good := fun (a : zN) => zok a) ((show (z8 PG 60 2).type = 58 by kernel_rfl) ▸ (zYt : zLc PG W 58 false z9f (fun (a : zN) => zok a))) (by kernel_rfl) (fun _ => rfl) (zsd (f := z8 PG 60 3) (off := 4) (z := 1) (e := eB) (good := fun (a : Bool) => True) ((show (z8 PG 60 3).type = 4 by kernel_rfl) ▸ ((zju false (by kernel_rfl)) : zLc PG W 4 false eB (fun (a : Bool) => True))) (by kernel_rfl) (fun _ => rfl) (zsd (f := z8 PG 60 4) (off := 5) (z := 1) (e := eI) (good := fun (a : Int) => (-9223372036854775808 ≤ a ∧ a ≤ 9223372036854775807)) ((show (z8 PG 60 4).type = 3 by kernel_rfl) ▸ ((zrh false (by kernel_rfl)) : zLc PG W 3 false eI (fun (a : Int) => (-9223372036854775808 ≤ a ∧ a ≤ 9223372036854775807)))) (by kernel_rfl) (fun _ => rfl) (zHo _ false))))))).map (fun p => ⟨p.1, p.2.1, p.2.2.1, p.2.2.2.1, p.2.2.2.2.1⟩) (fun p => by simp [zd, List.append_assoc]) (fun p h => h)
theorem opz3 : ∀ a : Int, (eI a).length = PG.cellsOf 3 := by
 have h : PG.cellsOf 3 = 1 := by kernel_rfl
 rw [h]; intro a; rfl
theorem zhz : ∀ a : (SL Int), ((eL eI) a).length = PG.cellsOf 27 := by
 have h : PG.cellsOf 27 = 1 := by kernel_rfl
 rw [h]; intro a; rfl
theorem z1y : ∀ a : (Nat → Int), ((aI 2) a).length = PG.cellsOf 53 := by
 have h : PG.cellsOf 53 = 2 := by kernel_rfl
 rw [h]; intro a; rfl
theorem zqz : ∀ a : za, (zb a).length = PG.cellsOf 26 := by
 have h : PG.cellsOf 26 = 4 := by kernel_rfl
 rw [h]; intro a; rfl
theorem z5u {W : World} : zLc PG W 26 true zb z1c :=
 (ztl (fs := z8n PG 26) (l := [z8 PG 26 0, z8 PG 26 1, z8 PG 26 2, z8 PG 26 3]) (by kernel_rfl) (by kernel_rfl) (fun p => by have := zqz ⟨p.1, p.2.1, p.2.2.1, p.2.2.2.1⟩; simpa [zb, List.append_assoc] using this) (zsd (f := z8 PG 26 0) (off := 0) (z := 1) (e := (eL zd)) (good := fun (a : (SL zn)) => zEg (fun (a : zn) => zNe a) a) ((show (z8 PG 26 0).type = 22 by kernel_rfl) ▸ ((z1i (U := 60) (by kernel_rfl) zfu (zDw) (Nat.le_of_ble_eq_true (by kernel_rfl))) : zLc PG W 22 true (eL zd) (fun (a : (SL zn)) => zEg (fun (a : zn) => zNe a) a))) (by kernel_rfl) (fun _ => rfl) (zsd (f := z8 PG 26 1) (off := 1) (z := 1) (e := (eL (eL eI))) (good := fun (a : (SL (SL Int))) => zEg (fun (a : (SL Int)) => zEg (fun (a : Int) => (-9223372036854775808 ≤ a ∧ a ≤ 9223372036854775807)) a) a) ((show (z8 PG 26 1).type = 23 by kernel_rfl) ▸ ((z1i (U := 27) (by kernel_rfl) (z1i (U := 3) (by kernel_rfl) (zrh false (by kernel_rfl)) (opz3) (Nat.le_of_ble_eq_true (by kernel_rfl))) (zhz) (Nat.le_of_ble_eq_true (by kernel_rfl))) : zLc PG W 23 true (eL (eL eI)) (fun (a : (SL (SL Int))) => zEg (fun (a : (SL Int)) => zEg (fun (a : Int) => (-9223372036854775808 ≤ a ∧ a ≤ 9223372036854775807)) a) a))) (by kernel_rfl) (fun _ => rfl) (zsd (f := z8 PG 26 2) (off := 2) (z := 1) (e := (eL (aI 2))) (good := fun (a : (SL (Nat → Int))) => zEg (fun (a : (Nat → Int)) => (∀ k, k < 2 → -9223372036854775808 ≤ a k ∧ a k ≤ 9223372036854775807)) a) ((show (z8 PG 26 2).type = 24 by kernel_rfl) ▸ ((z1i (U := 53) (by kernel_rfl) (zqv (U := 3) (by kernel_rfl) (by kernel_rfl) (by kernel_rfl) false (by kernel_rfl)) (z1y) (Nat.le_of_ble_eq_true (by kernel_rfl))) : zLc PG W 24 true (eL (aI 2)) (fun (a : (SL (Nat → Int))) => zEg (fun (a : (Nat → Int)) => (∀ k, k < 2 → -9223372036854775808 ≤ a k ∧ a k ≤ 9223372036854775807)) a))) (by kernel_rfl) (fun _ => rfl) (zsd (f := z8 PG 26 3) (off := 3) (z := 1) (e := eI) (good := fun (a : Int) => (-9223372036854775808 ≤ a ∧ a ≤ 9223372036854775807)) ((show (z8 PG 26 3).type = 3 by kernel_rfl) ▸ ((zrh true (by kernel_rfl)) : zLc PG W 3 true eI (fun (a : Int) => (-9223372036854775808 ≤ a ∧ a ≤ 9223372036854775807)))) (by kernel_rfl) (fun _ => rfl) (zHo _ true)))))).map (fun p => ⟨p.1, p.2.1, p.2.2.1, p.2.2.2.1⟩) (fun p => by simp [zb, List.append_assoc]) (fun p h => h)
theorem z4y : ownKnob PG.godebug = none := by kernel_rfl
theorem zEr : laidOutB PG = true := by kernel_rfl
theorem gTab : PG.globalNamed "wishbook/namesake.grounds" = some 0 := by kernel_rfl
theorem tTab : (PG.globals[0]?).map (·.type) = some 107 := by kernel_rfl
theorem uTab : PG.underlying 107 = some (.array 4 106) := by kernel_rfl
theorem uFun : PG.underlying 106 = some (.func #[72, 75, 3] #[4] false) := by kernel_rfl
theorem cFun : PG.cellsOf 106 = 1 := by kernel_rfl
theorem zGw : PG.underlying 4 = some .bool := by kernel_rfl
theorem zLv (os : Os) (args : Array Value) : laidMetH PG [("wishbook/namesake.grounds", Rows.laid_wishbook_namesake_grounds)] ((World.doorLaid PG 600 os).forCall (fun _ _ => 0) ⟨#[], args, []⟩).memory :=
 laidMetH_of_parts3 (fuel := 8) (laidMet_of_run' 8 (by kernel_rfl) (by kernel_rfl)) (by kernel_rfl) (by kernel_rfl)
theorem z1w {W : World} (h : laidMetH PG [("wishbook/namesake.grounds", Rows.laid_wishbook_namesake_grounds)] W) : W.cell? ⟨0, 0, none⟩ = some (.func (.func 112) #[] #[]) ∧ W.cell? ⟨0, 1, none⟩ = some (.func (.func 113) #[] #[]) ∧ W.cell? ⟨0, 2, none⟩ = some (.func (.func 114) #[] #[]) ∧ W.cell? ⟨0, 3, none⟩ = some (.func (.func 115) #[] #[]) := by
 obtain ⟨g, t, cs, fuel, p, hg, ht, hv, hd⟩ := h.funcs (List.mem_singleton.2 rfl)
 obtain rfl := Option.some.inj (gTab.symm.trans hg)
 obtain rfl := Option.some.inj (tTab.symm.trans ht)
 obtain ⟨xs, m, rfl, hx, hl, hn, hel⟩ := DataW.trod_array uTab hd
 have hu := uFun
 have h0 := hel 0 (by decide)
 have h1 := hel 1 (by decide)
 have h2 := hel 2 (by decide)
 have h3 := hel 3 (by decide)
 rw [cFun] at h0 h1 h2 h3
 match xs, hn with
 | [x0, x1, x2, x3], _ =>
  simp only [Prod.mk.injEq, List.map_cons, List.map_nil] at hx
  have hx1 := hx.1
  have e0 : x0.1 = .held [40, 119, 105, 115, 104, 98, 111, 111, 107, 47, 110, 97, 109, 101, 115, 97, 107, 101, 46, 98, 111, 111, 107, 41, 46, 98, 111, 114, 110] := by
   have : DataW.agg [x0.1, x1.1, x2.1, x3.1] = DataW.funcsOut (.agg [.iface "func" (.lit (.string [40, 119, 105, 115, 104, 98, 111, 111, 107, 47, 110, 97, 109, 101, 115, 97, 107, 101, 46, 98, 111, 111, 107, 41, 46, 98, 111, 114, 110])), .iface "func" (.lit (.string [40, 119, 105, 115, 104, 98, 111, 111, 107, 47, 110, 97, 109, 101, 115, 97, 107, 101, 46, 98, 111, 111, 107, 41, 46, 119, 97, 121])), .iface "func" (.lit (.string [40, 119, 105, 115, 104, 98, 111, 111, 107, 47, 110, 97, 109, 101, 115, 97, 107, 101, 46, 98, 111, 111, 107, 41, 46, 100, 101, 97, 116, 104])), .iface "func" (.lit (.string [40, 119, 105, 115, 104, 98, 111, 111, 107, 47, 110, 97, 109, 101, 115, 97, 107, 101, 46, 98, 111, 111, 107, 41, 46, 112, 97, 105, 114, 115]))]) := hx1.symm
   simp [DataW.funcsOut, DataW.funcsOutAll] at this
   exact this.1
  have e1 : x1.1 = .held [40, 119, 105, 115, 104, 98, 111, 111, 107, 47, 110, 97, 109, 101, 115, 97, 107, 101, 46, 98, 111, 111, 107, 41, 46, 119, 97, 121] := by
   have : DataW.agg [x0.1, x1.1, x2.1, x3.1] = DataW.funcsOut (.agg [.iface "func" (.lit (.string [40, 119, 105, 115, 104, 98, 111, 111, 107, 47, 110, 97, 109, 101, 115, 97, 107, 101, 46, 98, 111, 111, 107, 41, 46, 98, 111, 114, 110])), .iface "func" (.lit (.string [40, 119, 105, 115, 104, 98, 111, 111, 107, 47, 110, 97, 109, 101, 115, 97, 107, 101, 46, 98, 111, 111, 107, 41, 46, 119, 97, 121])), .iface "func" (.lit (.string [40, 119, 105, 115, 104, 98, 111, 111, 107, 47, 110, 97, 109, 101, 115, 97, 107, 101, 46, 98, 111, 111, 107, 41, 46, 100, 101, 97, 116, 104])), .iface "func" (.lit (.string [40, 119, 105, 115, 104, 98, 111, 111, 107, 47, 110, 97, 109, 101, 115, 97, 107, 101, 46, 98, 111, 111, 107, 41, 46, 112, 97, 105, 114, 115]))]) := hx1.symm
   simp [DataW.funcsOut, DataW.funcsOutAll] at this
   exact this.2.1
  have e2 : x2.1 = .held [40, 119, 105, 115, 104, 98, 111, 111, 107, 47, 110, 97, 109, 101, 115, 97, 107, 101, 46, 98, 111, 111, 107, 41, 46, 100, 101, 97, 116, 104] := by
   have : DataW.agg [x0.1, x1.1, x2.1, x3.1] = DataW.funcsOut (.agg [.iface "func" (.lit (.string [40, 119, 105, 115, 104, 98, 111, 111, 107, 47, 110, 97, 109, 101, 115, 97, 107, 101, 46, 98, 111, 111, 107, 41, 46, 98, 111, 114, 110])), .iface "func" (.lit (.string [40, 119, 105, 115, 104, 98, 111, 111, 107, 47, 110, 97, 109, 101, 115, 97, 107, 101, 46, 98, 111, 111, 107, 41, 46, 119, 97, 121])), .iface "func" (.lit (.string [40, 119, 105, 115, 104, 98, 111, 111, 107, 47, 110, 97, 109, 101, 115, 97, 107, 101, 46, 98, 111, 111, 107, 41, 46, 100, 101, 97, 116, 104])), .iface "func" (.lit (.string [40, 119, 105, 115, 104, 98, 111, 111, 107, 47, 110, 97, 109, 101, 115, 97, 107, 101, 46, 98, 111, 111, 107, 41, 46, 112, 97, 105, 114, 115]))]) := hx1.symm
   simp [DataW.funcsOut, DataW.funcsOutAll] at this
   exact this.2.2.1
  have e3 : x3.1 = .held [40, 119, 105, 115, 104, 98, 111, 111, 107, 47, 110, 97, 109, 101, 115, 97, 107, 101, 46, 98, 111, 111, 107, 41, 46, 112, 97, 105, 114, 115] := by
   have : DataW.agg [x0.1, x1.1, x2.1, x3.1] = DataW.funcsOut (.agg [.iface "func" (.lit (.string [40, 119, 105, 115, 104, 98, 111, 111, 107, 47, 110, 97, 109, 101, 115, 97, 107, 101, 46, 98, 111, 111, 107, 41, 46, 98, 111, 114, 110])), .iface "func" (.lit (.string [40, 119, 105, 115, 104, 98, 111, 111, 107, 47, 110, 97, 109, 101, 115, 97, 107, 101, 46, 98, 111, 111, 107, 41, 46, 119, 97, 121])), .iface "func" (.lit (.string [40, 119, 105, 115, 104, 98, 111, 111, 107, 47, 110, 97, 109, 101, 115, 97, 107, 101, 46, 98, 111, 111, 107, 41, 46, 100, 101, 97, 116, 104])), .iface "func" (.lit (.string [40, 119, 105, 115, 104, 98, 111, 111, 107, 47, 110, 97, 109, 101, 115, 97, 107, 101, 46, 98, 111, 111, 107, 41, 46, 112, 97, 105, 114, 115]))]) := hx1.symm
   simp [DataW.funcsOut, DataW.funcsOutAll] at this
   exact this.2.2.2
  obtain ⟨d0, p0⟩ := x0
  obtain ⟨d1, p1⟩ := x1
  obtain ⟨d2, p2⟩ := x2
  obtain ⟨d3, p3⟩ := x3
  simp only at e0 e1 e2 e3
  subst e0; subst e1; subst e2; subst e3
  have hsz : cs.toList.length = 4 := by rw [hl]; kernel_rfl
  match hcs : cs.toList, hsz with
  | [c0, c1, c2, c3], _ =>
   rw [hcs] at h0 h1 h2 h3
   have k0 : DataW.trod (funcToken PG) PG W 0 (fun _ => true) true m 106 [c0] = some (.held (40 :: [119, 105, 115, 104, 98, 111, 111, 107, 47, 110, 97, 109, 101, 115, 97, 107, 101, 46, 98, 111, 111, 107, 41, 46, 98, 111, 114, 110]), p0) := h0
   have k1 : DataW.trod (funcToken PG) PG W 0 (fun _ => true) true m 106 [c1] = some (.held (40 :: [119, 105, 115, 104, 98, 111, 111, 107, 47, 110, 97, 109, 101, 115, 97, 107, 101, 46, 98, 111, 111, 107, 41, 46, 119, 97, 121]), p1) := h1
   have k2 : DataW.trod (funcToken PG) PG W 0 (fun _ => true) true m 106 [c2] = some (.held (40 :: [119, 105, 115, 104, 98, 111, 111, 107, 47, 110, 97, 109, 101, 115, 97, 107, 101, 46, 98, 111, 111, 107, 41, 46, 100, 101, 97, 116, 104]), p2) := h2
   have k3 : DataW.trod (funcToken PG) PG W 0 (fun _ => true) true m 106 [c3] = some (.held (40 :: [119, 105, 115, 104, 98, 111, 111, 107, 47, 110, 97, 109, 101, 115, 97, 107, 101, 46, 98, 111, 111, 107, 41, 46, 112, 97, 105, 114, 115]), p3) := h3
   obtain rfl := func_of_trod (f0 := 112) hu (by kernel_rfl) k0
   obtain rfl := func_of_trod (f0 := 113) hu (by kernel_rfl) k1
   obtain rfl := func_of_trod (f0 := 114) hu (by kernel_rfl) k2
   obtain rfl := func_of_trod (f0 := 115) hu (by kernel_rfl) k3
   have v0 := World.var?_cell hg hv 0
   have v1 := World.var?_cell hg hv 1
   have v2 := World.var?_cell hg hv 2
   have v3 := World.var?_cell hg hv 3
   rw [← Array.getElem?_toList, hcs] at v0 v1 v2 v3
   exact ⟨by simpa using v0, by simpa using v1, by simpa using v2, by simpa using v3⟩
theorem zTw {W : World} (h : laidMetH PG [("wishbook/namesake.grounds", Rows.laid_wishbook_namesake_grounds)] W) : ∀ g cs, TE.G g = some cs → DR (zbg W) (.pin cs) (.pointer (some ⟨g, 0, none⟩)) := by
 obtain ⟨h0, h1, h2, h3⟩ := z1w h
 intro g cs hg
 have : g = 0 ∧ cs = [.fn 112 [] [], .fn 113 [] [], .fn 114 [] [], .fn 115 [] []] := by
  match g, hg with
  | 0, hg => exact ⟨rfl, (Option.some.inj hg).symm⟩
 obtain ⟨rfl, rfl⟩ := this
 refine .pin (fun j => if j = 0 then .func (.func 112) #[] #[] else if j = 1 then .func (.func 113) #[] #[] else if j = 2 then .func (.func 114) #[] #[] else .func (.func 115) #[] #[]) (fun d hd => ?_) (fun j d hd => ?_) (fun j d hd => ?_)
 ·simp at hd; rcases hd with rfl | rfl | rfl | rfl <;> rfl
 ·match j, hd with
  | 0, _ => exact h0
  | 1, _ => exact h1
  | 2, _ => exact h2
  | 3, _ => exact h3
 ·match j, hd with
  | 0, hd => simp at hd; subst hd; exact .fn rfl rfl (fun j d h => by simp at h) (fun j d h => by simp at h)
  | 1, hd => simp at hd; subst hd; exact .fn rfl rfl (fun j d h => by simp at h) (fun j d h => by simp at h)
  | 2, hd => simp at hd; subst hd; exact .fn rfl rfl (fun j d h => by simp at h) (fun j d h => by simp at h)
  | 3, hd => simp at hd; subst hd; exact .fn rfl rfl (fun j d h => by simp at h) (fun j d h => by simp at h)
theorem zIv (fin : ∀ (x0 : za) (x1 : (SL Int)), z1c x0 → zEg (fun (a : Int) => (-9223372036854775808 ≤ a ∧ a ≤ 9223372036854775807)) x1 → ∃ k, zGb k x0 x1 = some true) : ∀ (x0 : za) (x1 : (SL Int)), z1c x0 → zEg (fun (a : Int) => (-9223372036854775808 ≤ a ∧ a ≤ 9223372036854775807)) x1 → zx TE (ev TE) 6 [.agg (zb x0), (dl eI x1.1 x1.2)] = some (.b true) := by
 intro x0 x1 g0 g1
 obtain ⟨k, hk⟩ := fin x0 x1 g0 g1
 exact zqk k x0 x1 _ hk
theorem zcw (hE : zTp TE) (ans : ∀ (x0 : za) (x1 : (SL Int)), z1c x0 → zEg (fun (a : Int) => (-9223372036854775808 ≤ a ∧ a ≤ 9223372036854775807)) x1 → zx TE (ev TE) 6 [.agg (zb x0), (dl eI x1.1 x1.2)] = some (.b true)) : Rows.NamesakeTrueSaid := by
 have u0 : (match PG.underlying 26 with | some (.struct _) => true | some (.array _ _) => true | _ => false) = true := by kernel_rfl
 have u1 : (match PG.underlying 27 with | some (.struct _) => false | some (.array _ _) => false | _ => true) = true := by kernel_rfl
 have hf : PG.funcs[6]? = some Go.Proofs.Tryd.f6 := by kernel_rfl
 have hpar : Go.Proofs.Tryd.f6.params = #[26, 27] := by kernel_rfl
 have lifted : ∀ (os : Os) (started : os.Started) (H : Type) (enc : TypeId × Value → H), ReturnsInHanded {} Go.Proofs.Tryd.checked os 6 .any (fun w args => (Rows.namesakeTrueSpec.pre enc PG Go.Proofs.Tryd.f6 [] false w args ∧ laidMetH PG [("wishbook/namesake.grounds", Rows.laid_wishbook_namesake_grounds)] w) ∧ sizedMet enc PG Go.Proofs.Tryd.f6 (OpenSpec.ofChange Rows.namesakeTrueSpec) false w args)
   (Rows.namesakeTrueSpec.post enc PG Go.Proofs.Tryd.f6 false true false false) := by
  intro os started H enc
  refine returnsInHanded_of_change_and (C := Go.Proofs.Tryd.checked) (X := fun w _ => laidMetH PG [("wishbook/namesake.grounds", Rows.laid_wishbook_namesake_grounds)] w) (fun _ _ _ hh h => h.of_heap hh) z4y started (by kernel_rfl) hf
   (ChangeSpec.witness_shaped (enc := enc) (C := Go.Proofs.Tryd.checked) (os := os) (X := fun w _ => laidMetH PG [("wishbook/namesake.grounds", Rows.laid_wishbook_namesake_grounds)] w) false (World.doorLaid PG 600 os) #[.agg #[.slice none 0 0, .slice none 0 0, .slice none 0 0, .int .i64 0], .slice none 0 0] 8 rfl (World.shaped_of_RefB (by kernel_rfl) (by kernel_rfl)) (by kernel_rfl) (by kernel_rfl) (by kernel_rfl) (zLv os _)) ?_
  intro W base args ds gs before hval0 hW _ _ hL _
  have hval : ∀ (j : Nat) t v, Go.Proofs.Tryd.f6.params[j]? = some t → args[j]? = some v → Value.okWide PG W .any base t v := hval0
  have hW' := hW
  obtain ⟨p, q, hA0, hV, rfl, hfz, hnd⟩ := hW
  have hA : DataW.TrodAll enc PG W 0 (fun _ => true) true Go.Proofs.Tryd.f6.params.toList args.toList ds p := hA0
  rw [hpar] at hA hval
  obtain ⟨v0, v1, d0, d1, p0, p1, rfl, rfl, rfl, h0, h1⟩ := trodAll_two hA
  obtain ⟨rfl, rfl⟩ := trodVars_none hV
  obtain ⟨x0, e0, g0⟩ := z7w z5u u0 (hval 0 26 v0 rfl rfl) h0
  obtain ⟨x1, e1, g1⟩ := zdv (P := PG) (W := W) (T := 27) (U := 3) (z1i (U := 3) (by kernel_rfl) (zrh false (by kernel_rfl)) (opz3) (Nat.le_of_ble_eq_true (by kernel_rfl))) (by kernel_rfl) (hval 1 27 v1 rfl rfl) h1
  have hlt : ∀ x ∈ (p0 ++ p1) ++ [], x.block < W.heap.size := fun x hx => hW'.lt x hx
  have hcall := (z9w hE 6 _ _ (ans x0 x1 g0 g1) (zbg W) W #[v0, v1] (zCv (zTw hL)) rfl (fun j x hx => by
   match j, hx with
   | 0, hx => simp at hx; subst hx; exact e0
   | 1, hx => simp at hx; subst hx; exact e1)).2
  refine (hcall.calls (fun k => by simp [FW, Fence.wide, Fence.room])).mono fun e W' ⟨v, m', he, hn, hv⟩ => ?_
  subst he
  cases hv
  refine ⟨_, rfl, z7r (pa := p0 ++ p1) (pv := []) hW' (fun _ _ _ => trodAll_mk1 (shut_bool zGw _)) (fun sp hs => ?_) (fun _ _ => rfl) rfl hn.below (ok_one (by kernel_rfl) rfl (okWide_bool_mk zGw _))⟩
  exact trodAll_mk2 (WideElems.Trod_stays zEr (by kernel_rfl) (of_decide_eq_true (by kernel_rfl)) h0 (fun x hx => hn.below.same (hlt x (by simp [hx]))) (fun x hx => hs x (by simp [hx]))) (WideElems.Trod_stays zEr (by kernel_rfl) (of_decide_eq_true (by kernel_rfl)) h1 (fun x hx => hn.below.same (hlt x (by simp [hx]))) (fun x hx => hs x (by simp [hx])))
 exact OpenClaim.holds_of_wide 6 Go.Proofs.Tryd.f6 rfl rfl rfl rfl rfl rfl rfl ⟨rfl, rfl, rfl, rfl, rfl⟩ rfl rfl rfl rfl rfl (by kernel_rfl) hf (by kernel_rfl)
  (of_decide_eq_true (by kernel_rfl)) (by unfold Func.isWrapper; first | (rw [if_pos (by decide +kernel)]; kernel_rfl) | (rw [if_neg (by decide +kernel)]; exact ⟨rfl, rfl⟩))
  (fun os started H enc _ => lifted os started H enc)
end Go.AM
namespace Go.Proofs.YtbigoihkijjeiaaDoor
open Go
theorem namesakeTrue_proved : Rows.NamesakeTrueCardSaid :=
 Claim7.holds_tied_plain_at .later [] [.funcs] true (true, "04804f3628b06ae4647b3c1d1d172d7d112a4af6591ca46ea95ba00bf908074f") false
  (Go.AM.zcw Go.AM.zWA (Go.AM.zIv Go.AM.zkw)) (fun _ h => by cases h) (by kernel_rfl) (fun _ h => by cases h) namesakeTrue_row_tie rfl ⟨rfl, rfl⟩ (by kernel_rfl) rfl
  (fun f fn hf hfn => by
   obtain rfl : f = 6 := Option.some.inj ((show Tryd.prog.funcNamed "wishbook/wishbooklaw08.NamesakeTrue" = some 6 by kernel_rfl).symm.trans hf) |>.symm
   obtain rfl : fn = Tryd.f6 := (Option.some.inj ((show Tryd.prog.funcs[6]? = some Tryd.f6 by kernel_rfl).symm.trans hfn)).symm
   exact ⟨by kernel_rfl, fun j t ht => by
    rw [show Tryd.f6.params = #[26, 27] by kernel_rfl] at ht
    have hm : t ∈ [26, 27] := by simpa using Array.mem_of_getElem? ht
    have hall : ([26, 27].all fun u => !Tryd.prog.wantsStandIn u) = true := by kernel_rfl
    exact (show Tryd.prog.wantsStandIn t = false by simpa using List.all_eq_true.1 hall t hm)⟩)
  (by kernel_rfl)
end Go.Proofs.YtbigoihkijjeiaaDoor
