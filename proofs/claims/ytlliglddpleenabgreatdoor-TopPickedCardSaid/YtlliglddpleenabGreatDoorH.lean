/- The statement TopPicked holds for every input that its row lets in. Conditions: none. -/
import Derived.Test.YtlliglddpleenabGreatDoorRows
import Derived.Test.YtlliglddpleenabGreatDoorTie
import Derived.Test.YtlliglddpleenabGreatDoorCards
import Derived.SevenTiedAt
import Derived.Test.YtlliglddpleenabGreatDoorG
set_option linter.all false
set_option linter.unusedVariables false
set_option linter.unusedSimpArgs false
set_option maxRecDepth 100000
namespace Go.AM
open Go Go.RowKit Go.ChangeShapes Go.WideShapes Go.ChangeAt
open Go.Proofs.YtlliglddpleenabGreatDoor
noncomputable abbrev PG : Program := Go.Proofs.Tryz.prog
theorem zyD : zUo TE := ⟨by kernel_rfl, Nat.le_of_ble_eq_true (by kernel_rfl), by kernel_rfl⟩
theorem opz3 : ∀ a : Int, (eI a).length = PG.cellsOf 3 := by
 have h : PG.cellsOf 3 = 1 := by kernel_rfl
 rw [h]; intro a; rfl
theorem zNv : ∀ a : zD, (zO a).length = PG.cellsOf 24 := by
 have h : PG.cellsOf 24 = 2 := by kernel_rfl
 rw [h]; intro a; rfl
theorem zlw {W : World} : zSb PG W 24 false zO zwd :=
 (zkg (fs := zej PG 24) (l := [zcb PG 24 0, zcb PG 24 1]) (by kernel_rfl) (by kernel_rfl) (fun p => by have := zNv ⟨p.1, p.2.1⟩; simpa [zO, List.append_assoc] using this) (zTb (f := zcb PG 24 0) (off := 0) (z := 1) (e := eI) (good := fun (a : Int) => (-9223372036854775808 ≤ a ∧ a ≤ 9223372036854775807)) ((show (zcb PG 24 0).type = 3 by kernel_rfl) ▸ ((z6d false (by kernel_rfl)) : zSb PG W 3 false eI (fun (a : Int) => (-9223372036854775808 ≤ a ∧ a ≤ 9223372036854775807)))) (by kernel_rfl) (fun _ => rfl) (zTb (f := zcb PG 24 1) (off := 1) (z := 1) (e := eI) (good := fun (a : Int) => (-9223372036854775808 ≤ a ∧ a ≤ 9223372036854775807)) ((show (zcb PG 24 1).type = 3 by kernel_rfl) ▸ ((z6d false (by kernel_rfl)) : zSb PG W 3 false eI (fun (a : Int) => (-9223372036854775808 ≤ a ∧ a ≤ 9223372036854775807)))) (by kernel_rfl) (fun _ => rfl) (zJi _ false)))).map (fun p => ⟨p.1, p.2.1⟩) (fun p => by simp [zO, List.append_assoc]) (fun p h => h)
theorem zex {W : World} : zSb PG W 24 true zO zwd :=
 (zkg (fs := zej PG 24) (l := [zcb PG 24 0, zcb PG 24 1]) (by kernel_rfl) (by kernel_rfl) (fun p => by have := zNv ⟨p.1, p.2.1⟩; simpa [zO, List.append_assoc] using this) (zTb (f := zcb PG 24 0) (off := 0) (z := 1) (e := eI) (good := fun (a : Int) => (-9223372036854775808 ≤ a ∧ a ≤ 9223372036854775807)) ((show (zcb PG 24 0).type = 3 by kernel_rfl) ▸ ((z6d true (by kernel_rfl)) : zSb PG W 3 true eI (fun (a : Int) => (-9223372036854775808 ≤ a ∧ a ≤ 9223372036854775807)))) (by kernel_rfl) (fun _ => rfl) (zTb (f := zcb PG 24 1) (off := 1) (z := 1) (e := eI) (good := fun (a : Int) => (-9223372036854775808 ≤ a ∧ a ≤ 9223372036854775807)) ((show (zcb PG 24 1).type = 3 by kernel_rfl) ▸ ((z6d true (by kernel_rfl)) : zSb PG W 3 true eI (fun (a : Int) => (-9223372036854775808 ≤ a ∧ a ≤ 9223372036854775807)))) (by kernel_rfl) (fun _ => rfl) (zJi _ true)))).map (fun p => ⟨p.1, p.2.1⟩) (fun p => by simp [zO, List.append_assoc]) (fun p h => h)
theorem zEy : ∀ a : zj, (zk a).length = PG.cellsOf 47 := by
 have h : PG.cellsOf 47 = 2 := by kernel_rfl
 rw [h]; intro a; rfl
theorem zow {W : World} : zSb PG W 47 false zk z3f :=
 (zkg (fs := zej PG 47) (l := [zcb PG 47 0, zcb PG 47 1]) (by kernel_rfl) (by kernel_rfl) (fun p => by have := zEy ⟨p.1, p.2.1⟩; simpa [zk, List.append_assoc] using this) (zTb (f := zcb PG 47 0) (off := 0) (z := 1) (e := eI) (good := fun (a : Int) => (-9223372036854775808 ≤ a ∧ a ≤ 9223372036854775807)) ((show (zcb PG 47 0).type = 3 by kernel_rfl) ▸ ((z6d false (by kernel_rfl)) : zSb PG W 3 false eI (fun (a : Int) => (-9223372036854775808 ≤ a ∧ a ≤ 9223372036854775807)))) (by kernel_rfl) (fun _ => rfl) (zTb (f := zcb PG 47 1) (off := 1) (z := 1) (e := eI) (good := fun (a : Int) => (-9223372036854775808 ≤ a ∧ a ≤ 9223372036854775807)) ((show (zcb PG 47 1).type = 3 by kernel_rfl) ▸ ((z6d false (by kernel_rfl)) : zSb PG W 3 false eI (fun (a : Int) => (-9223372036854775808 ≤ a ∧ a ≤ 9223372036854775807)))) (by kernel_rfl) (fun _ => rfl) (zJi _ false)))).map (fun p => ⟨p.1, p.2.1⟩) (fun p => by simp [zk, List.append_assoc]) (fun p h => h)
theorem zIy : ∀ a : zJ, (zL a).length = PG.cellsOf 77 := by
 have h : PG.cellsOf 77 = 2 := by kernel_rfl
 rw [h]; intro a; rfl
theorem zJv {W : World} : zSb PG W 77 false zL zWf :=
 (zkg (fs := zej PG 77) (l := [zcb PG 77 0, zcb PG 77 1]) (by kernel_rfl) (by kernel_rfl) (fun p => by have := zIy ⟨p.1, p.2.1⟩; simpa [zL, List.append_assoc] using this) (zTb (f := zcb PG 77 0) (off := 0) (z := 1) (e := (eL zk)) (good := fun (a : (SL zj)) => zpi 16 (fun (a : zj) => z3f a) a) ((show (zcb PG 77 0).type = 45 by kernel_rfl) ▸ ((zrj (U := 47) (by kernel_rfl) zow (zEy) (Nat.le_of_ble_eq_true (by kernel_rfl)) (zb := 16) (Nat.le_of_ble_eq_true (by kernel_rfl))) : zSb PG W 45 false (eL zk) (fun (a : (SL zj)) => zpi 16 (fun (a : zj) => z3f a) a))) (by kernel_rfl) (fun _ => rfl) (zTb (f := zcb PG 77 1) (off := 1) (z := 1) (e := eI) (good := fun (a : Int) => (-9223372036854775808 ≤ a ∧ a ≤ 9223372036854775807)) ((show (zcb PG 77 1).type = 3 by kernel_rfl) ▸ ((z6d false (by kernel_rfl)) : zSb PG W 3 false eI (fun (a : Int) => (-9223372036854775808 ≤ a ∧ a ≤ 9223372036854775807)))) (by kernel_rfl) (fun _ => rfl) (zJi _ false)))).map (fun p => ⟨p.1, p.2.1⟩) (fun p => by simp [zL, List.append_assoc]) (fun p h => h)
theorem zQA : ∀ a : zh, (zl a).length = PG.cellsOf 28 := by
 have h : PG.cellsOf 28 = 6 := by kernel_rfl
 rw [h]; intro a; rfl
theorem zsx {W : World} : zSb PG W 28 true zl zRc :=
 (zkg (fs := zej PG 28) (l := [zcb PG 28 0, zcb PG 28 1, zcb PG 28 2, zcb PG 28 3, zcb PG 28 4]) (by kernel_rfl) (by kernel_rfl) (fun p => by have := zQA ⟨p.1, p.2.1, p.2.2.1, p.2.2.2.1, p.2.2.2.2.1⟩; simpa [zl, List.append_assoc] using this) (zTb (f := zcb PG 28 0) (off := 0) (z := 1) (e := (eL eI)) (good := fun (a : (SL Int)) => zew (fun (a : Int) => (-9223372036854775808 ≤ a ∧ a ≤ 9223372036854775807)) a) ((show (zcb PG 28 0).type = 22 by kernel_rfl) ▸ ((zrj (U := 3) (by kernel_rfl) (z6d false (by kernel_rfl)) (opz3) (Nat.le_of_ble_eq_true (by kernel_rfl)) (zb := 8) (Nat.le_of_ble_eq_true (by kernel_rfl))) : zSb PG W 22 true (eL eI) (fun (a : (SL Int)) => zew (fun (a : Int) => (-9223372036854775808 ≤ a ∧ a ≤ 9223372036854775807)) a))) (by kernel_rfl) (fun _ => rfl) (zTb (f := zcb PG 28 1) (off := 1) (z := 2) (e := zO) (good := fun (a : zD) => zwd a) ((show (zcb PG 28 1).type = 24 by kernel_rfl) ▸ (zex : zSb PG W 24 true zO (fun (a : zD) => zwd a))) (by kernel_rfl) (fun _ => rfl) (zTb (f := zcb PG 28 2) (off := 3) (z := 1) (e := (eL zO)) (good := fun (a : (SL zD)) => zpi 16 (fun (a : zD) => zwd a) a) ((show (zcb PG 28 2).type = 25 by kernel_rfl) ▸ ((zrj (U := 24) (by kernel_rfl) zlw (zNv) (Nat.le_of_ble_eq_true (by kernel_rfl)) (zb := 16) (Nat.le_of_ble_eq_true (by kernel_rfl))) : zSb PG W 25 true (eL zO) (fun (a : (SL zD)) => zpi 16 (fun (a : zD) => zwd a) a))) (by kernel_rfl) (fun _ => rfl) (zTb (f := zcb PG 28 3) (off := 4) (z := 1) (e := eI) (good := fun (a : Int) => (-9223372036854775808 ≤ a ∧ a ≤ 9223372036854775807)) ((show (zcb PG 28 3).type = 3 by kernel_rfl) ▸ ((z6d true (by kernel_rfl)) : zSb PG W 3 true eI (fun (a : Int) => (-9223372036854775808 ≤ a ∧ a ≤ 9223372036854775807)))) (by kernel_rfl) (fun _ => rfl) (zTb (f := zcb PG 28 4) (off := 5) (z := 1) (e := (eL zL)) (good := fun (a : (SL zJ)) => zpi 32 (fun (a : zJ) => zWf a) a) ((show (zcb PG 28 4).type = 26 by kernel_rfl) ▸ ((zrj (U := 77) (by kernel_rfl) zJv (zIy) (Nat.le_of_ble_eq_true (by kernel_rfl)) (zb := 32) (Nat.le_of_ble_eq_true (by kernel_rfl))) : zSb PG W 26 true (eL zL) (fun (a : (SL zJ)) => zpi 32 (fun (a : zJ) => zWf a) a))) (by kernel_rfl) (fun _ => rfl) (zJi _ true))))))).map (fun p => ⟨p.1, p.2.1, p.2.2.1, p.2.2.2.1, p.2.2.2.2.1⟩) (fun p => by simp [zl, List.append_assoc]) (fun p h => h)
theorem zkw : joinedFacts Tryz.pinned.checked.prog 3 Go.Proofs.Tryz.f3 Rows.topPickedSpec Rows.topPickedRow = true := by kernel_rfl
theorem zqB : ownKnob PG.godebug = none := by kernel_rfl
theorem zNo : laidOutB PG = true := by kernel_rfl
theorem zPy : PG.underlying 4 = some .bool := by kernel_rfl
theorem zby (os : Os) (args : Array Value) : laidMetH PG [("wishbook/book.kinds", Rows.laid_wishbook_book_kinds), ("wishbook/shelf.steps", Rows.laid_wishbook_shelf_steps)] ((World.doorLaid PG 600 os).forCall (fun _ _ => 0) ⟨#[], args, []⟩).memory :=
 laidMetH_of_parts3 (fuel := 8) (laidMet_of_run' 8 (by kernel_rfl) (by kernel_rfl)) (by kernel_rfl) (by kernel_rfl)
theorem zpB : PG.globalNamed "wishbook/book.kinds" = some 2 := by kernel_rfl
theorem zlB : (PG.globals[2]?).map (·.type) = some 328 := by kernel_rfl
theorem z2B : PG.underlying 328 = some (.array 2 327) := by kernel_rfl
theorem zcB : PG.underlying 327 = some (.func #[207, 3] #[24] false) := by kernel_rfl
theorem zdA : PG.cellsOf 327 = 1 := by kernel_rfl
theorem zjy {W : World} (h : laidMetH PG [("wishbook/book.kinds", Rows.laid_wishbook_book_kinds), ("wishbook/shelf.steps", Rows.laid_wishbook_shelf_steps)] W) : W.cell? ⟨2, 0, none⟩ = some (.func (.func 271) #[] #[]) ∧ W.cell? ⟨2, 1, none⟩ = some (.func (.func 272) #[] #[]) := by
 obtain ⟨g, t, cs, fuel, p, hg, ht, hv, hd⟩ := h.funcs List.mem_cons_self
 obtain rfl := Option.some.inj (zpB.symm.trans hg)
 obtain rfl := Option.some.inj (zlB.symm.trans ht)
 obtain ⟨xs, m, rfl, hx, hl, hn, hel⟩ := DataW.trod_array z2B hd
 have hu := zcB
 have h0 := hel 0 (by decide)
 have h1 := hel 1 (by decide)
 rw [zdA] at h0 h1
 match xs, hn with
 | [x0, x1], _ =>
  simp only [Prod.mk.injEq, List.map_cons, List.map_nil] at hx
  have hx1 := hx.1
  have e0 : x0.1 = .held [40, 119, 105, 115, 104, 98, 111, 111, 107, 47, 98, 111, 111, 107, 46, 114, 97, 99, 107, 41, 46, 117, 115, 101, 100] := by
   have : DataW.agg [x0.1, x1.1] = DataW.funcsOut (.agg [.iface "func" (.lit (.string [40, 119, 105, 115, 104, 98, 111, 111, 107, 47, 98, 111, 111, 107, 46, 114, 97, 99, 107, 41, 46, 117, 115, 101, 100])), .iface "func" (.lit (.string [40, 119, 105, 115, 104, 98, 111, 111, 107, 47, 98, 111, 111, 107, 46, 114, 97, 99, 107, 41, 46, 104, 101, 108, 100]))]) := hx1.symm
   simp [DataW.funcsOut, DataW.funcsOutAll] at this
   exact this.1
  have e1 : x1.1 = .held [40, 119, 105, 115, 104, 98, 111, 111, 107, 47, 98, 111, 111, 107, 46, 114, 97, 99, 107, 41, 46, 104, 101, 108, 100] := by
   have : DataW.agg [x0.1, x1.1] = DataW.funcsOut (.agg [.iface "func" (.lit (.string [40, 119, 105, 115, 104, 98, 111, 111, 107, 47, 98, 111, 111, 107, 46, 114, 97, 99, 107, 41, 46, 117, 115, 101, 100])), .iface "func" (.lit (.string [40, 119, 105, 115, 104, 98, 111, 111, 107, 47, 98, 111, 111, 107, 46, 114, 97, 99, 107, 41, 46, 104, 101, 108, 100]))]) := hx1.symm
   simp [DataW.funcsOut, DataW.funcsOutAll] at this
   exact this.2
  obtain ⟨d0, p0⟩ := x0
  obtain ⟨d1, p1⟩ := x1
  simp only at e0 e1
  subst e0; subst e1
  have hsz : cs.toList.length = 2 := by rw [hl]; kernel_rfl
  match hcs : cs.toList, hsz with
  | [c0, c1], _ =>
   rw [hcs] at h0 h1
   have k0 : DataW.trod (funcToken PG) PG W 0 (fun _ => true) true m 327 [c0] = some (.held (40 :: [119, 105, 115, 104, 98, 111, 111, 107, 47, 98, 111, 111, 107, 46, 114, 97, 99, 107, 41, 46, 117, 115, 101, 100]), p0) := h0
   have k1 : DataW.trod (funcToken PG) PG W 0 (fun _ => true) true m 327 [c1] = some (.held (40 :: [119, 105, 115, 104, 98, 111, 111, 107, 47, 98, 111, 111, 107, 46, 114, 97, 99, 107, 41, 46, 104, 101, 108, 100]), p1) := h1
   obtain rfl := func_of_trod (f0 := 271) hu (by kernel_rfl) k0
   obtain rfl := func_of_trod (f0 := 272) hu (by kernel_rfl) k1
   have v0 := World.var?_cell hg hv 0
   have v1 := World.var?_cell hg hv 1
   rw [← Array.getElem?_toList, hcs] at v0 v1
   exact ⟨by simpa using v0, by simpa using v1⟩
theorem zLx {W : World} (h : laidMetH PG [("wishbook/book.kinds", Rows.laid_wishbook_book_kinds), ("wishbook/shelf.steps", Rows.laid_wishbook_shelf_steps)] W) : DR (zud W) (.pin [.fn 271 [] [], .fn 272 [] []]) (.pointer (some ⟨2, 0, none⟩)) := by
 obtain ⟨h0, h1⟩ := zjy h
 refine .pin (fun j => if j = 0 then .func (.func 271) #[] #[] else .func (.func 272) #[] #[]) (fun d hd => ?_) (fun j d hd => ?_) (fun j d hd => ?_)
 ·simp at hd; rcases hd with rfl | rfl <;> rfl
 ·match j, hd with
  | 0, _ => exact h0
  | 1, _ => exact h1
 ·match j, hd with
  | 0, hd => simp at hd; subst hd; exact .fn rfl rfl (fun j d h => by simp at h) (fun j d h => by simp at h)
  | 1, hd => simp at hd; subst hd; exact .fn rfl rfl (fun j d h => by simp at h) (fun j d h => by simp at h)
theorem zXA : PG.globalNamed "wishbook/shelf.steps" = some 3 := by kernel_rfl
theorem zsA : (PG.globals[3]?).map (·.type) = some 338 := by kernel_rfl
theorem zJA : PG.underlying 338 = some (.array 2 337) := by kernel_rfl
theorem zKA : PG.underlying 337 = some (.func #[134, 3, 3] #[3] false) := by kernel_rfl
theorem zmA : PG.cellsOf 337 = 1 := by kernel_rfl
theorem zuy {W : World} (h : laidMetH PG [("wishbook/book.kinds", Rows.laid_wishbook_book_kinds), ("wishbook/shelf.steps", Rows.laid_wishbook_shelf_steps)] W) : W.cell? ⟨3, 0, none⟩ = some (.func (.func 273) #[] #[]) ∧ W.cell? ⟨3, 1, none⟩ = some (.func (.func 274) #[] #[]) := by
 obtain ⟨g, t, cs, fuel, p, hg, ht, hv, hd⟩ := h.funcs (List.mem_cons_of_mem _ List.mem_cons_self)
 obtain rfl := Option.some.inj (zXA.symm.trans hg)
 obtain rfl := Option.some.inj (zsA.symm.trans ht)
 obtain ⟨xs, m, rfl, hx, hl, hn, hel⟩ := DataW.trod_array zJA hd
 have hu := zKA
 have h0 := hel 0 (by decide)
 have h1 := hel 1 (by decide)
 rw [zmA] at h0 h1
 match xs, hn with
 | [x0, x1], _ =>
  simp only [Prod.mk.injEq, List.map_cons, List.map_nil] at hx
  have hx1 := hx.1
  have e0 : x0.1 = .held [40, 119, 105, 115, 104, 98, 111, 111, 107, 47, 115, 104, 101, 108, 102, 46, 98, 111, 111, 107, 41, 46, 108, 101, 115, 115] := by
   have : DataW.agg [x0.1, x1.1] = DataW.funcsOut (.agg [.iface "func" (.lit (.string [40, 119, 105, 115, 104, 98, 111, 111, 107, 47, 115, 104, 101, 108, 102, 46, 98, 111, 111, 107, 41, 46, 108, 101, 115, 115])), .iface "func" (.lit (.string [40, 119, 105, 115, 104, 98, 111, 111, 107, 47, 115, 104, 101, 108, 102, 46, 98, 111, 111, 107, 41, 46, 109, 111, 114, 101]))]) := hx1.symm
   simp [DataW.funcsOut, DataW.funcsOutAll] at this
   exact this.1
  have e1 : x1.1 = .held [40, 119, 105, 115, 104, 98, 111, 111, 107, 47, 115, 104, 101, 108, 102, 46, 98, 111, 111, 107, 41, 46, 109, 111, 114, 101] := by
   have : DataW.agg [x0.1, x1.1] = DataW.funcsOut (.agg [.iface "func" (.lit (.string [40, 119, 105, 115, 104, 98, 111, 111, 107, 47, 115, 104, 101, 108, 102, 46, 98, 111, 111, 107, 41, 46, 108, 101, 115, 115])), .iface "func" (.lit (.string [40, 119, 105, 115, 104, 98, 111, 111, 107, 47, 115, 104, 101, 108, 102, 46, 98, 111, 111, 107, 41, 46, 109, 111, 114, 101]))]) := hx1.symm
   simp [DataW.funcsOut, DataW.funcsOutAll] at this
   exact this.2
  obtain ⟨d0, p0⟩ := x0
  obtain ⟨d1, p1⟩ := x1
  simp only at e0 e1
  subst e0; subst e1
  have hsz : cs.toList.length = 2 := by rw [hl]; kernel_rfl
  match hcs : cs.toList, hsz with
  | [c0, c1], _ =>
   rw [hcs] at h0 h1
   have k0 : DataW.trod (funcToken PG) PG W 0 (fun _ => true) true m 337 [c0] = some (.held (40 :: [119, 105, 115, 104, 98, 111, 111, 107, 47, 115, 104, 101, 108, 102, 46, 98, 111, 111, 107, 41, 46, 108, 101, 115, 115]), p0) := h0
   have k1 : DataW.trod (funcToken PG) PG W 0 (fun _ => true) true m 337 [c1] = some (.held (40 :: [119, 105, 115, 104, 98, 111, 111, 107, 47, 115, 104, 101, 108, 102, 46, 98, 111, 111, 107, 41, 46, 109, 111, 114, 101]), p1) := h1
   obtain rfl := func_of_trod (f0 := 273) hu (by kernel_rfl) k0
   obtain rfl := func_of_trod (f0 := 274) hu (by kernel_rfl) k1
   have v0 := World.var?_cell hg hv 0
   have v1 := World.var?_cell hg hv 1
   rw [← Array.getElem?_toList, hcs] at v0 v1
   exact ⟨by simpa using v0, by simpa using v1⟩
theorem zKx {W : World} (h : laidMetH PG [("wishbook/book.kinds", Rows.laid_wishbook_book_kinds), ("wishbook/shelf.steps", Rows.laid_wishbook_shelf_steps)] W) : DR (zud W) (.pin [.fn 273 [] [], .fn 274 [] []]) (.pointer (some ⟨3, 0, none⟩)) := by
 obtain ⟨h0, h1⟩ := zuy h
 refine .pin (fun j => if j = 0 then .func (.func 273) #[] #[] else .func (.func 274) #[] #[]) (fun d hd => ?_) (fun j d hd => ?_) (fun j d hd => ?_)
 ·simp at hd; rcases hd with rfl | rfl <;> rfl
 ·match j, hd with
  | 0, _ => exact h0
  | 1, _ => exact h1
 ·match j, hd with
  | 0, hd => simp at hd; subst hd; exact .fn rfl rfl (fun j d h => by simp at h) (fun j d h => by simp at h)
  | 1, hd => simp at hd; subst hd; exact .fn rfl rfl (fun j d h => by simp at h) (fun j d h => by simp at h)
theorem z1y {W : World} (h : laidMetH PG [("wishbook/book.kinds", Rows.laid_wishbook_book_kinds), ("wishbook/shelf.steps", Rows.laid_wishbook_shelf_steps)] W) : ∀ g cs, TE.G g = some cs → DR (zud W) (.pin cs) (.pointer (some ⟨g, 0, none⟩)) := by
 intro g cs hg
 have : (g = 2 ∧ cs = [.fn 271 [] [], .fn 272 [] []]) ∨ (g = 3 ∧ cs = [.fn 273 [] [], .fn 274 [] []]) := by
  match g, hg with
  | 2, hg => exact .inl ⟨rfl, (Option.some.inj hg).symm⟩
  | 3, hg => exact .inr (⟨rfl, (Option.some.inj hg).symm⟩)
 rcases this with ⟨rfl, rfl⟩ | ⟨rfl, rfl⟩
 ·exact zLx h
 ·exact zKx h
theorem zxz (fin : ∀ (x0 : zh) (x1 : (Nat → Int)) (x2 : Int), zRc x0 → (∀ k, k < 4 → -9223372036854775808 ≤ x1 k ∧ x1 k ≤ 9223372036854775807) → (-9223372036854775808 ≤ x2 ∧ x2 ≤ 9223372036854775807) → ∃ k, z3b k x0 x1 x2 = some true) : ∀ (x0 : zh) (x1 : (Nat → Int)) (x2 : Int), zRc x0 → (∀ k, k < 4 → -9223372036854775808 ≤ x1 k ∧ x1 k ≤ 9223372036854775807) → (-9223372036854775808 ≤ x2 ∧ x2 ≤ 9223372036854775807) → zI TE (ev TE) 3 [.agg (zl x0), .agg (aI 4 x1), (di x2)] = some (.b true) := by
 intro x0 x1 x2 g0 g1 g2
 obtain ⟨k, hk⟩ := fin x0 x1 x2 g0 g1 g2
 exact zhl k x0 x1 x2 _ hk
theorem zwz (hE : zUo TE) (ans : ∀ (x0 : zh) (x1 : (Nat → Int)) (x2 : Int), zRc x0 → (∀ k, k < 4 → -9223372036854775808 ≤ x1 k ∧ x1 k ≤ 9223372036854775807) → (-9223372036854775808 ≤ x2 ∧ x2 ≤ 9223372036854775807) → zI TE (ev TE) 3 [.agg (zl x0), .agg (aI 4 x1), (di x2)] = some (.b true)) : Rows.TopPickedSaid := by
 have u0 : (match PG.underlying 28 with | some (.struct _) => true | some (.array _ _) => true | _ => false) = true := by kernel_rfl
 have u1 : (match PG.underlying 29 with | some (.struct _) => true | some (.array _ _) => true | _ => false) = true := by kernel_rfl
 have u2 : (match PG.underlying 3 with | some (.struct _) => false | some (.array _ _) => false | _ => true) = true := by kernel_rfl
 have hf : PG.funcs[3]? = some Go.Proofs.Tryz.f3 := by kernel_rfl
 have hpar : Go.Proofs.Tryz.f3.params = #[28, 29, 3] := by kernel_rfl
 have lifted : ∀ (os : Os) (started : os.Started) (H : Type) (enc : TypeId × Value → H), ReturnsInHanded {} Go.Proofs.Tryz.checked os 3 .any (fun w args => (Rows.topPickedSpec.pre enc PG Go.Proofs.Tryz.f3 [] false w args ∧ laidMetH PG [("wishbook/book.kinds", Rows.laid_wishbook_book_kinds), ("wishbook/shelf.steps", Rows.laid_wishbook_shelf_steps)] w) ∧ sizedMet enc PG Go.Proofs.Tryz.f3 (OpenSpec.ofChange Rows.topPickedSpec) false w args)
   (Rows.topPickedSpec.post enc PG Go.Proofs.Tryz.f3 false true false false) := by
  intro os started H enc
  refine returnsInHanded_of_change_and (C := Go.Proofs.Tryz.checked) (X := fun w _ => laidMetH PG [("wishbook/book.kinds", Rows.laid_wishbook_book_kinds), ("wishbook/shelf.steps", Rows.laid_wishbook_shelf_steps)] w) (fun _ _ _ hh h => h.of_heap hh) zqB started (by kernel_rfl) hf
   (ChangeSpec.witness_shaped (enc := enc) (C := Go.Proofs.Tryz.checked) (os := os) (X := fun w _ => laidMetH PG [("wishbook/book.kinds", Rows.laid_wishbook_book_kinds), ("wishbook/shelf.steps", Rows.laid_wishbook_shelf_steps)] w) false (World.doorLaid PG 600 os) #[.agg #[.slice none 0 0, .int .i64 0, .int .i64 0, .slice none 0 0, .int .i64 0, .slice none 0 0], .agg #[.int .i64 0, .int .i64 0, .int .i64 0, .int .i64 0], .int .i64 0] 8 rfl (World.shaped_of_RefB (by kernel_rfl) (by kernel_rfl)) (by kernel_rfl) (by kernel_rfl) (by kernel_rfl) (zby os _)) ?_
  intro W base args ds gs before hval0 hW _ hwt hL _
  have hval : ∀ (j : Nat) t v, Go.Proofs.Tryz.f3.params[j]? = some t → args[j]? = some v → Value.okWide PG W .any base t v := hval0
  have hW' := hW
  obtain ⟨p, q, hA0, hV, rfl, hfz, hnd⟩ := hW
  have hA : DataW.TrodAll enc PG W 0 (fun _ => true) true Go.Proofs.Tryz.f3.params.toList args.toList ds p := hA0
  rw [hpar] at hA hval
  obtain ⟨v0, v1, v2, d0, d1, d2, p0, p1, p2, rfl, rfl, hps, h0, h1, h2⟩ := trodAll_three hA
  rw [List.append_assoc] at hps
  subst hps
  obtain ⟨rfl, rfl⟩ := trodVars_none hV
  obtain ⟨x0, e0, g0⟩ := zVu zsx u0 (hval 0 28 v0 rfl rfl) h0 (zIr hwt (i := 0) (t := 28) (d := d0) (by kernel_rfl) rfl)
  obtain ⟨x1, e1, g1⟩ := zVu (zVw (P := PG) (W := W) (T := 29) (U := 3) (by kernel_rfl) (by kernel_rfl) (by kernel_rfl) true (by kernel_rfl)) u1 (hval 1 29 v1 rfl rfl) h1 (zIr hwt (i := 1) (t := 29) (d := d1) (by kernel_rfl) rfl)
  obtain ⟨x2, e2, g2⟩ := zkz (P := PG) (W := W) (T := 3) (by kernel_rfl) (hval 2 3 v2 rfl rfl) h2 (zIr hwt (i := 2) (t := 3) (d := d2) (by kernel_rfl) rfl)
  have hlt : ∀ x ∈ (p0 ++ (p1 ++ p2)) ++ [], x.block < W.heap.size := fun x hx => hW'.lt x hx
  have hcall := (zsz hE 3 _ _ (ans x0 x1 x2 g0 g1 g2) (zud W) W #[v0, v1, v2] (zXw (z1y hL)) rfl (fun j x hx => by
   match j, hx with
   | 0, hx => simp at hx; subst hx; exact e0
   | 1, hx => simp at hx; subst hx; exact e1
   | 2, hx => simp at hx; subst hx; exact e2)).2
  refine (hcall.calls (fun k => by simp [FW, Fence.wide, Fence.room])).mono fun e W' ⟨v, m', he, hn, hv⟩ => ?_
  subst he
  cases hv
  refine ⟨_, rfl, z7s (pa := p0 ++ (p1 ++ p2)) (pv := []) hW' (fun _ _ _ => trodAll_mk1 (shut_bool zPy _)) (fun sp hs => ?_) (fun _ _ => rfl) rfl hn.below (ok_one (by kernel_rfl) rfl (okWide_bool_mk zPy _))⟩
  exact trodAll_mk3 (WideElems.Trod_stays zNo (by kernel_rfl) (of_decide_eq_true (by kernel_rfl)) h0 (fun x hx => hn.below.same (hlt x (by simp [hx]))) (fun x hx => hs x (by simp [hx]))) (WideElems.Trod_stays zNo (by kernel_rfl) (of_decide_eq_true (by kernel_rfl)) h1 (fun x hx => hn.below.same (hlt x (by simp [hx]))) (fun x hx => hs x (by simp [hx]))) (WideElems.Trod_stays zNo (by kernel_rfl) (of_decide_eq_true (by kernel_rfl)) h2 (fun x hx => hn.below.same (hlt x (by simp [hx]))) (fun x hx => hs x (by simp [hx])))
 exact OpenClaim.holds_of_wide 3 Go.Proofs.Tryz.f3 rfl rfl rfl rfl rfl rfl rfl ⟨rfl, rfl, rfl, rfl, rfl⟩ rfl rfl rfl rfl rfl (by kernel_rfl) hf zkw
  (of_decide_eq_true (by kernel_rfl)) (by unfold Func.isWrapper; first | (rw [if_pos (by decide +kernel)]; kernel_rfl) | (rw [if_neg (by decide +kernel)]; exact ⟨rfl, rfl⟩))
  (fun os started H enc _ => lifted os started H enc)
end Go.AM
namespace Go.Proofs.YtlliglddpleenabGreatDoor
open Go
theorem topPicked_proved : Rows.TopPickedCardSaid :=
 Claim7.holds_tied_plain_at .later [] [.funcs, .funcs] true (true, "5accac7cc268db4996db062dfe71a0a97979b0550b3f7ba4ba2b1fe79430e2fa") false
  (Go.AM.zwz Go.AM.zyD (Go.AM.zxz Go.AM.zyz)) (fun _ h => by cases h) (by kernel_rfl) (fun _ h => by cases h) topPicked_row_tie rfl ⟨rfl, rfl⟩ (by kernel_rfl) rfl
  (fun f fn hf hfn => by
   obtain rfl : f = 3 := Option.some.inj ((show Tryz.prog.funcNamed "wishbook/wishbooktop.TopPicked" = some 3 by kernel_rfl).symm.trans hf) |>.symm
   obtain rfl : fn = Tryz.f3 := (Option.some.inj ((show Tryz.prog.funcs[3]? = some Tryz.f3 by kernel_rfl).symm.trans hfn)).symm
   exact ⟨by kernel_rfl, fun j t ht => by
    rw [show Tryz.f3.params = #[28, 29, 3] by kernel_rfl] at ht
    have hm : t ∈ [28, 29, 3] := by simpa using Array.mem_of_getElem? ht
    have hall : ([28, 29, 3].all fun u => !Tryz.prog.wantsStandIn u) = true := by kernel_rfl
    exact (show Tryz.prog.wantsStandIn t = false by simpa using List.all_eq_true.1 hall t hm)⟩)
  (by kernel_rfl)
end Go.Proofs.YtlliglddpleenabGreatDoor
