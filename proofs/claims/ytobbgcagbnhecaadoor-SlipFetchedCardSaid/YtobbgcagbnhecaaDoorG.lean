/- The statement SlipFetched holds for every input that its row lets in. Conditions: none. -/
import Derived.Test.YtobbgcagbnhecaaDoorRows
import Derived.Test.YtobbgcagbnhecaaDoorTie
import Derived.Test.YtobbgcagbnhecaaDoorCards
import Derived.SevenTiedAt
import Derived.Test.YtobbgcagbnhecaaDoorF
set_option linter.all false
set_option linter.unusedVariables false
set_option linter.unusedSimpArgs false
set_option maxRecDepth 100000
namespace Go.AM
open Go Go.RowKit Go.ChangeShapes Go.WideShapes Go.ChangeAt
open Go.Proofs.YtobbgcagbnhecaaDoor
noncomputable abbrev PG : Program := Go.Proofs.Tryd.prog
theorem zTA : z3n TE := ⟨by kernel_rfl, Nat.le_of_ble_eq_true (by kernel_rfl), by kernel_rfl⟩
theorem opz3 : ∀ a : Int, (eI a).length = PG.cellsOf 3 := by
 have h : PG.cellsOf 3 = 1 := by kernel_rfl
 rw [h]; intro a; rfl
theorem zAu : ∀ a : zp, (zw a).length = PG.cellsOf 24 := by
 have h : PG.cellsOf 24 = 2 := by kernel_rfl
 rw [h]; intro a; rfl
theorem zQu {W : World} : zZb PG W 24 false zw zod :=
 (zLf (fs := zHi PG 24) (l := [zU PG 24 0, zU PG 24 1]) (by kernel_rfl) (by kernel_rfl) (fun p => by have := zAu ⟨p.1, p.2.1⟩; simpa [zw, List.append_assoc] using this) (z0b (f := zU PG 24 0) (off := 0) (z := 1) (e := eI) (good := fun (a : Int) => (-9223372036854775808 ≤ a ∧ a ≤ 9223372036854775807)) ((show (zU PG 24 0).type = 3 by kernel_rfl) ▸ ((zgd false (by kernel_rfl)) : zZb PG W 3 false eI (fun (a : Int) => (-9223372036854775808 ≤ a ∧ a ≤ 9223372036854775807)))) (by kernel_rfl) (fun _ => rfl) (z0b (f := zU PG 24 1) (off := 1) (z := 1) (e := eI) (good := fun (a : Int) => (-9223372036854775808 ≤ a ∧ a ≤ 9223372036854775807)) ((show (zU PG 24 1).type = 3 by kernel_rfl) ▸ ((zgd false (by kernel_rfl)) : zZb PG W 3 false eI (fun (a : Int) => (-9223372036854775808 ≤ a ∧ a ≤ 9223372036854775807)))) (by kernel_rfl) (fun _ => rfl) (z2h _ false)))).map (fun p => ⟨p.1, p.2.1⟩) (fun p => by simp [zw, List.append_assoc]) (fun p h => h)
theorem zIv {W : World} : zZb PG W 24 true zw zod :=
 (zLf (fs := zHi PG 24) (l := [zU PG 24 0, zU PG 24 1]) (by kernel_rfl) (by kernel_rfl) (fun p => by have := zAu ⟨p.1, p.2.1⟩; simpa [zw, List.append_assoc] using this) (z0b (f := zU PG 24 0) (off := 0) (z := 1) (e := eI) (good := fun (a : Int) => (-9223372036854775808 ≤ a ∧ a ≤ 9223372036854775807)) ((show (zU PG 24 0).type = 3 by kernel_rfl) ▸ ((zgd true (by kernel_rfl)) : zZb PG W 3 true eI (fun (a : Int) => (-9223372036854775808 ≤ a ∧ a ≤ 9223372036854775807)))) (by kernel_rfl) (fun _ => rfl) (z0b (f := zU PG 24 1) (off := 1) (z := 1) (e := eI) (good := fun (a : Int) => (-9223372036854775808 ≤ a ∧ a ≤ 9223372036854775807)) ((show (zU PG 24 1).type = 3 by kernel_rfl) ▸ ((zgd true (by kernel_rfl)) : zZb PG W 3 true eI (fun (a : Int) => (-9223372036854775808 ≤ a ∧ a ≤ 9223372036854775807)))) (by kernel_rfl) (fun _ => rfl) (z2h _ true)))).map (fun p => ⟨p.1, p.2.1⟩) (fun p => by simp [zw, List.append_assoc]) (fun p h => h)
theorem z2w : ∀ a : zi, (zh a).length = PG.cellsOf 64 := by
 have h : PG.cellsOf 64 = 2 := by kernel_rfl
 rw [h]; intro a; rfl
theorem zju {W : World} : zZb PG W 64 false zh ztf :=
 (zLf (fs := zHi PG 64) (l := [zU PG 64 0, zU PG 64 1]) (by kernel_rfl) (by kernel_rfl) (fun p => by have := z2w ⟨p.1, p.2.1⟩; simpa [zh, List.append_assoc] using this) (z0b (f := zU PG 64 0) (off := 0) (z := 1) (e := eI) (good := fun (a : Int) => (-9223372036854775808 ≤ a ∧ a ≤ 9223372036854775807)) ((show (zU PG 64 0).type = 3 by kernel_rfl) ▸ ((zgd false (by kernel_rfl)) : zZb PG W 3 false eI (fun (a : Int) => (-9223372036854775808 ≤ a ∧ a ≤ 9223372036854775807)))) (by kernel_rfl) (fun _ => rfl) (z0b (f := zU PG 64 1) (off := 1) (z := 1) (e := eI) (good := fun (a : Int) => (-9223372036854775808 ≤ a ∧ a ≤ 9223372036854775807)) ((show (zU PG 64 1).type = 3 by kernel_rfl) ▸ ((zgd false (by kernel_rfl)) : zZb PG W 3 false eI (fun (a : Int) => (-9223372036854775808 ≤ a ∧ a ≤ 9223372036854775807)))) (by kernel_rfl) (fun _ => rfl) (z2h _ false)))).map (fun p => ⟨p.1, p.2.1⟩) (fun p => by simp [zh, List.append_assoc]) (fun p h => h)
theorem zex : ∀ a : zl, (zm a).length = PG.cellsOf 52 := by
 have h : PG.cellsOf 52 = 2 := by kernel_rfl
 rw [h]; intro a; rfl
theorem zzu {W : World} : zZb PG W 52 false zm zef :=
 (zLf (fs := zHi PG 52) (l := [zU PG 52 0, zU PG 52 1]) (by kernel_rfl) (by kernel_rfl) (fun p => by have := zex ⟨p.1, p.2.1⟩; simpa [zm, List.append_assoc] using this) (z0b (f := zU PG 52 0) (off := 0) (z := 1) (e := (eL zh)) (good := fun (a : (SL zi)) => z9h 16 (fun (a : zi) => ztf a) a) ((show (zU PG 52 0).type = 50 by kernel_rfl) ▸ ((zNg (U := 64) (by kernel_rfl) zju (z2w) (Nat.le_of_ble_eq_true (by kernel_rfl)) (zb := 16) (Nat.le_of_ble_eq_true (by kernel_rfl))) : zZb PG W 50 false (eL zh) (fun (a : (SL zi)) => z9h 16 (fun (a : zi) => ztf a) a))) (by kernel_rfl) (fun _ => rfl) (z0b (f := zU PG 52 1) (off := 1) (z := 1) (e := eI) (good := fun (a : Int) => (-9223372036854775808 ≤ a ∧ a ≤ 9223372036854775807)) ((show (zU PG 52 1).type = 3 by kernel_rfl) ▸ ((zgd false (by kernel_rfl)) : zZb PG W 3 false eI (fun (a : Int) => (-9223372036854775808 ≤ a ∧ a ≤ 9223372036854775807)))) (by kernel_rfl) (fun _ => rfl) (z2h _ false)))).map (fun p => ⟨p.1, p.2.1⟩) (fun p => by simp [zm, List.append_assoc]) (fun p h => h)
theorem z0y : ∀ a : zd, (za a).length = PG.cellsOf 28 := by
 have h : PG.cellsOf 28 = 6 := by kernel_rfl
 rw [h]; intro a; rfl
theorem z8u {W : World} : zZb PG W 28 true za zPc :=
 (zLf (fs := zHi PG 28) (l := [zU PG 28 0, zU PG 28 1, zU PG 28 2, zU PG 28 3, zU PG 28 4]) (by kernel_rfl) (by kernel_rfl) (fun p => by have := z0y ⟨p.1, p.2.1, p.2.2.1, p.2.2.2.1, p.2.2.2.2.1⟩; simpa [za, List.append_assoc] using this) (z0b (f := zU PG 28 0) (off := 0) (z := 1) (e := (eL eI)) (good := fun (a : (SL Int)) => zMm (fun (a : Int) => (-9223372036854775808 ≤ a ∧ a ≤ 9223372036854775807)) a) ((show (zU PG 28 0).type = 22 by kernel_rfl) ▸ ((zNg (U := 3) (by kernel_rfl) (zgd false (by kernel_rfl)) (opz3) (Nat.le_of_ble_eq_true (by kernel_rfl)) (zb := 8) (Nat.le_of_ble_eq_true (by kernel_rfl))) : zZb PG W 22 true (eL eI) (fun (a : (SL Int)) => zMm (fun (a : Int) => (-9223372036854775808 ≤ a ∧ a ≤ 9223372036854775807)) a))) (by kernel_rfl) (fun _ => rfl) (z0b (f := zU PG 28 1) (off := 1) (z := 2) (e := zw) (good := fun (a : zp) => zod a) ((show (zU PG 28 1).type = 24 by kernel_rfl) ▸ (zIv : zZb PG W 24 true zw (fun (a : zp) => zod a))) (by kernel_rfl) (fun _ => rfl) (z0b (f := zU PG 28 2) (off := 3) (z := 1) (e := (eL zw)) (good := fun (a : (SL zp)) => z9h 16 (fun (a : zp) => zod a) a) ((show (zU PG 28 2).type = 25 by kernel_rfl) ▸ ((zNg (U := 24) (by kernel_rfl) zQu (zAu) (Nat.le_of_ble_eq_true (by kernel_rfl)) (zb := 16) (Nat.le_of_ble_eq_true (by kernel_rfl))) : zZb PG W 25 true (eL zw) (fun (a : (SL zp)) => z9h 16 (fun (a : zp) => zod a) a))) (by kernel_rfl) (fun _ => rfl) (z0b (f := zU PG 28 3) (off := 4) (z := 1) (e := eI) (good := fun (a : Int) => (-9223372036854775808 ≤ a ∧ a ≤ 9223372036854775807)) ((show (zU PG 28 3).type = 3 by kernel_rfl) ▸ ((zgd true (by kernel_rfl)) : zZb PG W 3 true eI (fun (a : Int) => (-9223372036854775808 ≤ a ∧ a ≤ 9223372036854775807)))) (by kernel_rfl) (fun _ => rfl) (z0b (f := zU PG 28 4) (off := 5) (z := 1) (e := (eL zm)) (good := fun (a : (SL zl)) => z9h 32 (fun (a : zl) => zef a) a) ((show (zU PG 28 4).type = 26 by kernel_rfl) ▸ ((zNg (U := 52) (by kernel_rfl) zzu (zex) (Nat.le_of_ble_eq_true (by kernel_rfl)) (zb := 32) (Nat.le_of_ble_eq_true (by kernel_rfl))) : zZb PG W 26 true (eL zm) (fun (a : (SL zl)) => z9h 32 (fun (a : zl) => zef a) a))) (by kernel_rfl) (fun _ => rfl) (z2h _ true))))))).map (fun p => ⟨p.1, p.2.1, p.2.2.1, p.2.2.2.1, p.2.2.2.2.1⟩) (fun p => by simp [za, List.append_assoc]) (fun p h => h)
theorem zaz : ownKnob PG.godebug = none := by kernel_rfl
theorem zzn : laidOutB PG = true := by kernel_rfl
theorem gTab : PG.globalNamed "wishbook/slip.ends" = some 0 := by kernel_rfl
theorem tTab : (PG.globals[0]?).map (·.type) = some 103 := by kernel_rfl
theorem uTab : PG.underlying 103 = some (.array 2 102) := by kernel_rfl
theorem uFun : PG.underlying 102 = some (.func #[88, 3] #[3] false) := by kernel_rfl
theorem cFun : PG.cellsOf 102 = 1 := by kernel_rfl
theorem z6w : PG.underlying 4 = some .bool := by kernel_rfl
theorem zlw (os : Os) (args : Array Value) : laidMetH PG [("wishbook/slip.ends", Rows.laid_wishbook_slip_ends)] ((World.doorLaid PG 600 os).forCall (fun _ _ => 0) ⟨#[], args, []⟩).memory :=
 laidMetH_of_parts3 (fuel := 8) (laidMet_of_run' 8 (by kernel_rfl) (by kernel_rfl)) (by kernel_rfl) (by kernel_rfl)
theorem zJx {W : World} (h : laidMetH PG [("wishbook/slip.ends", Rows.laid_wishbook_slip_ends)] W) : W.cell? ⟨0, 0, none⟩ = some (.func (.func 116) #[] #[]) ∧ W.cell? ⟨0, 1, none⟩ = some (.func (.func 117) #[] #[]) := by
 obtain ⟨g, t, cs, fuel, p, hg, ht, hv, hd⟩ := h.funcs (List.mem_singleton.2 rfl)
 obtain rfl := Option.some.inj (gTab.symm.trans hg)
 obtain rfl := Option.some.inj (tTab.symm.trans ht)
 obtain ⟨xs, m, rfl, hx, hl, hn, hel⟩ := DataW.trod_array uTab hd
 have hu := uFun
 have h0 := hel 0 (by decide)
 have h1 := hel 1 (by decide)
 rw [cFun] at h0 h1
 match xs, hn with
 | [x0, x1], _ =>
  simp only [Prod.mk.injEq, List.map_cons, List.map_nil] at hx
  have hx1 := hx.1
  have e0 : x0.1 = .held [40, 119, 105, 115, 104, 98, 111, 111, 107, 47, 115, 108, 105, 112, 46, 102, 108, 111, 111, 114, 41, 46, 108, 101, 97, 115, 116] := by
   have : DataW.agg [x0.1, x1.1] = DataW.funcsOut (.agg [.iface "func" (.lit (.string [40, 119, 105, 115, 104, 98, 111, 111, 107, 47, 115, 108, 105, 112, 46, 102, 108, 111, 111, 114, 41, 46, 108, 101, 97, 115, 116])), .iface "func" (.lit (.string [40, 119, 105, 115, 104, 98, 111, 111, 107, 47, 115, 108, 105, 112, 46, 102, 108, 111, 111, 114, 41, 46, 109, 111, 115, 116]))]) := hx1.symm
   simp [DataW.funcsOut, DataW.funcsOutAll] at this
   exact this.1
  have e1 : x1.1 = .held [40, 119, 105, 115, 104, 98, 111, 111, 107, 47, 115, 108, 105, 112, 46, 102, 108, 111, 111, 114, 41, 46, 109, 111, 115, 116] := by
   have : DataW.agg [x0.1, x1.1] = DataW.funcsOut (.agg [.iface "func" (.lit (.string [40, 119, 105, 115, 104, 98, 111, 111, 107, 47, 115, 108, 105, 112, 46, 102, 108, 111, 111, 114, 41, 46, 108, 101, 97, 115, 116])), .iface "func" (.lit (.string [40, 119, 105, 115, 104, 98, 111, 111, 107, 47, 115, 108, 105, 112, 46, 102, 108, 111, 111, 114, 41, 46, 109, 111, 115, 116]))]) := hx1.symm
   simp [DataW.funcsOut, DataW.funcsOutAll] at this
   exact this.2
  obtain ⟨d0, p0⟩ := x0
  obtain ⟨d1, p1⟩ := x1
  simp only at e0 e1
  subst e0; subst e1
  have hsz : cs.toList.length = 2 := by rw [hl]; kernel_rfl
  match hcs : cs.toList, hsz with
  | [c0, c1], _ =>
   rw [hcs] at h0 h1
   have k0 : DataW.trod (funcToken PG) PG W 0 (fun _ => true) true m 102 [c0] = some (.held (40 :: [119, 105, 115, 104, 98, 111, 111, 107, 47, 115, 108, 105, 112, 46, 102, 108, 111, 111, 114, 41, 46, 108, 101, 97, 115, 116]), p0) := h0
   have k1 : DataW.trod (funcToken PG) PG W 0 (fun _ => true) true m 102 [c1] = some (.held (40 :: [119, 105, 115, 104, 98, 111, 111, 107, 47, 115, 108, 105, 112, 46, 102, 108, 111, 111, 114, 41, 46, 109, 111, 115, 116]), p1) := h1
   obtain rfl := func_of_trod (f0 := 116) hu (by kernel_rfl) k0
   obtain rfl := func_of_trod (f0 := 117) hu (by kernel_rfl) k1
   have v0 := World.var?_cell hg hv 0
   have v1 := World.var?_cell hg hv 1
   rw [← Array.getElem?_toList, hcs] at v0 v1
   exact ⟨by simpa using v0, by simpa using v1⟩
theorem zux {W : World} (h : laidMetH PG [("wishbook/slip.ends", Rows.laid_wishbook_slip_ends)] W) : ∀ g cs, TE.G g = some cs → DR (zzd W) (.pin cs) (.pointer (some ⟨g, 0, none⟩)) := by
 obtain ⟨h0, h1⟩ := zJx h
 intro g cs hg
 have : g = 0 ∧ cs = [.fn 116 [] [], .fn 117 [] []] := by
  match g, hg with
  | 0, hg => exact ⟨rfl, (Option.some.inj hg).symm⟩
 obtain ⟨rfl, rfl⟩ := this
 refine .pin (fun j => if j = 0 then .func (.func 116) #[] #[] else .func (.func 117) #[] #[]) (fun d hd => ?_) (fun j d hd => ?_) (fun j d hd => ?_)
 ·simp at hd; rcases hd with rfl | rfl <;> rfl
 ·match j, hd with
  | 0, _ => exact h0
  | 1, _ => exact h1
 ·match j, hd with
  | 0, hd => simp at hd; subst hd; exact .fn rfl rfl (fun j d h => by simp at h) (fun j d h => by simp at h)
  | 1, hd => simp at hd; subst hd; exact .fn rfl rfl (fun j d h => by simp at h) (fun j d h => by simp at h)
theorem z7w (fin : ∀ (x0 : zd) (x1 : Int) (x2 : (SL Int)), zPc x0 → (-9223372036854775808 ≤ x1 ∧ x1 ≤ 9223372036854775807) → zMm (fun (a : Int) => (-9223372036854775808 ≤ a ∧ a ≤ 9223372036854775807)) x2 → ∃ k, zEb k x0 x1 x2 = some true) : ∀ (x0 : zd) (x1 : Int) (x2 : (SL Int)), zPc x0 → (-9223372036854775808 ≤ x1 ∧ x1 ≤ 9223372036854775807) → zMm (fun (a : Int) => (-9223372036854775808 ≤ a ∧ a ≤ 9223372036854775807)) x2 → zA TE (ev TE) 6 [.agg (za x0), (di x1), (dl eI x2.1 x2.2)] = some (.b true) := by
 intro x0 x1 x2 g0 g1 g2
 obtain ⟨k, hk⟩ := fin x0 x1 x2 g0 g1 g2
 exact zJi k x0 x1 x2 _ hk
theorem zax (hE : z3n TE) (ans : ∀ (x0 : zd) (x1 : Int) (x2 : (SL Int)), zPc x0 → (-9223372036854775808 ≤ x1 ∧ x1 ≤ 9223372036854775807) → zMm (fun (a : Int) => (-9223372036854775808 ≤ a ∧ a ≤ 9223372036854775807)) x2 → zA TE (ev TE) 6 [.agg (za x0), (di x1), (dl eI x2.1 x2.2)] = some (.b true)) : Rows.SlipFetchedSaid := by
 have u0 : (match PG.underlying 28 with | some (.struct _) => true | some (.array _ _) => true | _ => false) = true := by kernel_rfl
 have u1 : (match PG.underlying 3 with | some (.struct _) => false | some (.array _ _) => false | _ => true) = true := by kernel_rfl
 have u2 : (match PG.underlying 22 with | some (.struct _) => false | some (.array _ _) => false | _ => true) = true := by kernel_rfl
 have hf : PG.funcs[6]? = some Go.Proofs.Tryd.f6 := by kernel_rfl
 have hpar : Go.Proofs.Tryd.f6.params = #[28, 3, 22] := by kernel_rfl
 have lifted : ∀ (os : Os) (started : os.Started) (H : Type) (enc : TypeId × Value → H), ReturnsInHanded {} Go.Proofs.Tryd.checked os 6 .any (fun w args => (Rows.slipFetchedSpec.pre enc PG Go.Proofs.Tryd.f6 [] false w args ∧ laidMetH PG [("wishbook/slip.ends", Rows.laid_wishbook_slip_ends)] w) ∧ sizedMet enc PG Go.Proofs.Tryd.f6 (OpenSpec.ofChange Rows.slipFetchedSpec) false w args)
   (Rows.slipFetchedSpec.post enc PG Go.Proofs.Tryd.f6 false true false false) := by
  intro os started H enc
  refine returnsInHanded_of_change_and (C := Go.Proofs.Tryd.checked) (X := fun w _ => laidMetH PG [("wishbook/slip.ends", Rows.laid_wishbook_slip_ends)] w) (fun _ _ _ hh h => h.of_heap hh) zaz started (by kernel_rfl) hf
   (ChangeSpec.witness_shaped (enc := enc) (C := Go.Proofs.Tryd.checked) (os := os) (X := fun w _ => laidMetH PG [("wishbook/slip.ends", Rows.laid_wishbook_slip_ends)] w) false (World.doorLaid PG 600 os) #[.agg #[.slice none 0 0, .int .i64 0, .int .i64 0, .slice none 0 0, .int .i64 0, .slice none 0 0], .int .i64 0, .slice none 0 0] 8 rfl (World.shaped_of_RefB (by kernel_rfl) (by kernel_rfl)) (by kernel_rfl) (by kernel_rfl) (by kernel_rfl) (zlw os _)) ?_
  intro W base args ds gs before hval0 hW _ hwt hL _
  have hval : ∀ (j : Nat) t v, Go.Proofs.Tryd.f6.params[j]? = some t → args[j]? = some v → Value.okWide PG W .any base t v := hval0
  have hW' := hW
  obtain ⟨p, q, hA0, hV, rfl, hfz, hnd⟩ := hW
  have hA : DataW.TrodAll enc PG W 0 (fun _ => true) true Go.Proofs.Tryd.f6.params.toList args.toList ds p := hA0
  rw [hpar] at hA hval
  obtain ⟨v0, v1, v2, d0, d1, d2, p0, p1, p2, rfl, rfl, hps, h0, h1, h2⟩ := trodAll_three hA
  rw [List.append_assoc] at hps
  subst hps
  obtain ⟨rfl, rfl⟩ := trodVars_none hV
  obtain ⟨x0, e0, g0⟩ := zmx z8u u0 (hval 0 28 v0 rfl rfl) h0 (zpp hwt (i := 0) (t := 28) (d := d0) (by kernel_rfl) rfl)
  obtain ⟨x1, e1, g1⟩ := zlx (P := PG) (W := W) (T := 3) (by kernel_rfl) (hval 1 3 v1 rfl rfl) h1 (zpp hwt (i := 1) (t := 3) (d := d1) (by kernel_rfl) rfl)
  obtain ⟨x2, e2, g2⟩ := z3u (P := PG) (W := W) (T := 22) (U := 3) (zNg (U := 3) (by kernel_rfl) (zgd false (by kernel_rfl)) (opz3) (Nat.le_of_ble_eq_true (by kernel_rfl)) (zb := 8) (Nat.le_of_ble_eq_true (by kernel_rfl))) (by kernel_rfl) (hval 2 22 v2 rfl rfl) h2 (zpp hwt (i := 2) (t := 22) (d := d2) (by kernel_rfl) rfl)
  have hlt : ∀ x ∈ (p0 ++ (p1 ++ p2)) ++ [], x.block < W.heap.size := fun x hx => hW'.lt x hx
  have hcall := (zBx hE 6 _ _ (ans x0 x1 x2 g0 g1 g2) (zzd W) W #[v0, v1, v2] (zOv (zux hL)) rfl (fun j x hx => by
   match j, hx with
   | 0, hx => simp at hx; subst hx; exact e0
   | 1, hx => simp at hx; subst hx; exact e1
   | 2, hx => simp at hx; subst hx; exact e2)).2
  refine (hcall.calls (fun k => by simp [FW, Fence.wide, Fence.room])).mono fun e W' ⟨v, m', he, hn, hv⟩ => ?_
  subst he
  cases hv
  refine ⟨_, rfl, zRr (pa := p0 ++ (p1 ++ p2)) (pv := []) hW' (fun _ _ _ => trodAll_mk1 (shut_bool z6w _)) (fun sp hs => ?_) (fun _ _ => rfl) rfl hn.below (ok_one (by kernel_rfl) rfl (okWide_bool_mk z6w _))⟩
  exact trodAll_mk3 (WideElems.Trod_stays zzn (by kernel_rfl) (of_decide_eq_true (by kernel_rfl)) h0 (fun x hx => hn.below.same (hlt x (by simp [hx]))) (fun x hx => hs x (by simp [hx]))) (WideElems.Trod_stays zzn (by kernel_rfl) (of_decide_eq_true (by kernel_rfl)) h1 (fun x hx => hn.below.same (hlt x (by simp [hx]))) (fun x hx => hs x (by simp [hx]))) (WideElems.Trod_stays zzn (by kernel_rfl) (of_decide_eq_true (by kernel_rfl)) h2 (fun x hx => hn.below.same (hlt x (by simp [hx]))) (fun x hx => hs x (by simp [hx])))
 exact OpenClaim.holds_of_wide 6 Go.Proofs.Tryd.f6 rfl rfl rfl rfl rfl rfl rfl ⟨rfl, rfl, rfl, rfl, rfl⟩ rfl rfl rfl rfl rfl (by kernel_rfl) hf (by kernel_rfl)
  (of_decide_eq_true (by kernel_rfl)) (by unfold Func.isWrapper; first | (rw [if_pos (by decide +kernel)]; kernel_rfl) | (rw [if_neg (by decide +kernel)]; exact ⟨rfl, rfl⟩))
  (fun os started H enc _ => lifted os started H enc)
end Go.AM
namespace Go.Proofs.YtobbgcagbnhecaaDoor
open Go
theorem slipFetched_proved : Rows.SlipFetchedCardSaid :=
 Claim7.holds_tied_plain_at .later [] [.funcs] true (true, "5e191c45efa802c39b804d52e49832627bdc6d93a749aa6aa74b0dbf45f86016") false
  (Go.AM.zax Go.AM.zTA (Go.AM.z7w Go.AM.zYw)) (fun _ h => by cases h) (by kernel_rfl) (fun _ h => by cases h) slipFetched_row_tie rfl ⟨rfl, rfl⟩ (by kernel_rfl) rfl
  (fun f fn hf hfn => by
   obtain rfl : f = 6 := Option.some.inj ((show Tryd.prog.funcNamed "wishbook/wishbooklaw03.SlipFetched" = some 6 by kernel_rfl).symm.trans hf) |>.symm
   obtain rfl : fn = Tryd.f6 := (Option.some.inj ((show Tryd.prog.funcs[6]? = some Tryd.f6 by kernel_rfl).symm.trans hfn)).symm
   exact ⟨by kernel_rfl, fun j t ht => by
    rw [show Tryd.f6.params = #[28, 3, 22] by kernel_rfl] at ht
    have hm : t ∈ [28, 3, 22] := by simpa using Array.mem_of_getElem? ht
    have hall : ([28, 3, 22].all fun u => !Tryd.prog.wantsStandIn u) = true := by kernel_rfl
    exact (show Tryd.prog.wantsStandIn t = false by simpa using List.all_eq_true.1 hall t hm)⟩)
  (by kernel_rfl)
end Go.Proofs.YtobbgcagbnhecaaDoor
