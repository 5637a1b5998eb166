/- The statement ShelfWider holds for every input that its row lets in. Conditions: none. -/
import Derived.Test.YtfoohlabifhplaaDoorRows
import Derived.Test.YtfoohlabifhplaaDoorTie
import Derived.Test.YtfoohlabifhplaaDoorCards
import Derived.SevenTiedAt
import Derived.Test.YtfoohlabifhplaaDoorF
set_option linter.all false
set_option linter.unusedVariables false
set_option linter.unusedSimpArgs false
set_option maxRecDepth 100000
namespace Go.AM
open Go Go.RowKit Go.ChangeShapes Go.WideShapes Go.ChangeAt
open Go.Proofs.YtfoohlabifhplaaDoor
noncomputable abbrev PG : Program := Go.Proofs.Tryd.prog
theorem zEy : zHn TE := ⟨by kernel_rfl, Nat.le_of_ble_eq_true (by kernel_rfl), by kernel_rfl⟩
theorem zgx : ∀ a : zm, (zxb a).length = PG.cellsOf 30 := by
 have h : PG.cellsOf 30 = 2 := by kernel_rfl
 rw [h]; intro a; rfl
theorem zTj {W : World} : zHb PG W 30 false zxb zUb :=
 (zKe (fs := zhh PG 30) (l := [zZ PG 30 0, zZ PG 30 1]) (by kernel_rfl) (by kernel_rfl) (fun p => by have := zgx ⟨p.1, p.2.1⟩; simpa [zxb, List.append_assoc] using this) (zrb (f := zZ PG 30 0) (off := 0) (z := 1) (e := eI) (good := fun a => (-9223372036854775808 ≤ a ∧ a ≤ 9223372036854775807)) ((show (zZ PG 30 0).type = 3 by kernel_rfl) ▸ ((zDd false (by kernel_rfl)) : zHb PG W 3 false eI (fun a => (-9223372036854775808 ≤ a ∧ a ≤ 9223372036854775807)))) (by kernel_rfl) (fun _ => rfl) (zrb (f := zZ PG 30 1) (off := 1) (z := 1) (e := eI) (good := fun a => (-9223372036854775808 ≤ a ∧ a ≤ 9223372036854775807)) ((show (zZ PG 30 1).type = 3 by kernel_rfl) ▸ ((zDd false (by kernel_rfl)) : zHb PG W 3 false eI (fun a => (-9223372036854775808 ≤ a ∧ a ≤ 9223372036854775807)))) (by kernel_rfl) (fun _ => rfl) (zpg _ false)))).map (fun p => ⟨p.1, p.2.1⟩) (fun p => by simp [zxb, List.append_assoc]) (fun p h => h)
theorem zWu : ∀ a : zt, (zi a).length = PG.cellsOf 65 := by
 have h : PG.cellsOf 65 = 3 := by kernel_rfl
 rw [h]; intro a; rfl
theorem zHs {W : World} : zHb PG W 65 false zi zUe :=
 (zKe (fs := zhh PG 65) (l := [zZ PG 65 0, zZ PG 65 1]) (by kernel_rfl) (by kernel_rfl) (fun p => by have := zWu ⟨p.1, p.2.1⟩; simpa [zi, List.append_assoc] using this) (zrb (f := zZ PG 65 0) (off := 0) (z := 2) (e := zxb) (good := fun a => zUb a) ((show (zZ PG 65 0).type = 30 by kernel_rfl) ▸ (zTj : zHb PG W 30 false zxb (fun a => zUb a))) (by kernel_rfl) (fun _ => rfl) (zrb (f := zZ PG 65 1) (off := 2) (z := 1) (e := eI) (good := fun a => (-9223372036854775808 ≤ a ∧ a ≤ 9223372036854775807)) ((show (zZ PG 65 1).type = 3 by kernel_rfl) ▸ ((zDd false (by kernel_rfl)) : zHb PG W 3 false eI (fun a => (-9223372036854775808 ≤ a ∧ a ≤ 9223372036854775807)))) (by kernel_rfl) (fun _ => rfl) (zpg _ false)))).map (fun p => ⟨p.1, p.2.1⟩) (fun p => by simp [zi, List.append_assoc]) (fun p h => h)
theorem z1u : ∀ a : zq, (zk a).length = PG.cellsOf 73 := by
 have h : PG.cellsOf 73 = 5 := by kernel_rfl
 rw [h]; intro a; rfl
theorem zts {W : World} : zHb PG W 73 false zk zhf :=
 (zKe (fs := zhh PG 73) (l := [zZ PG 73 0, zZ PG 73 1, zZ PG 73 2, zZ PG 73 3]) (by kernel_rfl) (by kernel_rfl) (fun p => by have := z1u ⟨p.1, p.2.1, p.2.2.1, p.2.2.2.1⟩; simpa [zk, List.append_assoc] using this) (zrb (f := zZ PG 73 0) (off := 0) (z := 1) (e := eI) (good := fun a => (-9223372036854775808 ≤ a ∧ a ≤ 9223372036854775807)) ((show (zZ PG 73 0).type = 3 by kernel_rfl) ▸ ((zDd false (by kernel_rfl)) : zHb PG W 3 false eI (fun a => (-9223372036854775808 ≤ a ∧ a ≤ 9223372036854775807)))) (by kernel_rfl) (fun _ => rfl) (zrb (f := zZ PG 73 1) (off := 1) (z := 1) (e := eI) (good := fun a => (-9223372036854775808 ≤ a ∧ a ≤ 9223372036854775807)) ((show (zZ PG 73 1).type = 3 by kernel_rfl) ▸ ((zDd false (by kernel_rfl)) : zHb PG W 3 false eI (fun a => (-9223372036854775808 ≤ a ∧ a ≤ 9223372036854775807)))) (by kernel_rfl) (fun _ => rfl) (zrb (f := zZ PG 73 2) (off := 2) (z := 1) (e := eB) (good := fun a => True) ((show (zZ PG 73 2).type = 4 by kernel_rfl) ▸ ((zBs false (by kernel_rfl)) : zHb PG W 4 false eB (fun a => True))) (by kernel_rfl) (fun _ => rfl) (zrb (f := zZ PG 73 3) (off := 3) (z := 2) (e := zxb) (good := fun a => zUb a) ((show (zZ PG 73 3).type = 30 by kernel_rfl) ▸ (zTj : zHb PG W 30 false zxb (fun a => zUb a))) (by kernel_rfl) (fun _ => rfl) (zpg _ false)))))).map (fun p => ⟨p.1, p.2.1, p.2.2.1, p.2.2.2.1⟩) (fun p => by simp [zk, List.append_assoc]) (fun p h => h)
theorem z2u : ∀ a : zn, (zd a).length = PG.cellsOf 75 := by
 have h : PG.cellsOf 75 = 5 := by kernel_rfl
 rw [h]; intro a; rfl
theorem zws {W : World} : zHb PG W 75 false zd zHd :=
 (zKe (fs := zhh PG 75) (l := [zZ PG 75 0, zZ PG 75 1, zZ PG 75 2]) (by kernel_rfl) (by kernel_rfl) (fun p => by have := z2u ⟨p.1, p.2.1, p.2.2.1⟩; simpa [zd, List.append_assoc] using this) (zrb (f := zZ PG 75 0) (off := 0) (z := 1) (e := eI) (good := fun a => (-9223372036854775808 ≤ a ∧ a ≤ 9223372036854775807)) ((show (zZ PG 75 0).type = 3 by kernel_rfl) ▸ ((zDd false (by kernel_rfl)) : zHb PG W 3 false eI (fun a => (-9223372036854775808 ≤ a ∧ a ≤ 9223372036854775807)))) (by kernel_rfl) (fun _ => rfl) (zrb (f := zZ PG 75 1) (off := 1) (z := 2) (e := zxb) (good := fun a => zUb a) ((show (zZ PG 75 1).type = 30 by kernel_rfl) ▸ (zTj : zHb PG W 30 false zxb (fun a => zUb a))) (by kernel_rfl) (fun _ => rfl) (zrb (f := zZ PG 75 2) (off := 3) (z := 2) (e := zxb) (good := fun a => zUb a) ((show (zZ PG 75 2).type = 30 by kernel_rfl) ▸ (zTj : zHb PG W 30 false zxb (fun a => zUb a))) (by kernel_rfl) (fun _ => rfl) (zpg _ false))))).map (fun p => ⟨p.1, p.2.1, p.2.2.1⟩) (fun p => by simp [zd, List.append_assoc]) (fun p h => h)
theorem z7u : ∀ a : zo, (zh a).length = PG.cellsOf 67 := by
 have h : PG.cellsOf 67 = 4 := by kernel_rfl
 rw [h]; intro a; rfl
theorem zAs {W : World} : zHb PG W 67 false zh zOe :=
 (zKe (fs := zhh PG 67) (l := [zZ PG 67 0, zZ PG 67 1, zZ PG 67 2, zZ PG 67 3]) (by kernel_rfl) (by kernel_rfl) (fun p => by have := z7u ⟨p.1, p.2.1, p.2.2.1, p.2.2.2.1⟩; simpa [zh, List.append_assoc] using this) (zrb (f := zZ PG 67 0) (off := 0) (z := 1) (e := eI) (good := fun a => (-9223372036854775808 ≤ a ∧ a ≤ 9223372036854775807)) ((show (zZ PG 67 0).type = 3 by kernel_rfl) ▸ ((zDd false (by kernel_rfl)) : zHb PG W 3 false eI (fun a => (-9223372036854775808 ≤ a ∧ a ≤ 9223372036854775807)))) (by kernel_rfl) (fun _ => rfl) (zrb (f := zZ PG 67 1) (off := 1) (z := 1) (e := eI) (good := fun a => (-9223372036854775808 ≤ a ∧ a ≤ 9223372036854775807)) ((show (zZ PG 67 1).type = 3 by kernel_rfl) ▸ ((zDd false (by kernel_rfl)) : zHb PG W 3 false eI (fun a => (-9223372036854775808 ≤ a ∧ a ≤ 9223372036854775807)))) (by kernel_rfl) (fun _ => rfl) (zrb (f := zZ PG 67 2) (off := 2) (z := 1) (e := eI) (good := fun a => (-9223372036854775808 ≤ a ∧ a ≤ 9223372036854775807)) ((show (zZ PG 67 2).type = 3 by kernel_rfl) ▸ ((zDd false (by kernel_rfl)) : zHb PG W 3 false eI (fun a => (-9223372036854775808 ≤ a ∧ a ≤ 9223372036854775807)))) (by kernel_rfl) (fun _ => rfl) (zrb (f := zZ PG 67 3) (off := 3) (z := 1) (e := eI) (good := fun a => (-9223372036854775808 ≤ a ∧ a ≤ 9223372036854775807)) ((show (zZ PG 67 3).type = 3 by kernel_rfl) ▸ ((zDd false (by kernel_rfl)) : zHb PG W 3 false eI (fun a => (-9223372036854775808 ≤ a ∧ a ≤ 9223372036854775807)))) (by kernel_rfl) (fun _ => rfl) (zpg _ false)))))).map (fun p => ⟨p.1, p.2.1, p.2.2.1, p.2.2.2.1⟩) (fun p => by simp [zh, List.append_assoc]) (fun p h => h)
theorem zkx : ∀ a : zb, (za a).length = PG.cellsOf 27 := by
 have h : PG.cellsOf 27 = 5 := by kernel_rfl
 rw [h]; intro a; rfl
theorem zqt {W : World} : zHb PG W 27 true za z9c :=
 (zKe (fs := zhh PG 27) (l := [zZ PG 27 0, zZ PG 27 1, zZ PG 27 2, zZ PG 27 3, zZ PG 27 4]) (by kernel_rfl) (by kernel_rfl) (fun p => by have := zkx ⟨p.1, p.2.1, p.2.2.1, p.2.2.2.1, p.2.2.2.2.1⟩; simpa [za, List.append_assoc] using this) (zrb (f := zZ PG 27 0) (off := 0) (z := 1) (e := eI) (good := fun a => (-9223372036854775808 ≤ a ∧ a ≤ 9223372036854775807)) ((show (zZ PG 27 0).type = 3 by kernel_rfl) ▸ ((zDd true (by kernel_rfl)) : zHb PG W 3 true eI (fun a => (-9223372036854775808 ≤ a ∧ a ≤ 9223372036854775807)))) (by kernel_rfl) (fun _ => rfl) (zrb (f := zZ PG 27 1) (off := 1) (z := 1) (e := (eL zi)) (good := fun a => zAg (fun a => zUe a) a) ((show (zZ PG 27 1).type = 22 by kernel_rfl) ▸ ((zAi (U := 65) (by kernel_rfl) zHs (zWu) (Nat.le_of_ble_eq_true (by kernel_rfl))) : zHb PG W 22 true (eL zi) (fun a => zAg (fun a => zUe a) a))) (by kernel_rfl) (fun _ => rfl) (zrb (f := zZ PG 27 2) (off := 2) (z := 1) (e := (eL zk)) (good := fun a => zAg (fun a => zhf a) a) ((show (zZ PG 27 2).type = 23 by kernel_rfl) ▸ ((zAi (U := 73) (by kernel_rfl) zts (z1u) (Nat.le_of_ble_eq_true (by kernel_rfl))) : zHb PG W 23 true (eL zk) (fun a => zAg (fun a => zhf a) a))) (by kernel_rfl) (fun _ => rfl) (zrb (f := zZ PG 27 3) (off := 3) (z := 1) (e := (eL zd)) (good := fun a => zAg (fun a => zHd a) a) ((show (zZ PG 27 3).type = 24 by kernel_rfl) ▸ ((zAi (U := 75) (by kernel_rfl) zws (z2u) (Nat.le_of_ble_eq_true (by kernel_rfl))) : zHb PG W 24 true (eL zd) (fun a => zAg (fun a => zHd a) a))) (by kernel_rfl) (fun _ => rfl) (zrb (f := zZ PG 27 4) (off := 4) (z := 1) (e := (eL zh)) (good := fun a => zAg (fun a => zOe a) a) ((show (zZ PG 27 4).type = 25 by kernel_rfl) ▸ ((zAi (U := 67) (by kernel_rfl) zAs (z7u) (Nat.le_of_ble_eq_true (by kernel_rfl))) : zHb PG W 25 true (eL zh) (fun a => zAg (fun a => zOe a) a))) (by kernel_rfl) (fun _ => rfl) (zpg _ true))))))).map (fun p => ⟨p.1, p.2.1, p.2.2.1, p.2.2.2.1, p.2.2.2.2.1⟩) (fun p => by simp [za, List.append_assoc]) (fun p h => h)
theorem zSw : ownKnob PG.godebug = none := by kernel_rfl
theorem zvq : laidOutB PG = true := by kernel_rfl
theorem gTab : PG.globalNamed "wishbook/shelf.steps" = some 0 := by kernel_rfl
theorem tTab : (PG.globals[0]?).map (·.type) = some 142 := by kernel_rfl
theorem uTab : PG.underlying 142 = some (.array 2 141) := by kernel_rfl
theorem uFun : PG.underlying 141 = some (.func #[90, 3, 3] #[3] false) := by kernel_rfl
theorem cFun : PG.cellsOf 141 = 1 := by kernel_rfl
theorem z3u : PG.underlying 4 = some .bool := by kernel_rfl
theorem zju (os : Os) (args : Array Value) : laidMetH PG [("wishbook/shelf.steps", Rows.laid_wishbook_shelf_steps)] ((World.doorLaid PG 600 os).forCall (fun _ _ => 0) ⟨#[], args, []⟩).memory :=
 laidMetH_of_parts3 (fuel := 8) (laidMet_of_run' 8 (by kernel_rfl) (by kernel_rfl)) (by kernel_rfl) (by kernel_rfl)
theorem zCv {W : World} (h : laidMetH PG [("wishbook/shelf.steps", Rows.laid_wishbook_shelf_steps)] W) : W.cell? ⟨0, 0, none⟩ = some (.func (.func 114) #[] #[]) ∧ W.cell? ⟨0, 1, none⟩ = some (.func (.func 115) #[] #[]) := by
 obtain ⟨g, t, cs, fuel, p, hg, ht, hv, hd⟩ := h.funcs (List.mem_singleton.2 rfl)
 obtain rfl := Option.some.inj (gTab.symm.trans hg)
 obtain rfl := Option.some.inj (tTab.symm.trans ht)
 obtain ⟨xs, m, rfl, hx, hl, hn, hel⟩ := DataW.trod_array uTab hd
 have hu := uFun
 have h0 := hel 0 (by decide)
 have h1 := hel 1 (by decide)
 rw [cFun] at h0 h1
 match xs, hn with
 | [x0, x1], _ =>
  simp only [Prod.mk.injEq, List.map_cons, List.map_nil] at hx
  have hx1 := hx.1
  have e0 : x0.1 = .held [40, 119, 105, 115, 104, 98, 111, 111, 107, 47, 115, 104, 101, 108, 102, 46, 98, 111, 111, 107, 41, 46, 108, 101, 115, 115] := by
   have : DataW.agg [x0.1, x1.1] = DataW.funcsOut (.agg [.iface "func" (.lit (.string [40, 119, 105, 115, 104, 98, 111, 111, 107, 47, 115, 104, 101, 108, 102, 46, 98, 111, 111, 107, 41, 46, 108, 101, 115, 115])), .iface "func" (.lit (.string [40, 119, 105, 115, 104, 98, 111, 111, 107, 47, 115, 104, 101, 108, 102, 46, 98, 111, 111, 107, 41, 46, 109, 111, 114, 101]))]) := hx1.symm
   simp [DataW.funcsOut, DataW.funcsOutAll] at this
   exact this.1
  have e1 : x1.1 = .held [40, 119, 105, 115, 104, 98, 111, 111, 107, 47, 115, 104, 101, 108, 102, 46, 98, 111, 111, 107, 41, 46, 109, 111, 114, 101] := by
   have : DataW.agg [x0.1, x1.1] = DataW.funcsOut (.agg [.iface "func" (.lit (.string [40, 119, 105, 115, 104, 98, 111, 111, 107, 47, 115, 104, 101, 108, 102, 46, 98, 111, 111, 107, 41, 46, 108, 101, 115, 115])), .iface "func" (.lit (.string [40, 119, 105, 115, 104, 98, 111, 111, 107, 47, 115, 104, 101, 108, 102, 46, 98, 111, 111, 107, 41, 46, 109, 111, 114, 101]))]) := hx1.symm
   simp [DataW.funcsOut, DataW.funcsOutAll] at this
   exact this.2
  obtain ⟨d0, p0⟩ := x0
  obtain ⟨d1, p1⟩ := x1
  simp only at e0 e1
  subst e0; subst e1
  have hsz : cs.toList.length = 2 := by rw [hl]; kernel_rfl
  match hcs : cs.toList, hsz with
  | [c0, c1], _ =>
   rw [hcs] at h0 h1
   have k0 : DataW.trod (funcToken PG) PG W 0 (fun _ => true) true m 141 [c0] = some (.held (40 :: [119, 105, 115, 104, 98, 111, 111, 107, 47, 115, 104, 101, 108, 102, 46, 98, 111, 111, 107, 41, 46, 108, 101, 115, 115]), p0) := h0
   have k1 : DataW.trod (funcToken PG) PG W 0 (fun _ => true) true m 141 [c1] = some (.held (40 :: [119, 105, 115, 104, 98, 111, 111, 107, 47, 115, 104, 101, 108, 102, 46, 98, 111, 111, 107, 41, 46, 109, 111, 114, 101]), p1) := h1
   obtain rfl := func_of_trod (f0 := 114) hu (by kernel_rfl) k0
   obtain rfl := func_of_trod (f0 := 115) hu (by kernel_rfl) k1
   have v0 := World.var?_cell hg hv 0
   have v1 := World.var?_cell hg hv 1
   rw [← Array.getElem?_toList, hcs] at v0 v1
   exact ⟨by simpa using v0, by simpa using v1⟩
theorem zlv {W : World} (h : laidMetH PG [("wishbook/shelf.steps", Rows.laid_wishbook_shelf_steps)] W) : ∀ g cs, TE.G g = some cs → DR (zkf W) (.pin cs) (.pointer (some ⟨g, 0, none⟩)) := by
 obtain ⟨h0, h1⟩ := zCv h
 intro g cs hg
 have : g = 0 ∧ cs = [.fn 114 [] [], .fn 115 [] []] := by
  match g, hg with
  | 0, hg => exact ⟨rfl, (Option.some.inj hg).symm⟩
 obtain ⟨rfl, rfl⟩ := this
 refine .pin (fun j => if j = 0 then .func (.func 114) #[] #[] else .func (.func 115) #[] #[]) (fun d hd => ?_) (fun j d hd => ?_) (fun j d hd => ?_)
 ·simp at hd; rcases hd with rfl | rfl <;> rfl
 ·match j, hd with
  | 0, _ => exact h0
  | 1, _ => exact h1
 ·match j, hd with
  | 0, hd => simp at hd; subst hd; exact .fn rfl rfl (fun j d h => by simp at h) (fun j d h => by simp at h)
  | 1, hd => simp at hd; subst hd; exact .fn rfl rfl (fun j d h => by simp at h) (fun j d h => by simp at h)
theorem zHv (fin : ∀ (x0 : zb) (x1 : (Nat → Int)), z9c x0 → (∀ k, k < 5 → -9223372036854775808 ≤ x1 k ∧ x1 k ≤ 9223372036854775807) → ∃ k, zVb k x0 x1 = some true) : ∀ (x0 : zb) (x1 : (Nat → Int)), z9c x0 → (∀ k, k < 5 → -9223372036854775808 ≤ x1 k ∧ x1 k ≤ 9223372036854775807) → zV TE (ev TE) 11 [.agg (za x0), .agg (aI 5 x1)] = some (.b true) := by
 intro x0 x1 g0 g1
 obtain ⟨k, hk⟩ := fin x0 x1 g0 g1
 exact zOi k x0 x1 _ hk
theorem zdv (hE : zHn TE) (ans : ∀ (x0 : zb) (x1 : (Nat → Int)), z9c x0 → (∀ k, k < 5 → -9223372036854775808 ≤ x1 k ∧ x1 k ≤ 9223372036854775807) → zV TE (ev TE) 11 [.agg (za x0), .agg (aI 5 x1)] = some (.b true)) : Rows.ShelfWiderSaid := by
 have u0 : (match PG.underlying 27 with | some (.struct _) => true | some (.array _ _) => true | _ => false) = true := by kernel_rfl
 have u1 : (match PG.underlying 71 with | some (.struct _) => true | some (.array _ _) => true | _ => false) = true := by kernel_rfl
 have hf : PG.funcs[11]? = some Go.Proofs.Tryd.f11 := by kernel_rfl
 have hpar : Go.Proofs.Tryd.f11.params = #[27, 71] := by kernel_rfl
 have lifted : ∀ (os : Os) (started : os.Started) (H : Type) (enc : TypeId × Value → H), ReturnsInHanded {} Go.Proofs.Tryd.checked os 11 .any (fun w args => (Rows.shelfWiderSpec.pre enc PG Go.Proofs.Tryd.f11 [] false w args ∧ laidMetH PG [("wishbook/shelf.steps", Rows.laid_wishbook_shelf_steps)] w) ∧ sizedMet enc PG Go.Proofs.Tryd.f11 (OpenSpec.ofChange Rows.shelfWiderSpec) false w args)
   (Rows.shelfWiderSpec.post enc PG Go.Proofs.Tryd.f11 false true false false) := by
  intro os started H enc
  refine returnsInHanded_of_change_and (C := Go.Proofs.Tryd.checked) (X := fun w _ => laidMetH PG [("wishbook/shelf.steps", Rows.laid_wishbook_shelf_steps)] w) (fun _ _ _ hh h => h.of_heap hh) zSw started (by kernel_rfl) hf
   (ChangeSpec.witness_shaped (enc := enc) (C := Go.Proofs.Tryd.checked) (os := os) (X := fun w _ => laidMetH PG [("wishbook/shelf.steps", Rows.laid_wishbook_shelf_steps)] w) false (World.doorLaid PG 600 os) #[.agg #[.int .i64 0, .slice none 0 0, .slice none 0 0, .slice none 0 0, .slice none 0 0], .agg #[.int .i64 0, .int .i64 0, .int .i64 0, .int .i64 0, .int .i64 0]] 8 rfl (World.shaped_of_RefB (by kernel_rfl) (by kernel_rfl)) (by kernel_rfl) (by kernel_rfl) (by kernel_rfl) (zju os _)) ?_
  intro W base args ds gs before hval0 hW _ _ hL _
  have hval : ∀ (j : Nat) t v, Go.Proofs.Tryd.f11.params[j]? = some t → args[j]? = some v → Value.okWide PG W .any base t v := hval0
  have hW' := hW
  obtain ⟨p, q, hA0, hV, rfl, hfz, hnd⟩ := hW
  have hA : DataW.TrodAll enc PG W 0 (fun _ => true) true Go.Proofs.Tryd.f11.params.toList args.toList ds p := hA0
  rw [hpar] at hA hval
  obtain ⟨v0, v1, d0, d1, p0, p1, rfl, rfl, rfl, h0, h1⟩ := trodAll_two hA
  obtain ⟨rfl, rfl⟩ := trodVars_none hV
  obtain ⟨x0, e0, g0⟩ := z6r zqt u0 (hval 0 27 v0 rfl rfl) h0
  obtain ⟨x1, e1, g1⟩ := z6r (zMt (P := PG) (W := W) (T := 71) (U := 3) (by kernel_rfl) (by kernel_rfl) (by kernel_rfl) true (by kernel_rfl)) u1 (hval 1 71 v1 rfl rfl) h1
  have hlt : ∀ x ∈ (p0 ++ p1) ++ [], x.block < W.heap.size := fun x hx => hW'.lt x hx
  have hcall := (ztv hE 11 _ _ (ans x0 x1 g0 g1) (zkf W) W #[v0, v1] (zct (zlv hL)) rfl (fun j x hx => by
   match j, hx with
   | 0, hx => simp at hx; subst hx; exact e0
   | 1, hx => simp at hx; subst hx; exact e1)).2
  refine (hcall.calls (fun k => by simp [FW, Fence.wide, Fence.room])).mono fun e W' ⟨v, m', he, hn, hv⟩ => ?_
  subst he
  cases hv
  refine ⟨_, rfl, zBq (pa := p0 ++ p1) (pv := []) hW' (fun _ _ _ => trodAll_mk1 (shut_bool z3u _)) (fun sp hs => ?_) (fun _ _ => rfl) rfl hn.below (ok_one (by kernel_rfl) rfl (okWide_bool_mk z3u _))⟩
  exact trodAll_mk2 (WideElems.Trod_stays zvq (by kernel_rfl) (of_decide_eq_true (by kernel_rfl)) h0 (fun x hx => hn.below.same (hlt x (by simp [hx]))) (fun x hx => hs x (by simp [hx]))) (WideElems.Trod_stays zvq (by kernel_rfl) (of_decide_eq_true (by kernel_rfl)) h1 (fun x hx => hn.below.same (hlt x (by simp [hx]))) (fun x hx => hs x (by simp [hx])))
 exact OpenClaim.holds_of_wide 11 Go.Proofs.Tryd.f11 rfl rfl rfl rfl rfl rfl rfl ⟨rfl, rfl, rfl, rfl, rfl⟩ rfl rfl rfl rfl rfl (by kernel_rfl) hf (by kernel_rfl)
  (of_decide_eq_true (by kernel_rfl)) (by unfold Func.isWrapper; first | (rw [if_pos (by decide +kernel)]; kernel_rfl) | (rw [if_neg (by decide +kernel)]; exact ⟨rfl, rfl⟩))
  (fun os started H enc _ => lifted os started H enc)
end Go.AM
namespace Go.Proofs.YtfoohlabifhplaaDoor
open Go
theorem shelfWider_proved : Rows.ShelfWiderCardSaid :=
 Claim7.holds_tied_plain_at .later [] [.funcs] true (true, "c941622246c92d4dc2cc0e9b85f63524aece4bd608dc5890e5be099a61cf9518") false
  (Go.AM.zdv Go.AM.zEy (Go.AM.zHv Go.AM.zbv)) (fun _ h => by cases h) (by kernel_rfl) (fun _ h => by cases h) shelfWider_row_tie rfl ⟨rfl, rfl⟩ (by kernel_rfl) rfl
  (fun f fn hf hfn => by
   obtain rfl : f = 11 := Option.some.inj ((show Tryd.prog.funcNamed "wishbook/wishbooklaw04.ShelfWider" = some 11 by kernel_rfl).symm.trans hf) |>.symm
   obtain rfl : fn = Tryd.f11 := (Option.some.inj ((show Tryd.prog.funcs[11]? = some Tryd.f11 by kernel_rfl).symm.trans hfn)).symm
   exact ⟨by kernel_rfl, fun j t ht => by
    rw [show Tryd.f11.params = #[27, 71] by kernel_rfl] at ht
    have hm : t ∈ [27, 71] := by simpa using Array.mem_of_getElem? ht
    have hall : ([27, 71].all fun u => !Tryd.prog.wantsStandIn u) = true := by kernel_rfl
    exact (show Tryd.prog.wantsStandIn t = false by simpa using List.all_eq_true.1 hall t hm)⟩)
  (by kernel_rfl)
end Go.Proofs.YtfoohlabifhplaaDoor
