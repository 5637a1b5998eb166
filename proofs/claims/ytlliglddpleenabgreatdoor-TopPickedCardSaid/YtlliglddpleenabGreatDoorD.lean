/- The statement TopPicked holds for every input that its row lets in. Conditions: none. -/
import Derived.Test.YtlliglddpleenabGreatDoorC
set_option linter.all false
set_option linter.unusedVariables false
set_option maxRecDepth 100000
namespace Go.AM
open Go
structure zD where
 Low : Int
 High : Int
def zO (x : zD) : List D := eI x.Low ++ eI x.High
structure zj where
 Shelf : Int
 Many : Int
def zk (x : zj) : List D := eI x.Shelf ++ eI x.Many
structure zJ where
 Lines : (SL zj)
 Until : Int
def zL (x : zJ) : List D := (eL zk) x.Lines ++ eI x.Until
structure zh where
 Far : (SL Int)
 Step : zD
 Pick : (SL zD)
 Carry : Int
 Slips : (SL zJ)
def zl (x : zh) : List D := (eL eI) x.Far ++ zO x.Step ++ (eL zO) x.Pick ++ eI x.Carry ++ (eL zL) x.Slips
structure zZ where
 SlipFloor : zh
structure zx where
 Begin : zD
 Room : Int
def zn (x : zx) : List D := zO x.Begin ++ eI x.Room
structure zw where
 Day : Int
 Shelf : Int
 Back : Bool
 By : zD
def zp (x : zw) : List D := eI x.Day ++ eI x.Shelf ++ eB x.Back ++ zO x.By
structure zQ where
 Shelf : Int
 Days : zD
 By : zD
def zm (x : zQ) : List D := eI x.Shelf ++ zO x.Days ++ zO x.By
structure zR where
 Day : Int
 Shelf : Int
 Read : Int
 Err : Int
def zu (x : zR) : List D := eI x.Day ++ eI x.Shelf ++ eI x.Read ++ eI x.Err
structure zd where
 Days : Int
 Shelves : (SL zx)
 Moves : (SL zw)
 Deliveries : (SL zQ)
 Counts : (SL zR)
def za (x : zd) : List D := eI x.Days ++ (eL zn) x.Shelves ++ (eL zp) x.Moves ++ (eL zm) x.Deliveries ++ (eL zu) x.Counts
structure zi where
 ShelfBook : zd
 shelf : Int
 left : Int
def zq (x : zi) : List D := za x.ShelfBook ++ eI x.shelf ++ eI x.left
structure zt where
 day : Int
 came : Int
def zA (x : zt) : List D := eI x.day ++ eI x.came
structure zF where
 way : Int
 by_ : zD
def zN (x : zF) : List D := eI x.way ++ zO x.by_
def zB (a b : zt) : Bool := ((a.day == b.day) && ((a.came == b.came) && true))
abbrev zt0 := (Nat → Bool)
abbrev zt1 := (List (zt × (Nat → Bool)))
abbrev zt2 := ((SL Int) → Int → Int → Option ((SL Int) × Bool))
abbrev zt3 := (Bool × Int)
abbrev zt4 := (Int × Bool)
abbrev zt5 := (Nat → Int)
abbrev zt6 := (Int × (SL zx) × (SL zw) × (SL zQ) × (SL zR) × Int × Int × Int × Int)
abbrev zt7 := (Int × (List (zt × (Nat → Bool))))
abbrev zt8 := (Bool × Int × Int)
abbrev zt9 := ((SL (SL zj)) × Int)
abbrev zt10 := ((SL Int) × Int × Int × (SL zD) × Int × (SL zJ) × Int)
abbrev zt11 := (Int × (List zw) × (List Int))
abbrev zt12 := (List zw)
abbrev zt13 := (List (SL zj))
abbrev zt14 := (Int × (List zF))
abbrev zt15 := (List zF)
abbrev zt16 := (Int × (Nat → Bool))
abbrev zt17 := (Int × (List zx))
abbrev zt18 := ((SL Int) × Int × Bool)
abbrev zt19 := (Int × Int × (Nat → Int) × (Nat → Int))
def z0f (k : Nat) (p0 : zZ) (p1 : Int) : Option ((SL Int) × Int × Int × (SL zD) × Int × (SL zJ) × Int) :=
 some (p0.SlipFloor.Far, p0.SlipFloor.Step.Low, p0.SlipFloor.Step.High, p0.SlipFloor.Pick, p0.SlipFloor.Carry, p0.SlipFloor.Slips, p1)
def zGj (r : zt10) : D := (.fn 100 [] [(.pin [(dl eI r.1.1 r.1.2), (di r.2.1), (di r.2.2.1), (dl zO r.2.2.2.1.1 r.2.2.2.1.2), (di r.2.2.2.2.1), (dl zL r.2.2.2.2.2.1.1 r.2.2.2.2.2.1.2)]), (.pin [(di r.2.2.2.2.2.2)])])
def zOc (k : Nat) (p0 : zZ) (p1 : Int) (v1 : zJ) (s1_9 : Int) (s1_17 : zt5) : Option ((Int × (Nat → Int)) ⊕ (Int × (Nat → Int))) :=
 cond (decide (s1_9 < (v1.Lines.1.length : Int))) (
 (idx v1.Lines.1 s1_9).bind fun v202 =>
 cond (decide (0 ≤ v202.Shelf) && decide (v202.Shelf < 12)) (
 some (Sum.inl ((w64 (s1_9 + 1)), (upd s1_17 v202.Shelf.toNat v202.Many)))) none) (
 some (Sum.inr (s1_9, s1_17)))
def zTc (k : Nat) (p0 : zZ) (p1 : Int) : Option (Nat → Int) :=
 (idx p0.SlipFloor.Slips.1 p1).bind fun v1 =>
 (iter (fun s => zOc k p0 p1 v1 s.1 s.2) k (0, (fun _ => 0))).bind fun v3 =>
 some v3.2
def z0i (r : zt5) : D := (.agg (aI 12 r))
def z7g (k : Nat) : Option (Nat → Int) :=
 some (fun _ => 0)
def z1m (r : zt5) : D := (.agg (aI 12 r))
def zve (k : Nat) (p0 : zZ) (p1 : Int) (v1 : zt10) (s1_14 s6_8 s6_9 : Int) (s6_10 s6_11 : zt5) : Option ((Int × Int × (Nat → Int) × (Nat → Int)) ⊕ (Int × Int × (Nat → Int) × (Nat → Int))) :=
 cond (decide (s6_9 ≥ 0)) (
 cond (decide (0 ≤ s6_9) && decide (s6_9 < 12)) (
 some (Sum.inl ((w64 (s6_8 - (if (s6_10 s6_9.toNat) < s6_8 then (s6_10 s6_9.toNat) else s6_8))), (w64 (s6_9 - 1)), (upd s6_10 s6_9.toNat (w64 ((s6_10 s6_9.toNat) - (if (s6_10 s6_9.toNat) < s6_8 then (s6_10 s6_9.toNat) else s6_8)))), (upd s6_11 s6_9.toNat (if (s6_10 s6_9.toNat) < s6_8 then (s6_10 s6_9.toNat) else s6_8))))) none) (
 some (Sum.inr (s6_8, s6_9, s6_10, s6_11)))
def zOb (k : Nat) (p0 p1 p2 : Int) : Option Bool :=
 cond (decide (p1 ≤ p0)) (
 some (decide (p0 ≤ p2))) (
 some false)
def zpk (r : Bool) : D := (db r)
def zrg (k : Nat) (p0 : zD) (p1 p2 : Int) : Option Bool :=
 cond (decide (p1 ≤ p0.Low)) (
 cond (decide (p0.Low ≤ p0.High)) (
 some (decide (p0.High ≤ p2))) (
 some false)) (
 some false)
def zRh (r : Bool) : D := (db r)
def zlg (k : Nat) (p0 : zh) : Option Bool :=
 (zOb k (p0.Far.1.length : Int) 1 12).bind fun v201 =>
 cond v201 (
 cond ((p0.Pick.1.length : Int) == (p0.Far.1.length : Int)) (
 (zrg k p0.Step 1 10).bind fun v205 =>
 cond v205 (
 (zOb k p0.Carry 1 20).bind fun v208 =>
 cond v208 (
 some (decide ((p0.Slips.1.length : Int) ≤ 9))) (
 some false)) (
 some false)) (
 some false)) (
 some false)
def zHh (k : Nat) (p0 : zh) (s2_7 : Bool) (s2_8 s2_11 v402 : Int) : Option Bool :=
 cond s2_7 (
 (zOb k v402 s2_8 500).bind fun v502 =>
 some v502) (
 some false)
def zLe (k : Nat) (p0 : zh) (s2_7 : Bool) (s2_8 s2_11 : Int) : Option ((Bool × Int × Int) ⊕ (Bool × Int × Int)) :=
 cond (decide (s2_11 < (p0.Far.1.length : Int))) (
 (idx p0.Far.1 s2_11).bind fun v402 =>
 (zHh k p0 s2_7 s2_8 s2_11 v402).bind fun v404 =>
 some (Sum.inl (v404, v402, (w64 (s2_11 + 1))))) (
 some (Sum.inr (s2_7, s2_8, s2_11)))
def zLh (k : Nat) (p0 : zh) (v3 : zt8) (s5_7 : Bool) (s5_15 : Int) (v702 : zD) : Option Bool :=
 cond s5_7 (
 (zrg k v702 0 300).bind fun v802 =>
 some v802) (
 some false)
def zJe (k : Nat) (p0 : zh) (v3 : zt8) (s5_7 : Bool) (s5_15 : Int) : Option ((Bool × Int) ⊕ (Bool × Int)) :=
 cond (decide (s5_15 < (p0.Pick.1.length : Int))) (
 (idx p0.Pick.1 s5_15).bind fun v702 =>
 (zLh k p0 v3 s5_7 s5_15 v702).bind fun v704 =>
 some (Sum.inl (v704, (w64 (s5_15 + 1))))) (
 some (Sum.inr (s5_7, s5_15)))
def zlh (k : Nat) (p0 : zh) (v3 : zt8) (v5 : zt3) (s8_7 : Bool) (s8_19 : Int) (v1302 : zJ) : Option Bool :=
 cond s8_7 (
 (zOb k v1302.Until 0 100000).bind fun v1402 =>
 cond v1402 (
 some (decide ((v1302.Lines.1.length : Int) > 0))) (
 some false)) (
 some false)
def zkh (k : Nat) (p0 : zh) (v3 : zt8) (v5 : zt3) (s8_19 : Int) (v1302 : zJ) (s14_7 : Bool) (s14_21 s14_24 : Int) (v1602 : zj) : Option Bool :=
 cond s14_7 (
 (zOb k v1602.Shelf (w64 (s14_21 + 1)) (w64 ((p0.Far.1.length : Int) - 1))).bind fun v1702 =>
 cond v1702 (
 (zOb k v1602.Many 1 20).bind fun v1705 =>
 some v1705) (
 some false)) (
 some false)
def z8d (k : Nat) (p0 : zh) (v3 : zt8) (v5 : zt3) (s8_19 : Int) (v1302 : zJ) (s14_7 : Bool) (s14_21 s14_24 : Int) : Option ((Bool × Int × Int) ⊕ (Bool × Int × Int)) :=
 cond (decide (s14_24 < (v1302.Lines.1.length : Int))) (
 (idx v1302.Lines.1 s14_24).bind fun v1602 =>
 (zkh k p0 v3 v5 s8_19 v1302 s14_7 s14_21 s14_24 v1602).bind fun v1604 =>
 some (Sum.inl (v1604, v1602.Shelf, (w64 (s14_24 + 1))))) (
 some (Sum.inr (s14_7, s14_21, s14_24)))
def zMe (k : Nat) (p0 : zh) (v3 : zt8) (v5 : zt3) (s8_7 : Bool) (s8_19 : Int) : Option ((Bool × Int) ⊕ (Bool × Int)) :=
 cond (decide (s8_19 < (p0.Slips.1.length : Int))) (
 (idx p0.Slips.1 s8_19).bind fun v1302 =>
 (zlh k p0 v3 v5 s8_7 s8_19 v1302).bind fun v1304 =>
 (iter (fun s => z8d k p0 v3 v5 s8_19 v1302 s.1 s.2.1 s.2.2) k (v1304, (-1), 0)).bind fun v1306 =>
 some (Sum.inl (v1306.1, (w64 (s8_19 + 1))))) (
 some (Sum.inr (s8_7, s8_19)))
def zYf (k : Nat) (p0 : zh) : Option Int :=
 (zlg k p0).bind fun v1 =>
 (iter (fun s => zLe k p0 s.1 s.2.1 s.2.2) k (v1, 0, 0)).bind fun v3 =>
 (iter (fun s => zJe k p0 v3 s.1 s.2) k (v3.1, 0)).bind fun v5 =>
 (iter (fun s => zMe k p0 v3 v5 s.1 s.2) k (v5.1, 0)).bind fun v7 =>
 cond (!v7.1) (
 some 30) (
 some 0)
def zgl (r : Int) : D := (di r)
def zVb (k : Nat) (p0 p1 p2 : Int) : Option Bool :=
 cond (decide (p1 ≤ p0)) (
 some (decide (p0 ≤ p2))) (
 some false)
def zJf (r : Bool) : D := (db r)
def zUc (k : Nat) (p0 : zZ) (p1 : Int) : Option Bool :=
 (zOb k p1 0 (w64 ((p0.SlipFloor.Slips.1.length : Int) - 1))).bind fun v1 =>
 some v1
def zYi (r : Bool) : D := (db r)
def zOh (k : Nat) (p0 : zh) (p1 : Int) (v7 : zt10) (s1_21 : zt13) (s8_8 s8_9 : Int) (s8_10 s8_11 : zt5) : Option ((Int × Int × (Nat → Int) × (Nat → Int)) ⊕ (Int × Int × (Nat → Int) × (Nat → Int))) :=
 cond (decide (s8_9 ≥ 0)) (
 cond (decide (0 ≤ s8_9) && decide (s8_9 < 12)) (
 some (Sum.inl ((w64 (s8_8 - (if (s8_10 s8_9.toNat) < s8_8 then (s8_10 s8_9.toNat) else s8_8))), (w64 (s8_9 - 1)), (upd s8_10 s8_9.toNat (w64 ((s8_10 s8_9.toNat) - (if (s8_10 s8_9.toNat) < s8_8 then (s8_10 s8_9.toNat) else s8_8)))), (upd s8_11 s8_9.toNat (if (s8_10 s8_9.toNat) < s8_8 then (s8_10 s8_9.toNat) else s8_8))))) none) (
 some (Sum.inr (s8_8, s8_9, s8_10, s8_11)))
def zKe (k : Nat) (p0 : zh) (p1 : Int) (v7 : zt10) (s1_21 : zt13) (v804 : zt19) (s9_20 : Int) (s9_22 : (List zj)) : Option ((Int × (List zj)) ⊕ (Int × (List zj))) :=
 cond (decide (s9_20 < 12)) (
 cond (decide (0 ≤ s9_20) && decide (s9_20 < 12)) (
 cond (decide ((v804.2.2.2 s9_20.toNat) > 0)) (
 cond (decide (s9_22.length + 1 ≤ LIM)) (
 some (Sum.inl ((w64 (s9_20 + 1)), (s9_22 ++ [(⟨s9_20, (v804.2.2.2 s9_20.toNat)⟩ : zj)])))) none) (
 some (Sum.inl ((w64 (s9_20 + 1)), s9_22)))) none) (
 some (Sum.inr (s9_20, s9_22)))
def zNh (k : Nat) (p0 : zh) (p1 : Int) (v7 : zt10) (s1_7 : zt5) (s1_21 : zt13) : Option (((Nat → Int) × (List (SL zj))) ⊕ ((Nat → Int) × (List (SL zj)))) :=
 (z7g k).bind fun v801 =>
 cond (!(eqI s1_7 v801 0 12)) (
 (iter (fun s => zOh k p0 p1 v7 s1_21 s.1 s.2.1 s.2.2.1 s.2.2.2) k (v7.2.2.2.2.1, (w64 ((v7.1.1.length : Int) - 1)), s1_7, (fun _ => 0))).bind fun v804 =>
 (iter (fun s => zKe k p0 p1 v7 s1_21 v804 s.1 s.2) k (0, ([] : List zj))).bind fun v806 =>
 cond (decide (s1_21.length + 1 ≤ LIM)) (
 some (Sum.inl (v804.2.2.1, (s1_21 ++ [(v806.2, (xcap true v806.2))])))) none) (
 some (Sum.inr (s1_7, s1_21)))
def zGi (k : Nat) (p0 : zh) (p1 : Int) : Option ((SL (SL zj)) × Int) :=
 (zYf k p0).bind fun v1 =>
 cond (v1 != 0) (
 some (([], Cap.nil), v1)) (
 (zUc k (⟨p0⟩ : zZ) p1).bind fun v4 =>
 cond (!v4) (
 some (([], Cap.nil), 31)) (
 (z0f k (⟨p0⟩ : zZ) p1).bind fun v7 =>
 (zTc k (⟨(⟨v7.1, (⟨v7.2.1, v7.2.2.1⟩ : zD), v7.2.2.2.1, v7.2.2.2.2.1, v7.2.2.2.2.2.1⟩ : zh)⟩ : zZ) v7.2.2.2.2.2.2).bind fun v9 =>
 (iter (fun s => zNh k p0 p1 v7 s.1 s.2) k (v9, ([] : List (SL zj)))).bind fun v11 =>
 some ((v11.2, (xcap true v11.2)), 0)))
def zNi (r : zt9) : D := (.tup [(dl (eL zk) r.1.1 r.1.2), (di r.2)])
def zzg (k : Nat) (p0 : zh) (p1 : Int) (p2 : (SL (SL zj))) (s1_14 : Int) (v502 : (SL zj)) (s5_17 s5_18 s5_21 : Int) (s5_35 : zt5) (v702 : zj) : Option Bool :=
 (zOb k v702.Shelf (w64 (s5_17 + 1)) (w64 ((p0.Far.1.length : Int) - 1))).bind fun v801 =>
 cond (!v801) (
 some true) (
 cond (decide (0 ≤ v702.Shelf) && decide (v702.Shelf < 12)) (
 (zOb k v702.Many 1 (s5_35 v702.Shelf.toNat)).bind fun v805 =>
 some (!v805)) none)
def zCd (k : Nat) (p0 : zh) (p1 : Int) (p2 : (SL (SL zj))) (s1_14 : Int) (v502 : (SL zj)) (s5_17 s5_18 s5_21 : Int) (s5_35 : zt5) : Option ((Int × Int × Int × (Nat → Int)) ⊕ ((Int × Int × Int × (Nat → Int) × Int × Int) ⊕ (Int × Int × Int × (Nat → Int)))) :=
 cond (decide (s5_21 < (v502.1.length : Int))) (
 (idx v502.1 s5_21).bind fun v702 =>
 (zzg k p0 p1 p2 s1_14 v502 s5_17 s5_18 s5_21 s5_35 v702).bind fun v704 =>
 cond v704 (
 some (Sum.inr (Sum.inl (s5_17, s5_18, s5_21, s5_35, v702.Shelf, v702.Many)))) (
 cond (decide (0 ≤ v702.Shelf) && decide (v702.Shelf < 12)) (
 some (Sum.inl (v702.Shelf, (w64 (s5_18 + v702.Many)), (w64 (s5_21 + 1)), (upd s5_35 v702.Shelf.toNat (w64 ((s5_35 v702.Shelf.toNat) - v702.Many)))))) none)) (
 some (Sum.inr (Sum.inr (s5_17, s5_18, s5_21, s5_35))))
def zVe (k : Nat) (p0 : zh) (p1 : Int) (p2 : (SL (SL zj))) (s1_14 : Int) (s1_28 : zt5) : Option ((Int × (Nat → Int)) ⊕ ((Int × (SL zj) × Int × Int × Int × Int × (Nat → Int) × Int × Int) ⊕ ((Int × (SL zj) × Int × Int × Int × Int × (Nat → Int)) ⊕ (Int × (Nat → Int))))) :=
 cond (decide (s1_14 < (p2.1.length : Int))) (
 (idx p2.1 s1_14).bind fun v502 =>
 (iter (fun s => zCd k p0 p1 p2 s1_14 v502 s.1 s.2.1 s.2.2.1 s.2.2.2) k ((-1), 0, 0, s1_28)).bind fun v504 =>
 Sum.elim (fun v507 =>
 some (Sum.inr (Sum.inl (s1_14, v502, v507.1, v507.2.1, (v502.1.length : Int), v507.2.2.1, v507.2.2.2.1, v507.2.2.2.2.1, v507.2.2.2.2.2)))) (fun w3_0 =>
 (fun v507 =>
 (zOb k v507.2.1 1 p0.Carry).bind fun v508 =>
 cond (!v508) (
 some (Sum.inr (Sum.inr (Sum.inl (s1_14, v502, v507.1, v507.2.1, (v502.1.length : Int), v507.2.2.1, v507.2.2.2))))) (
 some (Sum.inl ((w64 (s1_14 + 1)), v507.2.2.2)))) w3_0) v504) (
 some (Sum.inr (Sum.inr (Sum.inr (s1_14, s1_28)))))
def zVg (k : Nat) (p0 : zh) (p1 : Int) (p2 : (SL (SL zj))) : Option (Bool × Int) :=
 (zYf k p0).bind fun v1 =>
 cond (v1 != 0) (
 some (false, v1)) (
 (zUc k (⟨p0⟩ : zZ) p1).bind fun v4 =>
 cond (!v4) (
 some (false, 31)) (
 (zTc k (⟨p0⟩ : zZ) p1).bind fun v7 =>
 (iter (fun s => zVe k p0 p1 p2 s.1 s.2) k (0, v7)).bind fun v9 =>
 Sum.elim (fun v12 =>
 some (false, 0)) (fun w6_0 =>
 Sum.elim (fun v12 =>
 some (false, 0)) (fun w6_1 =>
 (fun v12 =>
 (z7g k).bind fun v13 =>
 some ((eqI v12.2 v13 0 12), 0)) w6_1) w6_0) v9))
def z7d (r : zt3) : D := (.tup [(db r.1), (di r.2)])
def zsc (k : Nat) (p0 p1 : Int) : Option zD :=
 some (⟨p0, p1⟩ : zD)
def zYj (r : zD) : D := (.agg [(di r.Low), (di r.High)])
def zNd (k : Nat) (p0 p1 : Int) (cb : Bool) : Option (Int × Bool) :=
 cond cb (
 some ((w64 ((p0.tmod p1) + p1)), true)) (
 some ((p0.tmod p1), false))
def zvb (k : Nat) (p0 p1 : Int) : Option Int :=
 cond (decide (p1 < 1)) (
 some 0) (
 cond (p1 == 0) (
 none) (
 (zNd k p0 p1 (decide ((p0.tmod p1) < 0))).bind fun v3 =>
 some v3.1))
def z2f (r : Int) : D := (di r)
def zab (k : Nat) (p0 p1 p2 : Int) : Option Bool :=
 cond (decide (p1 ≤ p0)) (
 some (decide (p0 ≤ p2))) (
 some false)
def z5i (r : Bool) : D := (db r)
def zyf (k : Nat) (p0 : zd) (p1 p2 : Int) : Option Bool :=
 (zab k p1 0 (w64 ((p0.Shelves.1.length : Int) - 1))).bind fun v1 =>
 cond v1 (
 (zab k p2 0 (w64 (p0.Days - 1))).bind fun v4 =>
 some v4) (
 some false)
def z8i (r : Bool) : D := (db r)
def zBd (k : Nat) (p0 : zD) (p1 p2 : Int) : Option Bool :=
 cond (decide (p1 ≤ p0.Low)) (
 cond (decide (p0.Low ≤ p0.High)) (
 some (decide (p0.High ≤ p2))) (
 some false)) (
 some false)
def zfh (r : Bool) : D := (db r)
def zRf (k : Nat) (p0 : zd) : Option Bool :=
 (zab k p0.Days 1 12).bind fun v201 =>
 cond v201 (
 (zab k (p0.Shelves.1.length : Int) 1 4).bind fun v204 =>
 cond v204 (
 cond (decide ((p0.Moves.1.length : Int) ≤ 10)) (
 cond (decide ((p0.Deliveries.1.length : Int) ≤ 3)) (
 some (decide ((p0.Counts.1.length : Int) ≤ 8))) (
 some false)) (
 some false)) (
 some false)) (
 some false)
def zNf (k : Nat) (p0 : zd) (s2_6 : Bool) (s2_9 : Int) (v402 : zx) : Option Bool :=
 cond s2_6 (
 (zab k v402.Room 1 60).bind fun v502 =>
 cond v502 (
 (zBd k v402.Begin 0 v402.Room).bind fun v505 =>
 some v505) (
 some false)) (
 some false)
def zBc (k : Nat) (p0 : zd) (s2_6 : Bool) (s2_9 : Int) : Option ((Bool × Int) ⊕ (Bool × Int)) :=
 cond (decide (s2_9 < (p0.Shelves.1.length : Int))) (
 (idx p0.Shelves.1 s2_9).bind fun v402 =>
 (zNf k p0 s2_6 s2_9 v402).bind fun v404 =>
 some (Sum.inl (v404, (w64 (s2_9 + 1))))) (
 some (Sum.inr (s2_6, s2_9)))
def zxf (k : Nat) (p0 : zd) (v3 : zt3) (s5_6 : Bool) (s5_13 : Int) (v702 : zw) : Option Bool :=
 cond s5_6 (
 (zab k v702.Day 0 (w64 (p0.Days - 1))).bind fun v802 =>
 cond v802 (
 (zab k v702.Shelf 0 (w64 ((p0.Shelves.1.length : Int) - 1))).bind fun v805 =>
 cond v805 (
 (zBd k v702.By 0 60).bind fun v808 =>
 some v808) (
 some false)) (
 some false)) (
 some false)
def zvc (k : Nat) (p0 : zd) (v3 : zt3) (s5_6 : Bool) (s5_13 : Int) : Option ((Bool × Int) ⊕ (Bool × Int)) :=
 cond (decide (s5_13 < (p0.Moves.1.length : Int))) (
 (idx p0.Moves.1 s5_13).bind fun v702 =>
 (zxf k p0 v3 s5_6 s5_13 v702).bind fun v704 =>
 some (Sum.inl (v704, (w64 (s5_13 + 1))))) (
 some (Sum.inr (s5_6, s5_13)))
def zUe (k : Nat) (p0 : zd) (v3 v5 : zt3) (s8_6 : Bool) (s8_17 : Int) (v1002 : zQ) : Option Bool :=
 cond s8_6 (
 (zab k v1002.Shelf 0 (w64 ((p0.Shelves.1.length : Int) - 1))).bind fun v1102 =>
 cond v1102 (
 (zBd k v1002.Days 0 (w64 (p0.Days - 1))).bind fun v1105 =>
 cond v1105 (
 (zBd k v1002.By 0 60).bind fun v1108 =>
 some v1108) (
 some false)) (
 some false)) (
 some false)
def zzc (k : Nat) (p0 : zd) (v3 v5 : zt3) (s8_6 : Bool) (s8_17 : Int) : Option ((Bool × Int) ⊕ (Bool × Int)) :=
 cond (decide (s8_17 < (p0.Deliveries.1.length : Int))) (
 (idx p0.Deliveries.1 s8_17).bind fun v1002 =>
 (zUe k p0 v3 v5 s8_6 s8_17 v1002).bind fun v1004 =>
 some (Sum.inl (v1004, (w64 (s8_17 + 1))))) (
 some (Sum.inr (s8_6, s8_17)))
def zNe (k : Nat) (p0 : zd) (v3 v5 v7 : zt3) (s11_6 : Bool) (s11_21 : Int) (v1302 : zR) : Option Bool :=
 cond s11_6 (
 (zab k v1302.Day 0 (w64 (p0.Days - 1))).bind fun v1402 =>
 cond v1402 (
 (zab k v1302.Shelf 0 (w64 ((p0.Shelves.1.length : Int) - 1))).bind fun v1405 =>
 cond v1405 (
 (zab k v1302.Read 0 60).bind fun v1408 =>
 cond v1408 (
 (zab k v1302.Err 0 20).bind fun v1411 =>
 some v1411) (
 some false)) (
 some false)) (
 some false)) (
 some false)
def zjc (k : Nat) (p0 : zd) (v3 v5 v7 : zt3) (s11_6 : Bool) (s11_21 : Int) : Option ((Bool × Int) ⊕ (Bool × Int)) :=
 cond (decide (s11_21 < (p0.Counts.1.length : Int))) (
 (idx p0.Counts.1 s11_21).bind fun v1302 =>
 (zNe k p0 v3 v5 v7 s11_6 s11_21 v1302).bind fun v1304 =>
 some (Sum.inl (v1304, (w64 (s11_21 + 1))))) (
 some (Sum.inr (s11_6, s11_21)))
def zaf (k : Nat) (p0 : zd) : Option Int :=
 (zRf k p0).bind fun v1 =>
 (iter (fun s => zBc k p0 s.1 s.2) k (v1, 0)).bind fun v3 =>
 (iter (fun s => zvc k p0 v3 s.1 s.2) k (v3.1, 0)).bind fun v5 =>
 (iter (fun s => zzc k p0 v3 v5 s.1 s.2) k (v5.1, 0)).bind fun v7 =>
 (iter (fun s => zjc k p0 v3 v5 v7 s.1 s.2) k (v7.1, 0)).bind fun v9 =>
 cond (!v9.1) (
 some 40) (
 some 0)
def zkk (r : Int) : D := (di r)
def z8c (k : Nat) (p0 : zi) (s1_7 : Int) (s1_16 : zt0) : Option ((Int × (Nat → Bool)) ⊕ (Int × (Nat → Bool))) :=
 (idx p0.ShelfBook.Shelves.1 p0.shelf).bind fun v201 =>
 cond (decide (s1_7 ≤ v201.Begin.High)) (
 cond (decide (0 ≤ s1_7) && decide (s1_7 < 61)) (
 some (Sum.inl ((w64 (s1_7 + 1)), (upd s1_16 s1_7.toNat true)))) none) (
 some (Sum.inr (s1_7, s1_16)))
def zje (k : Nat) (p0 : zi) : Option (Nat → Bool) :=
 (idx p0.ShelfBook.Shelves.1 p0.shelf).bind fun v1 =>
 (iter (fun s => z8c k p0 s.1 s.2) k (v1.Begin.Low, (fun _ => false))).bind fun v3 =>
 some v3.2
def zMj (r : zt0) : D := (.agg (aB 61 r))
def zHe (k : Nat) : Option (Nat → Bool) :=
 some (fun _ => false)
def zLl (r : zt0) : D := (.agg (aB 61 r))
def zGd (k : Nat) (p0 : zi) (p1 p2 : Int) : Option (Int × (SL zx) × (SL zw) × (SL zQ) × (SL zR) × Int × Int × Int × Int) :=
 some (p0.ShelfBook.Days, p0.ShelfBook.Shelves, p0.ShelfBook.Moves, p0.ShelfBook.Deliveries, p0.ShelfBook.Counts, p0.shelf, p0.left, p2, p1)
def zwk (r : zt6) : D := (.fn 181 [] [(.pin [(di r.1), (dl zn r.2.1.1 r.2.1.2), (dl zp r.2.2.1.1 r.2.2.1.2), (dl zm r.2.2.2.1.1 r.2.2.2.1.2), (dl zu r.2.2.2.2.1.1 r.2.2.2.2.1.2), (di r.2.2.2.2.2.1), (di r.2.2.2.2.2.2.1)]), (.pin [(di r.2.2.2.2.2.2.2.1)]), (.pin [(di r.2.2.2.2.2.2.2.2)])])
def z3c (k : Nat) (p0 : zi) (p1 p2 s1_12 : Int) (s1_20 : zt15) : Option ((Int × (List zF)) ⊕ (Int × (List zF))) :=
 cond (decide (s1_12 < (p0.ShelfBook.Deliveries.1.length : Int))) (
 (idx p0.ShelfBook.Deliveries.1 s1_12).bind fun v302 =>
 cond (decide (s1_12 < 0)) (
 none) (
 cond ((ztb (zY p2 s1_12) 1) == 1) (
 cond (decide (s1_20.length + 1 ≤ LIM)) (
 some (Sum.inl ((w64 (s1_12 + 1)), (s1_20 ++ [(⟨1, v302.By⟩ : zF)])))) none) (
 some (Sum.inl ((w64 (s1_12 + 1)), s1_20))))) (
 some (Sum.inr (s1_12, s1_20)))
def zoe (k : Nat) (p0 : zi) (p1 p2 : Int) (v1 : zt14) (s3_16 : Int) (s3_24 : zt15) (v702 : zw) : Option Bool :=
 cond (v702.Day == p1) (
 some (v702.Shelf == p0.shelf)) (
 some false)
def zvg (k : Nat) (p0 : zi) (p1 p2 : Int) (v1 : zt14) (s3_16 : Int) (s3_24 : zt15) (v702 : zw) (cb : Bool) : Option (Bool × Int) :=
 cond cb (
 some (true, 1)) (
 some (false, 0))
def z9c (k : Nat) (p0 : zi) (p1 p2 : Int) (v1 : zt14) (s3_16 : Int) (s3_24 : zt15) : Option ((Int × (List zF)) ⊕ (Int × (List zF))) :=
 cond (decide (s3_16 < (p0.ShelfBook.Moves.1.length : Int))) (
 (idx p0.ShelfBook.Moves.1 s3_16).bind fun v702 =>
 (zoe k p0 p1 p2 v1 s3_16 s3_24 v702).bind fun v704 =>
 cond v704 (
 (zvg k p0 p1 p2 v1 s3_16 s3_24 v702 v702.Back).bind fun v707 =>
 cond (decide (s3_24.length + 1 ≤ LIM)) (
 some (Sum.inl ((w64 (s3_16 + 1)), (s3_24 ++ [(⟨v707.2, v702.By⟩ : zF)])))) none) (
 some (Sum.inl ((w64 (s3_16 + 1)), s3_24)))) (
 some (Sum.inr (s3_16, s3_24)))
def zfd (k : Nat) (p0 : zi) (p1 p2 : Int) : Option (SL zF) :=
 (iter (fun s => z3c k p0 p1 p2 s.1 s.2) k (0, ([] : List zF))).bind fun v1 =>
 (iter (fun s => z9c k p0 p1 p2 v1 s.1 s.2) k (0, v1.2)).bind fun v3 =>
 some (v3.2, (rcap true v3.2))
def zik (r : (SL zF)) : D := (dl zN r.1 r.2)
def znb (k : Nat) (p0 : zt0) : Option (Nat → Bool) :=
 some p0
def zAh (r : zt0) : D := (.fn 145 [] [(.pin (aB 61 r))])
def zDg (k : Nat) (p0 : zi) (p1 p2 : Int) : Option Int :=
 some (w64 (p1 - p2))
def zyk (r : Int) : D := (di r)
def zBg (k : Nat) (p0 : zi) (p1 p2 : Int) : Option Int :=
 some (w64 (p1 + p2))
def zuk (r : Int) : D := (di r)
def zKc (k : Nat) (p0 : zi) (p1 : zt0) (p2 : Int) (p3 : zD) (v1 : zt0) (s1_2 s9_14 : Int) (s9_27 : zt0) (v1203 : Int) (v1207 : Bool) : Option (Bool × (Nat → Bool)) :=
 cond v1207 (
 cond (decide (0 ≤ v1203) && decide (v1203 < 61)) (
 some (true, (upd s9_27 v1203.toNat true))) none) (
 some (false, s9_27))
def zMc (k : Nat) (p0 : zi) (p1 : zt0) (p2 : Int) (p3 : zD) (v1 : zt0) (s1_2 s9_14 : Int) (s9_27 : zt0) (v1204 : Int) (v1208 : Bool) : Option (Bool × (Nat → Bool)) :=
 cond v1208 (
 cond (decide (0 ≤ v1204) && decide (v1204 < 61)) (
 some (true, (upd s9_27 v1204.toNat true))) none) (
 some (false, s9_27))
def zWb (k : Nat) (p0 : zi) (p1 : zt0) (p2 : Int) (p3 : zD) (v1 : zt0) (s1_2 s9_14 : Int) (s9_27 : zt0) : Option ((Int × (Nat → Bool)) ⊕ (Int × (Nat → Bool))) :=
 cond (decide (s9_14 ≤ p3.High)) (
 cond (p2 == 0) (
 (zDg k p0 s1_2 s9_14).bind fun v1203 =>
 (idx p0.ShelfBook.Shelves.1 p0.shelf).bind fun v1205 =>
 (zab k v1203 0 v1205.Room).bind fun v1207 =>
 (zKc k p0 p1 p2 p3 v1 s1_2 s9_14 s9_27 v1203 v1207).bind fun v1209 =>
 some (Sum.inl ((w64 (s9_14 + 1)), v1209.2))) (
 cond (p2 == 1) (
 (zBg k p0 s1_2 s9_14).bind fun v1204 =>
 (idx p0.ShelfBook.Shelves.1 p0.shelf).bind fun v1206 =>
 (zab k v1204 0 v1206.Room).bind fun v1208 =>
 (zMc k p0 p1 p2 p3 v1 s1_2 s9_14 s9_27 v1204 v1208).bind fun v1210 =>
 some (Sum.inl ((w64 (s9_14 + 1)), v1210.2))) (
 none))) (
 some (Sum.inr (s9_14, s9_27)))
def zte (k : Nat) (p0 : zi) (p1 : zt0) (p2 : Int) (p3 : zD) (v1 : zt0) (s1_2 : Int) (s1_15 : zt0) : Option (Nat → Bool) :=
 cond (v1 s1_2.toNat) (
 (iter (fun s => zWb k p0 p1 p2 p3 v1 s1_2 s.1 s.2) k (p3.Low, s1_15)).bind fun v902 =>
 some v902.2) (
 some s1_15)
def z4c (k : Nat) (p0 : zi) (p1 : zt0) (p2 : Int) (p3 : zD) (v1 : zt0) (s1_2 : Int) (s1_15 : zt0) : Option ((Int × (Nat → Bool)) ⊕ (Int × (Nat → Bool))) :=
 cond (decide (s1_2 < 61)) (
 cond (decide (0 ≤ s1_2) && decide (s1_2 < 61)) (
 (zte k p0 p1 p2 p3 v1 s1_2 s1_15).bind fun v803 =>
 some (Sum.inl ((w64 (s1_2 + 1)), v803))) none) (
 some (Sum.inr (s1_2, s1_15)))
def ztc (k : Nat) (p0 : zi) (p1 : zt0) (p2 : Int) (p3 : zD) : Option (Nat → Bool) :=
 (znb k p1).bind fun v1 =>
 (iter (fun s => z4c k p0 p1 p2 p3 v1 s.1 s.2) k (0, (fun _ => false))).bind fun v3 =>
 some v3.2
def zFj (r : zt0) : D := (.agg (aB 61 r))
def zHd (k : Nat) (p0 : zi) (p1 : zt0) (p2 s1_11 : Int) (s1_19 : zt0) (v602 : zR) : Option Bool :=
 cond (v602.Day != p2) (
 some true) (
 cond (v602.Shelf != p0.shelf) (
 some true) (
 cond (decide (s1_11 < 0)) (
 none) (
 some ((ztb (zY p0.left s1_11) 1) == 1))))
def zId (k : Nat) (p0 : zi) (p1 : zt0) (p2 s1_11 : Int) (v602 : zR) (s7_15 : Int) (s7_23 : zt0) : Option (Nat → Bool) :=
 cond (decide (0 ≤ s7_15) && decide (s7_15 < 61)) (
 cond (s7_23 s7_15.toNat) (
 (zab k s7_15 (w64 (v602.Read - v602.Err)) (w64 (v602.Read + v602.Err))).bind fun v1003 =>
 some (upd s7_23 s7_15.toNat v1003)) (
 some (upd s7_23 s7_15.toNat false))) none
def z1b (k : Nat) (p0 : zi) (p1 : zt0) (p2 s1_11 : Int) (v602 : zR) (s7_15 : Int) (s7_23 : zt0) : Option ((Int × (Nat → Bool)) ⊕ (Int × (Nat → Bool))) :=
 cond (decide (s7_15 < 61)) (
 (zId k p0 p1 p2 s1_11 v602 s7_15 s7_23).bind fun v902 =>
 some (Sum.inl ((w64 (s7_15 + 1)), v902))) (
 some (Sum.inr (s7_15, s7_23)))
def zuc (k : Nat) (p0 : zi) (p1 : zt0) (p2 s1_11 : Int) (s1_19 : zt0) : Option ((Int × (Nat → Bool)) ⊕ (Int × (Nat → Bool))) :=
 cond (decide (s1_11 < (p0.ShelfBook.Counts.1.length : Int))) (
 (idx p0.ShelfBook.Counts.1 s1_11).bind fun v602 =>
 (zHd k p0 p1 p2 s1_11 s1_19 v602).bind fun v604 =>
 cond v604 (
 some (Sum.inl ((w64 (s1_11 + 1)), s1_19))) (
 (iter (fun s => z1b k p0 p1 p2 s1_11 v602 s.1 s.2) k (0, s1_19)).bind fun v607 =>
 some (Sum.inl ((w64 (s1_11 + 1)), v607.2)))) (
 some (Sum.inr (s1_11, s1_19)))
def zCc (k : Nat) (p0 : zi) (p1 : zt0) (p2 : Int) : Option (Nat → Bool) :=
 (iter (fun s => zuc k p0 p1 p2 s.1 s.2) k (0, p1)).bind fun v1 =>
 some v1.2
def zSi (r : zt0) : D := (.agg (aB 61 r))
def zVh (k : Nat) (p0 p1 v1 : zt0) (s1_2 : Int) (s1_3 : zt0) : Option (Nat → Bool) :=
 cond (v1 s1_2.toNat) (
 cond (decide (0 ≤ s1_2) && decide (s1_2 < 61)) (
 some (upd s1_3 s1_2.toNat true)) none) (
 some s1_3)
def zmg (k : Nat) (p0 p1 v1 : zt0) (s1_2 : Int) (s1_3 : zt0) : Option ((Int × (Nat → Bool)) ⊕ (Int × (Nat → Bool))) :=
 cond (decide (s1_2 < 61)) (
 cond (decide (0 ≤ s1_2) && decide (s1_2 < 61)) (
 (zVh k p0 p1 v1 s1_2 s1_3).bind fun v303 =>
 some (Sum.inl ((w64 (s1_2 + 1)), v303))) none) (
 some (Sum.inr (s1_2, s1_3)))
def znh (k : Nat) (p0 p1 : zt0) : Option (Nat → Bool) :=
 (znb k p1).bind fun v1 =>
 (iter (fun s => zmg k p0 p1 v1 s.1 s.2) k (0, p0)).bind fun v3 =>
 some v3.2
def zQo (r : zt0) : D := (.agg (aB 61 r))
def zXd (k : Nat) (p0 : zi) (s1_9 s21_12 : Int) (s21_20 : zt1) (v3105 : zt6) (s31_10 : Int) (s31_18 : zt1) (s36_15 : Int) (v3802 : zQ) : Option Bool :=
 cond ((ztb (zY v3105.2.2.2.2.2.2.2.1 s36_15) 1) == 1) (
 cond (!((ztb (zY s31_10 s36_15) 1) == 1)) (
 some true) (
 cond ((ztb (zY s31_10 s36_15) 1) == 1) (
 cond (!((ztb (zY v3105.2.2.2.2.2.2.2.1 s36_15) 1) == 1)) (
 (zab k v3105.2.2.2.2.2.2.2.2 v3802.Days.Low v3802.Days.High).bind fun v3905 =>
 cond (!v3905) (
 some true) (
 some false)) (
 some false)) (
 some false))) (
 cond ((ztb (zY s31_10 s36_15) 1) == 1) (
 cond (!((ztb (zY v3105.2.2.2.2.2.2.2.1 s36_15) 1) == 1)) (
 (zab k v3105.2.2.2.2.2.2.2.2 v3802.Days.Low v3802.Days.High).bind fun v3904 =>
 cond (!v3904) (
 some true) (
 cond (!((ztb (zY s31_10 s36_15) 1) == 1)) (
 some (decide (v3105.2.2.2.2.2.2.2.2 ≥ v3802.Days.High))) (
 some false))) (
 cond (!((ztb (zY s31_10 s36_15) 1) == 1)) (
 some (decide (v3105.2.2.2.2.2.2.2.2 ≥ v3802.Days.High))) (
 some false))) (
 cond (!((ztb (zY s31_10 s36_15) 1) == 1)) (
 some (decide (v3105.2.2.2.2.2.2.2.2 ≥ v3802.Days.High))) (
 some false)))
def zcc (k : Nat) (p0 : zi) (s1_9 s21_12 : Int) (s21_20 : zt1) (v3105 : zt6) (s31_10 : Int) (s31_18 : zt1) (s36_15 : Int) : Option (Int ⊕ ((Int × Bool × Bool × Int × Int × Int × Int × Int) ⊕ ((Int × Bool × Bool × Int × Int × Int × Int × Int) ⊕ Int))) :=
 cond (decide (s36_15 < (v3105.2.2.2.1.1.length : Int))) (
 (idx v3105.2.2.2.1.1 s36_15).bind fun v3802 =>
 cond (decide (s36_15 < 0)) (
 none) (
 cond (v3802.Shelf != v3105.2.2.2.2.2.1) (
 cond ((ztb (zY s31_10 s36_15) 1) == 1) (
 some (Sum.inr (Sum.inl (s36_15, ((ztb (zY v3105.2.2.2.2.2.2.2.1 s36_15) 1) == 1), ((ztb (zY s31_10 s36_15) 1) == 1), v3802.Shelf, v3802.Days.Low, v3802.Days.High, v3802.By.Low, v3802.By.High)))) (
 some (Sum.inl (w64 (s36_15 + 1))))) (
 (zXd k p0 s1_9 s21_12 s21_20 v3105 s31_10 s31_18 s36_15 v3802).bind fun v3806 =>
 cond v3806 (
 some (Sum.inr (Sum.inr (Sum.inl (s36_15, ((ztb (zY v3105.2.2.2.2.2.2.2.1 s36_15) 1) == 1), ((ztb (zY s31_10 s36_15) 1) == 1), v3802.Shelf, v3802.Days.Low, v3802.Days.High, v3802.By.Low, v3802.By.High))))) (
 some (Sum.inl (w64 (s36_15 + 1))))))) (
 some (Sum.inr (Sum.inr (Sum.inr s36_15))))
def zac (k : Nat) (p0 : zi) (s1_9 s21_12 : Int) (s21_20 : zt1) (v3105 : zt6) (s31_10 : Int) (s31_18 : zt1) (v3606 : (SL zF)) (s39_28 : Int) (s39_29 : zt0) : Option ((Int × (Nat → Bool)) ⊕ (Int × (Nat → Bool))) :=
 cond (decide (s39_28 < (v3606.1.length : Int))) (
 (idx v3606.1 s39_28).bind fun v4002 =>
 (ztc k p0 s39_29 v4002.way v4002.by_).bind fun v4004 =>
 some (Sum.inl ((w64 (s39_28 + 1)), v4004))) (
 some (Sum.inr (s39_28, s39_29)))
def zbc (k : Nat) (p0 : zi) (s1_9 s21_12 : Int) (s21_20 : zt1) (v3105 : zt6) (s31_10 : Int) (s31_18 : zt1) : Option ((Int × (List (zt × (Nat → Bool)))) ⊕ (Int × (List (zt × (Nat → Bool))))) :=
 cond (decide (s31_10 < (zK 1 (v3105.2.2.2.1.1.length : Int)))) (
 (iter (fun s => zcc k p0 s1_9 s21_12 s21_20 v3105 s31_10 s31_18 s) k 0).bind fun v3602 =>
 Sum.elim (fun v3605 =>
 some (Sum.inl ((w64 (s31_10 + 1)), s31_18))) (fun w2_0 =>
 Sum.elim (fun v3605 =>
 some (Sum.inl ((w64 (s31_10 + 1)), s31_18))) (fun w2_1 =>
 (fun v3605 =>
 (zfd k p0 s1_9 (z6i s31_10 s21_12)).bind fun v3606 =>
 (iter (fun s => zac k p0 s1_9 s21_12 s21_20 v3105 s31_10 s31_18 v3606 s.1 s.2) k (0, ((z8 zB (⟨(w64 (s1_9 - 1)), s21_12⟩ : zt) s21_20).getD (fun _ => false)))).bind fun v3608 =>
 (zCc k p0 v3608.2 s1_9).bind fun v3610 =>
 (znh k ((z8 zB (⟨s1_9, s31_10⟩ : zt) s31_18).getD (fun _ => false)) v3610).bind fun v3612 =>
 some (Sum.inl ((w64 (s31_10 + 1)), (mset zB (⟨s1_9, s31_10⟩ : zt) v3612 s31_18)))) w2_1) w2_0) v3602) (
 some (Sum.inr (s31_10, s31_18)))
def z9b (k : Nat) (p0 : zi) (s1_9 s21_12 : Int) (s21_20 : zt1) : Option ((Int × (List (zt × (Nat → Bool)))) ⊕ (Int × (List (zt × (Nat → Bool))))) :=
 cond (decide (s21_12 < (zK 1 (p0.ShelfBook.Deliveries.1.length : Int)))) (
 (zHe k).bind fun v3102 =>
 cond (eqB ((z8 zB (⟨(w64 (s1_9 - 1)), s21_12⟩ : zt) s21_20).getD (fun _ => false)) v3102 0 61) (
 some (Sum.inl ((w64 (s21_12 + 1)), s21_20))) (
 (zGd k p0 s1_9 s21_12).bind fun v3105 =>
 cond (decide ((v3105.2.2.2.1.1.length : Int) < 0)) (
 none) (
 (iter (fun s => zbc k p0 s1_9 s21_12 s21_20 v3105 s.1 s.2) k (0, s21_20)).bind fun v3108 =>
 some (Sum.inl ((w64 (s21_12 + 1)), v3108.2))))) (
 some (Sum.inr (s21_12, s21_20)))
def z5c (k : Nat) (p0 : zi) (s1_9 : Int) (s1_17 : zt1) : Option ((Int × (List (zt × (Nat → Bool)))) ⊕ (Int × (List (zt × (Nat → Bool))))) :=
 cond (decide (s1_9 < p0.ShelfBook.Days)) (
 cond (decide ((p0.ShelfBook.Deliveries.1.length : Int) < 0)) (
 none) (
 (iter (fun s => z9b k p0 s1_9 s.1 s.2) k (0, s1_17)).bind fun v2103 =>
 some (Sum.inl ((w64 (s1_9 + 1)), v2103.2)))) (
 some (Sum.inr (s1_9, s1_17)))
def zhd (k : Nat) (p0 : zi) : Option (List (zt × (Nat → Bool))) :=
 (zje k p0).bind fun v1 =>
 (iter (fun s => z5c k p0 s.1 s.2) k (0, [((⟨(-1), 0⟩ : zt), v1)])).bind fun v3 =>
 some v3.2
def z2j (r : zt1) : D := (.mp (em (fun k => D.agg (zA k)) (fun v => D.agg ((aB 61) v)) r))
def zUd (k : Nat) (p0 : zi) (v1 : zt1) (s1_10 : Int) : Option (Int ⊕ (Int ⊕ Int)) :=
 cond (decide (s1_10 < (zK 1 (p0.ShelfBook.Deliveries.1.length : Int)))) (
 (zHe k).bind fun v202 =>
 cond (!(eqB ((z8 zB (⟨(w64 (p0.ShelfBook.Days - 1)), s1_10⟩ : zt) v1).getD (fun _ => false)) v202 0 61)) (
 some (Sum.inr (Sum.inl s1_10))) (
 some (Sum.inl (w64 (s1_10 + 1))))) (
 some (Sum.inr (Sum.inr s1_10)))
def zFf (k : Nat) (p0 : zi) : Option Bool :=
 (zhd k p0).bind fun v1 =>
 cond (decide ((p0.ShelfBook.Deliveries.1.length : Int) < 0)) (
 none) (
 (iter (fun s => zUd k p0 v1 s) k 0).bind fun v4 =>
 Sum.elim (fun v7 =>
 some true) (fun w3_0 =>
 (fun v7 =>
 some false) w3_0) v4)
def zXh (r : Bool) : D := (db r)
def zWe (k : Nat) (p0 : zd) (p1 s1_8 : Int) : Option (Int ⊕ (Int ⊕ Int)) :=
 cond (decide (s1_8 < (p0.Shelves.1.length : Int))) (
 (zFf k (⟨p0, s1_8, p1⟩ : zi)).bind fun v202 =>
 cond (!v202) (
 some (Sum.inr (Sum.inl s1_8))) (
 some (Sum.inl (w64 (s1_8 + 1))))) (
 some (Sum.inr (Sum.inr s1_8)))
def zBb (k : Nat) (p0 : zd) (p1 : Int) : Option Bool :=
 (iter (fun s => zWe k p0 p1 s) k 0).bind fun v1 =>
 Sum.elim (fun v4 =>
 some false) (fun w1_0 =>
 (fun v4 =>
 some true) w1_0) v1
def zbj (r : Bool) : D := (db r)
def ztg (k : Nat) (p0 : zd) (p1 : Bool) : Option Int :=
 (zaf k p0).bind fun v1 =>
 cond (v1 != 0) (
 some v1) (
 cond (!p1) (
 some 41) (
 (zBb k p0 0).bind fun v5 =>
 cond (!v5) (
 some 42) (
 some 0)))
def zog (r : Int) : D := (di r)
def zwc (k : Nat) (p0 : zi) (s1_9 : Int) (s1_17 : zt1) (v302 : zx) (s3_13 : Int) (s3_22 : zt0) : Option ((Int × (Nat → Bool)) ⊕ (Int × (Nat → Bool))) :=
 cond (decide (s3_13 < (w64 (v302.Room + 1)))) (
 cond (decide (0 ≤ s3_13) && decide (s3_13 < 61)) (
 some (Sum.inl ((w64 (s3_13 + 1)), (upd s3_22 s3_13.toNat true)))) none) (
 some (Sum.inr (s3_13, s3_22)))
def zyd (k : Nat) (p0 : zi) (s1_9 : Int) (s1_17 : zt1) : Option ((Int × (List (zt × (Nat → Bool)))) ⊕ (Int × (List (zt × (Nat → Bool))))) :=
 cond (decide (s1_9 < (zK 1 (p0.ShelfBook.Deliveries.1.length : Int)))) (
 (idx p0.ShelfBook.Shelves.1 p0.shelf).bind fun v302 =>
 (iter (fun s => zwc k p0 s1_9 s1_17 v302 s.1 s.2) k (0, (fun _ => false))).bind fun v304 =>
 some (Sum.inl ((w64 (s1_9 + 1)), (mset zB (⟨(w64 (p0.ShelfBook.Days - 1)), s1_9⟩ : zt) v304.2 s1_17)))) (
 some (Sum.inr (s1_9, s1_17)))
def zse (k : Nat) (p0 : zi) (v2 : zt7) (s4_19 s24_13 : Int) (v3402 : zt6) (s34_10 : Int) (s34_18 : zt1) (s39_15 : Int) (v4102 : zQ) : Option Bool :=
 cond ((ztb (zY v3402.2.2.2.2.2.2.2.1 s39_15) 1) == 1) (
 cond (!((ztb (zY s34_10 s39_15) 1) == 1)) (
 some true) (
 cond ((ztb (zY s34_10 s39_15) 1) == 1) (
 cond (!((ztb (zY v3402.2.2.2.2.2.2.2.1 s39_15) 1) == 1)) (
 (zab k v3402.2.2.2.2.2.2.2.2 v4102.Days.Low v4102.Days.High).bind fun v4205 =>
 cond (!v4205) (
 some true) (
 some false)) (
 some false)) (
 some false))) (
 cond ((ztb (zY s34_10 s39_15) 1) == 1) (
 cond (!((ztb (zY v3402.2.2.2.2.2.2.2.1 s39_15) 1) == 1)) (
 (zab k v3402.2.2.2.2.2.2.2.2 v4102.Days.Low v4102.Days.High).bind fun v4204 =>
 cond (!v4204) (
 some true) (
 cond (!((ztb (zY s34_10 s39_15) 1) == 1)) (
 some (decide (v3402.2.2.2.2.2.2.2.2 ≥ v4102.Days.High))) (
 some false))) (
 cond (!((ztb (zY s34_10 s39_15) 1) == 1)) (
 some (decide (v3402.2.2.2.2.2.2.2.2 ≥ v4102.Days.High))) (
 some false))) (
 cond (!((ztb (zY s34_10 s39_15) 1) == 1)) (
 some (decide (v3402.2.2.2.2.2.2.2.2 ≥ v4102.Days.High))) (
 some false)))
def znc (k : Nat) (p0 : zi) (v2 : zt7) (s4_19 s24_13 : Int) (v3402 : zt6) (s34_10 : Int) (s34_18 : zt1) (s39_15 : Int) : Option (Int ⊕ ((Int × Bool × Bool × Int × Int × Int × Int × Int) ⊕ ((Int × Bool × Bool × Int × Int × Int × Int × Int) ⊕ Int))) :=
 cond (decide (s39_15 < (v3402.2.2.2.1.1.length : Int))) (
 (idx v3402.2.2.2.1.1 s39_15).bind fun v4102 =>
 cond (decide (s39_15 < 0)) (
 none) (
 cond (v4102.Shelf != v3402.2.2.2.2.2.1) (
 cond ((ztb (zY s34_10 s39_15) 1) == 1) (
 some (Sum.inr (Sum.inl (s39_15, ((ztb (zY v3402.2.2.2.2.2.2.2.1 s39_15) 1) == 1), ((ztb (zY s34_10 s39_15) 1) == 1), v4102.Shelf, v4102.Days.Low, v4102.Days.High, v4102.By.Low, v4102.By.High)))) (
 some (Sum.inl (w64 (s39_15 + 1))))) (
 (zse k p0 v2 s4_19 s24_13 v3402 s34_10 s34_18 s39_15 v4102).bind fun v4106 =>
 cond v4106 (
 some (Sum.inr (Sum.inr (Sum.inl (s39_15, ((ztb (zY v3402.2.2.2.2.2.2.2.1 s39_15) 1) == 1), ((ztb (zY s34_10 s39_15) 1) == 1), v4102.Shelf, v4102.Days.Low, v4102.Days.High, v4102.By.Low, v4102.By.High))))) (
 some (Sum.inl (w64 (s39_15 + 1))))))) (
 some (Sum.inr (Sum.inr (Sum.inr s39_15))))
def zmc (k : Nat) (p0 : zi) (v2 : zt7) (s4_19 s24_13 : Int) (v3402 : zt6) (s34_10 : Int) (s34_18 : zt1) (v3908 : (SL zF)) (s42_28 : Int) (s42_29 : zt0) : Option ((Int × (Nat → Bool)) ⊕ (Int × (Nat → Bool))) :=
 cond (decide (s42_28 < (v3908.1.length : Int))) (
 (idx v3908.1 (w64 ((w64 ((v3908.1.length : Int) - 1)) - s42_28))).bind fun v4302 =>
 (ztc k p0 s42_29 (w64 (1 - v4302.way)) v4302.by_).bind fun v4304 =>
 some (Sum.inl ((w64 (s42_28 + 1)), v4304))) (
 some (Sum.inr (s42_28, s42_29)))
def zlc (k : Nat) (p0 : zi) (v2 : zt7) (s4_19 s24_13 : Int) (v3402 : zt6) (s34_10 : Int) (s34_18 : zt1) : Option ((Int × (List (zt × (Nat → Bool)))) ⊕ (Int × (List (zt × (Nat → Bool))))) :=
 cond (decide (s34_10 < (zK 1 (v3402.2.2.2.1.1.length : Int)))) (
 (iter (fun s => znc k p0 v2 s4_19 s24_13 v3402 s34_10 s34_18 s) k 0).bind fun v3902 =>
 Sum.elim (fun v3905 =>
 some (Sum.inl ((w64 (s34_10 + 1)), s34_18))) (fun w2_0 =>
 Sum.elim (fun v3905 =>
 some (Sum.inl ((w64 (s34_10 + 1)), s34_18))) (fun w2_1 =>
 (fun v3905 =>
 (zCc k p0 ((z8 zB (⟨s4_19, s34_10⟩ : zt) s34_18).getD (fun _ => false)) s4_19).bind fun v3906 =>
 (zfd k p0 s4_19 (z6i s34_10 s24_13)).bind fun v3908 =>
 (iter (fun s => zmc k p0 v2 s4_19 s24_13 v3402 s34_10 s34_18 v3908 s.1 s.2) k (0, v3906)).bind fun v3910 =>
 (znh k ((z8 zB (⟨(w64 (s4_19 - 1)), s24_13⟩ : zt) s34_18).getD (fun _ => false)) v3910.2).bind fun v3912 =>
 some (Sum.inl ((w64 (s34_10 + 1)), (mset zB (⟨(w64 (s4_19 - 1)), s24_13⟩ : zt) v3912 s34_18)))) w2_1) w2_0) v3902) (
 some (Sum.inr (s34_10, s34_18)))
def zkc (k : Nat) (p0 : zi) (v2 : zt7) (s4_19 s24_13 : Int) (s24_21 : zt1) : Option ((Int × (List (zt × (Nat → Bool)))) ⊕ (Int × (List (zt × (Nat → Bool))))) :=
 cond (decide (s24_13 < (zK 1 (p0.ShelfBook.Deliveries.1.length : Int)))) (
 (zGd k p0 s4_19 s24_13).bind fun v3402 =>
 cond (decide ((v3402.2.2.2.1.1.length : Int) < 0)) (
 none) (
 (iter (fun s => zlc k p0 v2 s4_19 s24_13 v3402 s.1 s.2) k (0, s24_21)).bind fun v3405 =>
 some (Sum.inl ((w64 (s24_13 + 1)), v3405.2)))) (
 some (Sum.inr (s24_13, s24_21)))
def zvd (k : Nat) (p0 : zi) (v2 : zt7) (s4_18 : zt1) (s4_19 : Int) : Option (((List (zt × (Nat → Bool))) × Int) ⊕ ((List (zt × (Nat → Bool))) × Int)) :=
 cond (decide (s4_19 > 0)) (
 cond (decide ((p0.ShelfBook.Deliveries.1.length : Int) < 0)) (
 none) (
 (iter (fun s => zkc k p0 v2 s4_19 s.1 s.2) k (0, s4_18)).bind fun v2403 =>
 some (Sum.inl (v2403.2, (w64 (s4_19 - 1)))))) (
 some (Sum.inr (s4_18, s4_19)))
def zSe (k : Nat) (p0 : zi) : Option (List (zt × (Nat → Bool))) :=
 cond (decide ((p0.ShelfBook.Deliveries.1.length : Int) < 0)) (
 none) (
 (iter (fun s => zyd k p0 s.1 s.2) k (0, [])).bind fun v2 =>
 (iter (fun s => zvd k p0 v2 s.1 s.2) k (v2.2, (w64 (p0.ShelfBook.Days - 1)))).bind fun v4 =>
 some v4.1)
def ztk (r : zt1) : D := (.mp (em (fun k => D.agg (zA k)) (fun v => D.agg ((aB 61) v)) r))
def zJd (k : Nat) (p0 : zi) (v1 v3 : zt1) (s1_10 s13_13 : Int) (v1902 : zt0) (s19_2 : Int) (s19_11 : zt0) : Option (Nat → Bool) :=
 cond (decide (0 ≤ s1_10) && decide (s1_10 < 12)) (
 cond (decide (0 ≤ s19_2) && decide (s19_2 < 61)) (
 cond (s19_11 ((s1_10.toNat * 61) + s19_2.toNat)) (
 some (upd s19_11 ((s1_10.toNat * 61) + s19_2.toNat) true)) (
 some (upd s19_11 ((s1_10.toNat * 61) + s19_2.toNat) (((z8 zB (⟨s1_10, s13_13⟩ : zt) v3).getD (fun _ => false)) s19_2.toNat)))) none) none
def zLd (k : Nat) (p0 : zi) (v1 v3 : zt1) (s1_10 s13_13 : Int) (v1902 : zt0) (s19_2 : Int) (s19_11 : zt0) : Option (Nat → Bool) :=
 cond (v1902 s19_2.toNat) (
 (zJd k p0 v1 v3 s1_10 s13_13 v1902 s19_2 s19_11).bind fun v2302 =>
 some v2302) (
 some s19_11)
def z2b (k : Nat) (p0 : zi) (v1 v3 : zt1) (s1_10 s13_13 : Int) (v1902 : zt0) (s19_2 : Int) (s19_11 : zt0) : Option ((Int × (Nat → Bool)) ⊕ (Int × (Nat → Bool))) :=
 cond (decide (s19_2 < 61)) (
 cond (decide (0 ≤ s19_2) && decide (s19_2 < 61)) (
 (zLd k p0 v1 v3 s1_10 s13_13 v1902 s19_2 s19_11).bind fun v2203 =>
 some (Sum.inl ((w64 (s19_2 + 1)), v2203))) none) (
 some (Sum.inr (s19_2, s19_11)))
def z4b (k : Nat) (p0 : zi) (v1 v3 : zt1) (s1_10 s13_13 : Int) (s13_22 : zt0) : Option ((Int × (Nat → Bool)) ⊕ (Int × (Nat → Bool))) :=
 cond (decide (s13_13 < (zK 1 (p0.ShelfBook.Deliveries.1.length : Int)))) (
 (znb k ((z8 zB (⟨s1_10, s13_13⟩ : zt) v1).getD (fun _ => false))).bind fun v1902 =>
 (iter (fun s => z2b k p0 v1 v3 s1_10 s13_13 v1902 s.1 s.2) k (0, s13_22)).bind fun v1904 =>
 some (Sum.inl ((w64 (s13_13 + 1)), v1904.2))) (
 some (Sum.inr (s13_13, s13_22)))
def zIc (k : Nat) (p0 : zi) (v1 v3 : zt1) (s1_10 : Int) (s1_19 : zt0) : Option ((Int × (Nat → Bool)) ⊕ (Int × (Nat → Bool))) :=
 cond (decide (s1_10 < p0.ShelfBook.Days)) (
 cond (decide ((p0.ShelfBook.Deliveries.1.length : Int) < 0)) (
 none) (
 (iter (fun s => z4b k p0 v1 v3 s1_10 s.1 s.2) k (0, s1_19)).bind fun v1303 =>
 some (Sum.inl ((w64 (s1_10 + 1)), v1303.2)))) (
 some (Sum.inr (s1_10, s1_19)))
def zQc (k : Nat) (p0 : zi) : Option (Nat → Bool) :=
 (zhd k p0).bind fun v1 =>
 (zSe k p0).bind fun v3 =>
 (iter (fun s => zIc k p0 v1 v3 s.1 s.2) k (0, (fun _ => false))).bind fun v5 =>
 some v5.2
def z1i (r : zt0) : D := (.agg (aB 732 r))
def zue (k : Nat) (p0 : zD) : Option Int :=
 some p0.Low
def zbi (r : Int) : D := (di r)
def zMb (k : Nat) (p1 : (SL Int)) (s1_0 s1_5 : Int) : Option ((Int × Int) ⊕ (Int × Int)) :=
 cond (decide (s1_5 < (p1.1.length : Int))) (
 (idx p1.1 s1_5).bind fun v202 =>
 some (Sum.inl ((if v202 > s1_0 then v202 else s1_0), (w64 (s1_5 + 1))))) (
 some (Sum.inr (s1_0, s1_5)))
def z6b (k : Nat) (p0 : Int) (p1 : (SL Int)) : Option Int :=
 (iter (fun s => zMb k p1 s.1 s.2) k (p0, 0)).bind fun v1 =>
 some v1.1
def zni (r : Int) : D := (di r)
def zpe (k : Nat) (p0 : zD) : Option Int :=
 some p0.High
def zii (r : Int) : D := (di r)
def zVd (k : Nat) (p0 v1 : zt0) (s1_2 s1_6 s1_7 : Int) : Option (Int × Int) :=
 cond (v1 s1_2.toNat) (
 (zue k (⟨s1_6, s1_7⟩ : zD)).bind fun v402 =>
 (z6b k (w64 (0 - v402)) ([(w64 (0 - s1_2))], .ex)).bind fun v404 =>
 (zpe k (⟨s1_6, s1_7⟩ : zD)).bind fun v406 =>
 (z6b k v406 ([s1_2], .ex)).bind fun v408 =>
 some ((w64 (0 - v404)), v408)) (
 some (s1_6, s1_7))
def zPc (k : Nat) (p0 v1 : zt0) (s1_2 s1_6 s1_7 : Int) : Option ((Int × Int × Int) ⊕ (Int × Int × Int)) :=
 cond (decide (s1_2 < 61)) (
 cond (decide (0 ≤ s1_2) && decide (s1_2 < 61)) (
 (zVd k p0 v1 s1_2 s1_6 s1_7).bind fun v303 =>
 some (Sum.inl ((w64 (s1_2 + 1)), v303.1, v303.2))) none) (
 some (Sum.inr (s1_2, s1_6, s1_7)))
def zVc (k : Nat) (p0 : zt0) : Option zD :=
 (znb k p0).bind fun v1 =>
 (iter (fun s => zPc k p0 v1 s.1 s.2.1 s.2.2) k (0, 60, 0)).bind fun v3 =>
 some (⟨v3.2.1, v3.2.2⟩ : zD)
def zWi (r : zD) : D := (.agg [(di r.Low), (di r.High)])
def zVf (k : Nat) (p0 : zd) (p1 p2 : Int) : Option (zD × Int) :=
 (zyf k p0 p1 p2).bind fun v1 =>
 (ztg k p0 v1).bind fun v3 =>
 cond (v3 != 0) (
 some ((⟨0, 0⟩ : zD), v3)) (
 (zQc k (⟨p0, p1, 0⟩ : zi)).bind fun v6 =>
 cond (decide (0 ≤ p2) && decide (p2 < 12)) (
 (zVc k (fun k => v6 (p2.toNat * 61 + k))).bind fun v9 =>
 some (v9, 0)) none)
def zfm (r : (zD × Int)) : D := (.tup [(.agg [(di r.1.Low), (di r.1.High)]), (di r.2)])
def zpg (k : Nat) (p0 : zd) (p1 p2 v3 : Int) (v6 : zt0) (s1_11 s1_12 : Int) : Option ((Int × Int) ⊕ (Int × Int)) :=
 cond (decide (s1_12 < p0.Days)) (
 cond (decide (0 ≤ s1_12) && decide (s1_12 < 12)) (
 (zVc k (fun k => v6 ((s1_12.toNat * 61) + k))).bind fun v203 =>
 (z6b k (w64 (0 - s1_11)) ([(w64 (0 - v203.Low))], .ex)).bind fun v205 =>
 some (Sum.inl ((w64 (0 - v205)), (w64 (s1_12 + 1))))) none) (
 some (Sum.inr (s1_11, s1_12)))
def zdh (k : Nat) (p0 : zd) (p1 p2 : Int) : Option (Int × Int) :=
 (zyf k p0 p1 p2).bind fun v1 =>
 (ztg k p0 v1).bind fun v3 =>
 cond (v3 != 0) (
 some (0, v3)) (
 (zQc k (⟨p0, p1, 0⟩ : zi)).bind fun v6 =>
 (iter (fun s => zpg k p0 p1 p2 v3 v6 s.1 s.2) k (60, p2)).bind fun v8 =>
 some (v8.1, 0))
def zll (r : (Int × Int)) : D := (.tup [(di r.1), (di r.2)])
def zy (r : ((SL Int) × Bool)) : D := (.tup [(dl eI r.1.1 r.1.2), (db r.2)])
def zBf (k : Nat) (p0 : zd) (r0 : (SL Int)) (r1 r2 : Int) (cb : Bool) (rc : zt2) : Option (Int × Bool) :=
 cond cb (
 (idx r0.1 (w64 ((r0.1.length : Int) - 1))).bind fun v402 =>
 some ((w64 (v402 + 1)), true)) (
 some (0, false))
def zCf (k : Nat) (p0 : zd) (r0 : (SL Int)) (r1 r2 : Int) (v302 : zt4) (rc : zt2) (s4_8 : Int) : Option (Int ⊕ (((SL Int) × Int × Bool) ⊕ Int)) :=
 cond (decide (s4_8 < (p0.Counts.1.length : Int))) (
 cond (decide ((ccap r0.2) = Cap.ro)) (
 none) (
 cond (decide (r0.1.length + 1 ≤ LIM)) (
 cond (decide (s4_8 < 0)) (
 none) (
 (rc ((r0.1 ++ [s4_8]), .ro) (or64 r1 (zK 1 s4_8)) r2).bind fun v505 =>
 cond v505.2 (
 some (Sum.inr (Sum.inl (v505.1, s4_8, v505.2)))) (
 some (Sum.inl (w64 (s4_8 + 1)))))) none)) (
 some (Sum.inr (Sum.inr s4_8)))
def zlb (k : Nat) (p0 : zd) (rc : zt2) (r0 : (SL Int)) (r1 r2 : Int) : Option ((SL Int) × Bool) :=
 cond ((r0.1.length : Int) == r2) (
 (zBb k p0 r1).bind fun v302 =>
 some (r0, v302)) (
 (zBf k p0 r0 r1 r2 (decide ((r0.1.length : Int) > 0)) rc).bind fun v302 =>
 (iter (fun s => zCf k p0 r0 r1 r2 v302 rc s) k v302.1).bind fun v304 =>
 Sum.elim (fun v307 =>
 some (v307.1, true)) (fun w3_0 =>
 (fun v307 =>
 some (([], Cap.nil), false)) w3_0) v304)
def z7i (k : Nat) (p0 : zd) (r0 : (SL Int)) (r1 r2 : Int) (cb : Bool) (rc : zt2) : Option (Int × Bool) :=
 cond cb (
 (idx r0.1 (w64 ((r0.1.length : Int) - 1))).bind fun v602 =>
 some ((w64 (v602 + 1)), true)) (
 some (0, false))
def zlj (k : Nat) (p0 : zd) (r0 : (SL Int)) (r1 r2 : Int) (v502 : zt4) (rc : zt2) (s6_8 : Int) : Option (Int ⊕ (((SL Int) × Int × Bool) ⊕ Int)) :=
 cond (decide (s6_8 < (p0.Counts.1.length : Int))) (
 cond (decide ((ccap r0.2) = Cap.ro)) (
 none) (
 cond (decide (r0.1.length + 1 ≤ LIM)) (
 cond (decide (s6_8 < 0)) (
 none) (
 (rc ((r0.1 ++ [s6_8]), .ro) (or64 r1 (zK 1 s6_8)) r2).bind fun v705 =>
 cond v705.2 (
 some (Sum.inr (Sum.inl (v705.1, s6_8, v705.2)))) (
 some (Sum.inl (w64 (s6_8 + 1)))))) none)) (
 some (Sum.inr (Sum.inr s6_8)))
def zuf (k : Nat) (p0 : zd) (rc : zt2) (r0 : (SL Int)) (r1 r2 : Int) : Option ((SL Int) × Bool) :=
 cond ((r0.1.length : Int) == r2) (
 (zBb k p0 r1).bind fun v502 =>
 some (r0, v502)) (
 (z7i k p0 r0 r1 r2 (decide ((r0.1.length : Int) > 0)) rc).bind fun v502 =>
 (iter (fun s => zlj k p0 r0 r1 r2 v502 rc s) k v502.1).bind fun v504 =>
 Sum.elim (fun v507 =>
 some (v507.1, true)) (fun w3_0 =>
 (fun v507 =>
 some (([], Cap.nil), false)) w3_0) v504)
def zcj (k : Nat) (p0 : zd) (r0 : (SL Int)) (r1 r2 : Int) (cb : Bool) (rc : zt2) : Option (Int × Bool) :=
 cond cb (
 (idx r0.1 (w64 ((r0.1.length : Int) - 1))).bind fun v802 =>
 some ((w64 (v802 + 1)), true)) (
 some (0, false))
def zgj (k : Nat) (p0 : zd) (r0 : (SL Int)) (r1 r2 : Int) (v702 : zt4) (rc : zt2) (s8_8 : Int) : Option (Int ⊕ (((SL Int) × Int × Bool) ⊕ Int)) :=
 cond (decide (s8_8 < (p0.Counts.1.length : Int))) (
 cond (decide ((ccap r0.2) = Cap.ro)) (
 none) (
 cond (decide (r0.1.length + 1 ≤ LIM)) (
 cond (decide (s8_8 < 0)) (
 none) (
 (rc ((r0.1 ++ [s8_8]), .ro) (or64 r1 (zK 1 s8_8)) r2).bind fun v905 =>
 cond v905.2 (
 some (Sum.inr (Sum.inl (v905.1, s8_8, v905.2)))) (
 some (Sum.inl (w64 (s8_8 + 1)))))) none)) (
 some (Sum.inr (Sum.inr s8_8)))
def zpf (k : Nat) (p0 : zd) (rc : zt2) (r0 : (SL Int)) (r1 r2 : Int) : Option ((SL Int) × Bool) :=
 cond ((r0.1.length : Int) == r2) (
 (zBb k p0 r1).bind fun v702 =>
 some (r0, v702)) (
 (zcj k p0 r0 r1 r2 (decide ((r0.1.length : Int) > 0)) rc).bind fun v702 =>
 (iter (fun s => zgj k p0 r0 r1 r2 v702 rc s) k v702.1).bind fun v704 =>
 Sum.elim (fun v707 =>
 some (v707.1, true)) (fun w3_0 =>
 (fun v707 =>
 some (([], Cap.nil), false)) w3_0) v704)
def zmj (k : Nat) (p0 : zd) (r0 : (SL Int)) (r1 r2 : Int) (cb : Bool) (rc : zt2) : Option (Int × Bool) :=
 cond cb (
 (idx r0.1 (w64 ((r0.1.length : Int) - 1))).bind fun v1002 =>
 some ((w64 (v1002 + 1)), true)) (
 some (0, false))
def zEi (k : Nat) (p0 : zd) (r0 : (SL Int)) (r1 r2 : Int) (v902 : zt4) (rc : zt2) (s10_8 : Int) : Option (Int ⊕ (((SL Int) × Int × Bool) ⊕ Int)) :=
 cond (decide (s10_8 < (p0.Counts.1.length : Int))) (
 cond (decide ((ccap r0.2) = Cap.ro)) (
 none) (
 cond (decide (r0.1.length + 1 ≤ LIM)) (
 cond (decide (s10_8 < 0)) (
 none) (
 (rc ((r0.1 ++ [s10_8]), .ro) (or64 r1 (zK 1 s10_8)) r2).bind fun v1105 =>
 cond v1105.2 (
 some (Sum.inr (Sum.inl (v1105.1, s10_8, v1105.2)))) (
 some (Sum.inl (w64 (s10_8 + 1)))))) none)) (
 some (Sum.inr (Sum.inr s10_8)))
def zrf (k : Nat) (p0 : zd) (rc : zt2) (r0 : (SL Int)) (r1 r2 : Int) : Option ((SL Int) × Bool) :=
 cond ((r0.1.length : Int) == r2) (
 (zBb k p0 r1).bind fun v902 =>
 some (r0, v902)) (
 (zmj k p0 r0 r1 r2 (decide ((r0.1.length : Int) > 0)) rc).bind fun v902 =>
 (iter (fun s => zEi k p0 r0 r1 r2 v902 rc s) k v902.1).bind fun v904 =>
 Sum.elim (fun v907 =>
 some (v907.1, true)) (fun w3_0 =>
 (fun v907 =>
 some (([], Cap.nil), false)) w3_0) v904)
def zCi (k : Nat) (p0 : zd) (r0 : (SL Int)) (r1 r2 : Int) (cb : Bool) (rc : zt2) : Option (Int × Bool) :=
 cond cb (
 (idx r0.1 (w64 ((r0.1.length : Int) - 1))).bind fun v1202 =>
 some ((w64 (v1202 + 1)), true)) (
 some (0, false))
def zAi (k : Nat) (p0 : zd) (r0 : (SL Int)) (r1 r2 : Int) (v1102 : zt4) (rc : zt2) (s12_8 : Int) : Option (Int ⊕ (((SL Int) × Int × Bool) ⊕ Int)) :=
 cond (decide (s12_8 < (p0.Counts.1.length : Int))) (
 cond (decide ((ccap r0.2) = Cap.ro)) (
 none) (
 cond (decide (r0.1.length + 1 ≤ LIM)) (
 cond (decide (s12_8 < 0)) (
 none) (
 (rc ((r0.1 ++ [s12_8]), .ro) (or64 r1 (zK 1 s12_8)) r2).bind fun v1305 =>
 cond v1305.2 (
 some (Sum.inr (Sum.inl (v1305.1, s12_8, v1305.2)))) (
 some (Sum.inl (w64 (s12_8 + 1)))))) none)) (
 some (Sum.inr (Sum.inr s12_8)))
def znf (k : Nat) (p0 : zd) (rc : zt2) (r0 : (SL Int)) (r1 r2 : Int) : Option ((SL Int) × Bool) :=
 cond ((r0.1.length : Int) == r2) (
 (zBb k p0 r1).bind fun v1102 =>
 some (r0, v1102)) (
 (zCi k p0 r0 r1 r2 (decide ((r0.1.length : Int) > 0)) rc).bind fun v1102 =>
 (iter (fun s => zAi k p0 r0 r1 r2 v1102 rc s) k v1102.1).bind fun v1104 =>
 Sum.elim (fun v1107 =>
 some (v1107.1, true)) (fun w3_0 =>
 (fun v1107 =>
 some (([], Cap.nil), false)) w3_0) v1104)
def zui (k : Nat) (p0 : zd) (r0 : (SL Int)) (r1 r2 : Int) (cb : Bool) (rc : zt2) : Option (Int × Bool) :=
 cond cb (
 (idx r0.1 (w64 ((r0.1.length : Int) - 1))).bind fun v1402 =>
 some ((w64 (v1402 + 1)), true)) (
 some (0, false))
def zHi (k : Nat) (p0 : zd) (r0 : (SL Int)) (r1 r2 : Int) (v1302 : zt4) (rc : zt2) (s14_8 : Int) : Option (Int ⊕ (((SL Int) × Int × Bool) ⊕ Int)) :=
 cond (decide (s14_8 < (p0.Counts.1.length : Int))) (
 cond (decide ((ccap r0.2) = Cap.ro)) (
 none) (
 cond (decide (r0.1.length + 1 ≤ LIM)) (
 cond (decide (s14_8 < 0)) (
 none) (
 (rc ((r0.1 ++ [s14_8]), .ro) (or64 r1 (zK 1 s14_8)) r2).bind fun v1505 =>
 cond v1505.2 (
 some (Sum.inr (Sum.inl (v1505.1, s14_8, v1505.2)))) (
 some (Sum.inl (w64 (s14_8 + 1)))))) none)) (
 some (Sum.inr (Sum.inr s14_8)))
def zjf (k : Nat) (p0 : zd) (rc : zt2) (r0 : (SL Int)) (r1 r2 : Int) : Option ((SL Int) × Bool) :=
 cond ((r0.1.length : Int) == r2) (
 (zBb k p0 r1).bind fun v1302 =>
 some (r0, v1302)) (
 (zui k p0 r0 r1 r2 (decide ((r0.1.length : Int) > 0)) rc).bind fun v1302 =>
 (iter (fun s => zHi k p0 r0 r1 r2 v1302 rc s) k v1302.1).bind fun v1304 =>
 Sum.elim (fun v1307 =>
 some (v1307.1, true)) (fun w3_0 =>
 (fun v1307 =>
 some (([], Cap.nil), false)) w3_0) v1304)
def zDi (k : Nat) (p0 : zd) (r0 : (SL Int)) (r1 r2 : Int) (cb : Bool) (rc : zt2) : Option (Int × Bool) :=
 cond cb (
 (idx r0.1 (w64 ((r0.1.length : Int) - 1))).bind fun v1602 =>
 some ((w64 (v1602 + 1)), true)) (
 some (0, false))
def zTi (k : Nat) (p0 : zd) (r0 : (SL Int)) (r1 r2 : Int) (v1502 : zt4) (rc : zt2) (s16_8 : Int) : Option (Int ⊕ (((SL Int) × Int × Bool) ⊕ Int)) :=
 cond (decide (s16_8 < (p0.Counts.1.length : Int))) (
 cond (decide ((ccap r0.2) = Cap.ro)) (
 none) (
 cond (decide (r0.1.length + 1 ≤ LIM)) (
 cond (decide (s16_8 < 0)) (
 none) (
 (rc ((r0.1 ++ [s16_8]), .ro) (or64 r1 (zK 1 s16_8)) r2).bind fun v1705 =>
 cond v1705.2 (
 some (Sum.inr (Sum.inl (v1705.1, s16_8, v1705.2)))) (
 some (Sum.inl (w64 (s16_8 + 1)))))) none)) (
 some (Sum.inr (Sum.inr s16_8)))
def zof (k : Nat) (p0 : zd) (rc : zt2) (r0 : (SL Int)) (r1 r2 : Int) : Option ((SL Int) × Bool) :=
 cond ((r0.1.length : Int) == r2) (
 (zBb k p0 r1).bind fun v1502 =>
 some (r0, v1502)) (
 (zDi k p0 r0 r1 r2 (decide ((r0.1.length : Int) > 0)) rc).bind fun v1502 =>
 (iter (fun s => zTi k p0 r0 r1 r2 v1502 rc s) k v1502.1).bind fun v1504 =>
 Sum.elim (fun v1507 =>
 some (v1507.1, true)) (fun w3_0 =>
 (fun v1507 =>
 some (([], Cap.nil), false)) w3_0) v1504)
def zMi (k : Nat) (p0 : zd) (r0 : (SL Int)) (r1 r2 : Int) (cb : Bool) (rc : zt2) : Option (Int × Bool) :=
 cond cb (
 (idx r0.1 (w64 ((r0.1.length : Int) - 1))).bind fun v1802 =>
 some ((w64 (v1802 + 1)), true)) (
 some (0, false))
def zIi (k : Nat) (p0 : zd) (r0 : (SL Int)) (r1 r2 : Int) (v1702 : zt4) (rc : zt2) (s18_8 : Int) : Option (Int ⊕ (((SL Int) × Int × Bool) ⊕ Int)) :=
 cond (decide (s18_8 < (p0.Counts.1.length : Int))) (
 cond (decide ((ccap r0.2) = Cap.ro)) (
 none) (
 cond (decide (r0.1.length + 1 ≤ LIM)) (
 cond (decide (s18_8 < 0)) (
 none) (
 (rc ((r0.1 ++ [s18_8]), .ro) (or64 r1 (zK 1 s18_8)) r2).bind fun v1905 =>
 cond v1905.2 (
 some (Sum.inr (Sum.inl (v1905.1, s18_8, v1905.2)))) (
 some (Sum.inl (w64 (s18_8 + 1)))))) none)) (
 some (Sum.inr (Sum.inr s18_8)))
def zsf (k : Nat) (p0 : zd) (rc : zt2) (r0 : (SL Int)) (r1 r2 : Int) : Option ((SL Int) × Bool) :=
 cond ((r0.1.length : Int) == r2) (
 (zBb k p0 r1).bind fun v1702 =>
 some (r0, v1702)) (
 (zMi k p0 r0 r1 r2 (decide ((r0.1.length : Int) > 0)) rc).bind fun v1702 =>
 (iter (fun s => zIi k p0 r0 r1 r2 v1702 rc s) k v1702.1).bind fun v1704 =>
 Sum.elim (fun v1707 =>
 some (v1707.1, true)) (fun w3_0 =>
 (fun v1707 =>
 some (([], Cap.nil), false)) w3_0) v1704)
def zOi (k : Nat) (p0 : zd) (r0 : (SL Int)) (r1 r2 : Int) (cb : Bool) (rc : zt2) : Option (Int × Bool) :=
 cond cb (
 (idx r0.1 (w64 ((r0.1.length : Int) - 1))).bind fun v2002 =>
 some ((w64 (v2002 + 1)), true)) (
 some (0, false))
def zRi (k : Nat) (p0 : zd) (r0 : (SL Int)) (r1 r2 : Int) (v1902 : zt4) (rc : zt2) (s20_8 : Int) : Option (Int ⊕ (((SL Int) × Int × Bool) ⊕ Int)) :=
 cond (decide (s20_8 < (p0.Counts.1.length : Int))) (
 cond (decide ((ccap r0.2) = Cap.ro)) (
 none) (
 cond (decide (r0.1.length + 1 ≤ LIM)) (
 cond (decide (s20_8 < 0)) (
 none) (
 (rc ((r0.1 ++ [s20_8]), .ro) (or64 r1 (zK 1 s20_8)) r2).bind fun v2105 =>
 cond v2105.2 (
 some (Sum.inr (Sum.inl (v2105.1, s20_8, v2105.2)))) (
 some (Sum.inl (w64 (s20_8 + 1)))))) none)) (
 some (Sum.inr (Sum.inr s20_8)))
def zkf (k : Nat) (p0 : zd) (rc : zt2) (r0 : (SL Int)) (r1 r2 : Int) : Option ((SL Int) × Bool) :=
 cond ((r0.1.length : Int) == r2) (
 (zBb k p0 r1).bind fun v1902 =>
 some (r0, v1902)) (
 (zOi k p0 r0 r1 r2 (decide ((r0.1.length : Int) > 0)) rc).bind fun v1902 =>
 (iter (fun s => zRi k p0 r0 r1 r2 v1902 rc s) k v1902.1).bind fun v1904 =>
 Sum.elim (fun v1907 =>
 some (v1907.1, true)) (fun w3_0 =>
 (fun v1907 =>
 some (([], Cap.nil), false)) w3_0) v1904)
def zvf (k : Nat) (p0 : zd) (n : Nat) (r0 : (SL Int)) (r1 r2 : Int) : Option ((SL Int) × Bool) := (zlb k p0 (zuf k p0 (zpf k p0 (zrf k p0 (znf k p0 (zjf k p0 (zof k p0 (zsf k p0 (zkf k p0 (fun _r0 _r1 _r2 => none)))))))))) r0 r1 r2
def zOf (k : Nat) (p0 : zd) (v1 s1_10 : Int) : Option (Int ⊕ (((SL Int) × Int × (SL Int) × Bool) ⊕ Int)) :=
 cond (decide (s1_10 < (w64 ((p0.Counts.1.length : Int) + 1)))) (
 (zvf k p0 9 ([], Cap.nil) 0 s1_10).bind fun v2102 =>
 cond v2102.2 (
 some (Sum.inr (Sum.inl ((v2102.1.1, (ccap v2102.1.2)), s1_10, v2102.1, v2102.2)))) (
 some (Sum.inl (w64 (s1_10 + 1))))) (
 some (Sum.inr (Sum.inr s1_10)))
def zug (k : Nat) (p0 : zd) : Option ((SL Int) × Int) :=
 (zaf k p0).bind fun v1 =>
 cond (v1 != 0) (
 some (([], Cap.nil), v1)) (
 (iter (fun s => zOf k p0 v1 s) k 0).bind fun v4 =>
 Sum.elim (fun v7 =>
 some (v7.1, 0)) (fun w3_0 =>
 (fun v7 =>
 some (([], Cap.nil), 4)) w3_0) v4)
def zPh (r : ((SL Int) × Int)) : D := (.tup [(dl eI r.1.1 r.1.2), (di r.2)])
def zJc (k : Nat) (p0 : zh) (p1 : zt5) (p2 : Int) : Option Bool :=
 (zYf k p0).bind fun v201 =>
 cond (v201 != 0) (
 some true) (
 (zVb k (p0.Slips.1.length : Int) 1 9).bind fun v204 =>
 cond (!v204) (
 some true) (
 some (decide ((p0.Far.1.length : Int) > 12))))
def z0b (k : Nat) (p0 : zh) (p1 : zt5) (p2 s2_11 : Int) (s2_19 : zt12) (s2_24 : (List Int)) (v3202 : zt9) (v3204 : zt3) : Option Bool :=
 cond (v3202.2 != 0) (
 some true) (
 cond (v3204.2 != 0) (
 some true) (
 some (!v3204.1)))
def zEc (k : Nat) (p0 : zh) (p1 : zt5) (p2 s2_11 : Int) (v3202 : zt9) (v3204 : zt3) (s33_18 s39_20 : Int) (s39_28 : zt12) (s39_33 : (List Int)) (v4206 : zj) : Option Bool :=
 (zVb k v4206.Shelf 0 (w64 ((p0.Far.1.length : Int) - 1))).bind fun v4301 =>
 cond (!v4301) (
 some true) (
 (zVb k v4206.Many 1 20).bind fun v4304 =>
 some (!v4304))
def zYb (k : Nat) (p0 : zh) (p1 : zt5) (p2 s2_11 : Int) (v3202 : zt9) (v3204 : zt3) (s33_18 s39_20 : Int) (s39_28 : zt12) (s39_33 : (List Int)) (v4206 : zj) (cb : Bool) : Option (Bool × (List zw) × (List Int)) :=
 cond cb (
 (zsc k v4206.Many v4206.Many).bind fun v4402 =>
 cond (decide (s39_28.length + 1 ≤ LIMW)) (
 (idx s39_33 v4206.Shelf).bind fun v4405 =>
 (idx s39_33 v4206.Shelf).bind fun v4407 =>
 some (true, (s39_28 ++ [(⟨s2_11, v4206.Shelf, false, v4402⟩ : zw)]), (s39_33.set v4206.Shelf.toNat (w64 (v4405 + v4206.Many))))) none) (
 some (false, s39_28, s39_33))
def zIb (k : Nat) (p0 : zh) (p1 : zt5) (p2 s2_11 : Int) (v3202 : zt9) (v3204 : zt3) (s33_18 s39_20 : Int) (s39_28 : zt12) (s39_33 : (List Int)) : Option ((Int × (List zw) × (List Int)) ⊕ ((Int × (List zw) × (List Int) × Int × Int) ⊕ (Int × (List zw) × (List Int)))) :=
 (idx v3202.1.1 s33_18).bind fun v4201 =>
 cond (decide (s39_20 < (v4201.1.length : Int))) (
 (idx v3202.1.1 s33_18).bind fun v4204 =>
 (idx v4204.1 s39_20).bind fun v4206 =>
 (zEc k p0 p1 p2 s2_11 v3202 v3204 s33_18 s39_20 s39_28 s39_33 v4206).bind fun v4208 =>
 cond v4208 (
 some (Sum.inr (Sum.inl (s39_20, s39_28, s39_33, v4206.Shelf, v4206.Many)))) (
 (zYb k p0 p1 p2 s2_11 v3202 v3204 s33_18 s39_20 s39_28 s39_33 v4206 (decide (v4206.Shelf < (if (4 : Int) < (p0.Far.1.length : Int) then 4 else (p0.Far.1.length : Int))))).bind fun v4211 =>
 some (Sum.inl ((w64 (s39_20 + 1)), v4211.2.1, v4211.2.2)))) (
 some (Sum.inr (Sum.inr (s39_20, s39_28, s39_33))))
def zJb (k : Nat) (p0 : zh) (p1 : zt5) (p2 s2_11 : Int) (v3202 : zt9) (v3204 : zt3) (s33_18 : Int) (s33_26 : zt12) (s33_31 : (List Int)) : Option ((Int × (List zw) × (List Int)) ⊕ ((Int × Int × (List zw) × (List Int) × Int × Int) ⊕ (Int × (List zw) × (List Int)))) :=
 cond (decide (s33_18 < (v3202.1.1.length : Int))) (
 (iter (fun s => zIb k p0 p1 p2 s2_11 v3202 v3204 s33_18 s.1 s.2.1 s.2.2) k (0, s33_26, s33_31)).bind fun v3902 =>
 Sum.elim (fun v3905 =>
 some (Sum.inr (Sum.inl (s33_18, v3905.1, v3905.2.1, v3905.2.2.1, v3905.2.2.2.1, v3905.2.2.2.2)))) (fun w2_0 =>
 (fun v3905 =>
 some (Sum.inl ((w64 (s33_18 + 1)), v3905.2.1, v3905.2.2))) w2_0) v3902) (
 some (Sum.inr (Sum.inr (s33_18, s33_26, s33_31))))
def zNb (k : Nat) (p0 : zh) (p1 : zt5) (p2 s2_11 : Int) (s2_19 : zt12) (s2_24 : (List Int)) : Option ((Int × (List zw) × (List Int)) ⊕ ((Int × (SL (SL zj)) × Int × Bool × Int × (List zw) × (List Int)) ⊕ ((Int × (SL (SL zj)) × Int × Bool × Int × Int × Int × (List zw) × (List Int) × Int × Int) ⊕ (Int × (List zw) × (List Int))))) :=
 cond (decide (s2_11 < (p0.Slips.1.length : Int))) (
 (zGi k p0 s2_11).bind fun v3202 =>
 (zVg k p0 s2_11 v3202.1).bind fun v3204 =>
 (z0b k p0 p1 p2 s2_11 s2_19 s2_24 v3202 v3204).bind fun v3206 =>
 cond v3206 (
 some (Sum.inr (Sum.inl (s2_11, v3202.1, v3202.2, v3204.1, v3204.2, s2_19, s2_24)))) (
 (iter (fun s => zJb k p0 p1 p2 s2_11 v3202 v3204 s.1 s.2.1 s.2.2) k (0, s2_19, s2_24)).bind fun v3209 =>
 Sum.elim (fun v3212 =>
 some (Sum.inr (Sum.inr (Sum.inl (s2_11, v3202.1, v3202.2, v3204.1, v3204.2, v3212.1, v3212.2.1, v3212.2.2.1, v3212.2.2.2.1, v3212.2.2.2.2.1, v3212.2.2.2.2.2))))) (fun w6_0 =>
 (fun v3212 =>
 some (Sum.inl ((w64 (s2_11 + 1)), v3212.2.1, v3212.2.2))) w6_0) v3209)) (
 some (Sum.inr (Sum.inr (Sum.inr (s2_11, s2_19, s2_24)))))
def zKb (k : Nat) (p0 : zh) (p1 : zt5) (p2 : Int) (v8 : zt11) (s44_13 : Int) (s44_21 : (List zx)) : Option ((Int × (List zx)) ⊕ ((Int × Int × (List zx)) ⊕ (Int × (List zx)))) :=
 cond (decide (s44_13 < (if (4 : Int) < (p0.Far.1.length : Int) then 4 else (p0.Far.1.length : Int)))) (
 (idx v8.2.2 s44_13).bind fun v4502 =>
 cond (decide (0 ≤ s44_13) && decide (s44_13 < 4)) (
 (zvb k (p1 s44_13.toNat) 5).bind fun v4505 =>
 cond (decide ((w64 (v4502 + v4505)) > 60)) (
 some (Sum.inr (Sum.inl (s44_13, (w64 (v4502 + v4505)), s44_21)))) (
 (zsc k (w64 (v4502 + v4505)) (w64 (v4502 + v4505))).bind fun v4508 =>
 cond (decide (s44_21.length + 1 ≤ LIM)) (
 some (Sum.inl ((w64 (s44_13 + 1)), (s44_21 ++ [(⟨v4508, 60⟩ : zx)])))) none)) none) (
 some (Sum.inr (Sum.inr (s44_13, s44_21))))
def zZb (k : Nat) (p0 : zh) (p1 : zt5) (p2 : Int) (v8 : zt11) (v12 : zt17) (s45_16 : Int) (v4702 : (zD × Int)) (v4704 : (Int × Int)) (v4707 : Int) : Option Bool :=
 cond (v4702.2 != 0) (
 some true) (
 cond (v4704.2 != 0) (
 some true) (
 (zsc k v4707 v4707).bind fun v4803 =>
 cond (!((v4702.1.Low == v4803.Low) && ((v4702.1.High == v4803.High) && true))) (
 some true) (
 some (v4704.1 != v4707))))
def zGb (k : Nat) (p0 : zh) (p1 : zt5) (p2 : Int) (v8 : zt11) (v12 : zt17) (s45_16 : Int) (s45_25 s45_27 : Bool) : Option ((Int × Bool × Bool) ⊕ ((Int × Int × Int × Int × Int × Int × Int) ⊕ (Int × Bool × Bool))) :=
 cond (decide (s45_16 < (if (4 : Int) < (p0.Far.1.length : Int) then 4 else (p0.Far.1.length : Int)))) (
 (zVf k (⟨(p0.Slips.1.length : Int), (v12.2, (rcap true v12.2)), (v8.2.1, (rcap true v8.2.1)), ([], Cap.nil), ([], Cap.nil)⟩ : zd) s45_16 (w64 ((p0.Slips.1.length : Int) - 1))).bind fun v4702 =>
 (zdh k (⟨(p0.Slips.1.length : Int), (v12.2, (rcap true v12.2)), (v8.2.1, (rcap true v8.2.1)), ([], Cap.nil), ([], Cap.nil)⟩ : zd) s45_16 0).bind fun v4704 =>
 cond (decide (0 ≤ s45_16) && decide (s45_16 < 4)) (
 (zvb k (p1 s45_16.toNat) 5).bind fun v4707 =>
 (zZb k p0 p1 p2 v8 v12 s45_16 v4702 v4704 v4707).bind fun v4709 =>
 cond v4709 (
 some (Sum.inr (Sum.inl (s45_16, v4702.2, v4704.1, v4704.2, v4707, v4702.1.Low, v4702.1.High)))) (
 some (Sum.inl ((w64 (s45_16 + 1)), false, false)))) none) (
 some (Sum.inr (Sum.inr (s45_16, s45_25, s45_27))))
def z3b (k : Nat) (p0 : zh) (p1 : zt5) (p2 : Int) : Option Bool :=
 (zJc k p0 p1 p2).bind fun v1 =>
 cond v1 (
 some true) (
 cond (decide (0 ≤ (if (4 : Int) < (p0.Far.1.length : Int) then 4 else (p0.Far.1.length : Int))) && decide ((if (4 : Int) < (p0.Far.1.length : Int) then 4 else (p0.Far.1.length : Int)) ≤ (LIM : Int))) (
 (iter (fun s => zNb k p0 p1 p2 s.1 s.2.1 s.2.2) k (0, ([] : List zw), (List.replicate (if (4 : Int) < (p0.Far.1.length : Int) then 4 else (p0.Far.1.length : Int)).toNat 0 : List Int))).bind fun v5 =>
 Sum.elim (fun v8 =>
 some false) (fun w4_0 =>
 Sum.elim (fun v8 =>
 some false) (fun w4_1 =>
 (fun v8 =>
 (iter (fun s => zKb k p0 p1 p2 v8 s.1 s.2) k (0, ([] : List zx))).bind fun v9 =>
 Sum.elim (fun v12 =>
 some true) (fun w6_0 =>
 (fun v12 =>
 cond (decide ((v8.2.1.length : Int) > 10)) (
 some true) (
 (iter (fun s => zGb k p0 p1 p2 v8 v12 s.1 s.2.1 s.2.2) k (0, true, true)).bind fun v14 =>
 Sum.elim (fun v17 =>
 some false) (fun w9_0 =>
 (fun v17 =>
 (zvb k p2 (if (4 : Int) < (p0.Far.1.length : Int) then 4 else (p0.Far.1.length : Int))).bind fun v18 =>
 (idx v8.2.2 v18).bind fun v20 =>
 cond (v20 == 0) (
 some true) (
 cond (decide (v12.2.length ≤ LIM)) (
 (idx v8.2.2 v18).bind fun v24 =>
 (idx v8.2.2 v18).bind fun v26 =>
 (zsc k (w64 (v24 - 1)) (w64 (v26 - 1))).bind fun v28 =>
 (idx v12.2 v18).bind fun v30 =>
 (zVf k (⟨(p0.Slips.1.length : Int), ((v12.2.set v18.toNat (⟨v28, v30.Room⟩ : zx)), (rcap false (v12.2.set v18.toNat (⟨v28, v30.Room⟩ : zx)))), (v8.2.1, (rcap true v8.2.1)), ([], Cap.nil), ([], Cap.nil)⟩ : zd) v18 0).bind fun v32 =>
 (zug k (⟨(p0.Slips.1.length : Int), ((v12.2.set v18.toNat (⟨v28, v30.Room⟩ : zx)), (rcap false (v12.2.set v18.toNat (⟨v28, v30.Room⟩ : zx)))), (v8.2.1, (rcap true v8.2.1)), ([], Cap.nil), ([], Cap.nil)⟩ : zd)).bind fun v34 =>
 cond (v32.2 == 42) (
 cond (v34.2 == 4) (
 some true) (
 some false)) (
 some false)) none)) w9_0) v14)) w6_0) v9) w4_1) w4_0) v5) none)
def zdb (r : Bool) : D := (db r)
end Go.AM
