/- The statement TopPicked holds for every input that its row lets in. Conditions: none. -/
import Derived.OrdersIn
import Derived.RangeFuncIn
import Derived.Test.YtlliglddpleenabGreatDoorA
set_option linter.all false
set_option linter.unusedSimpArgs false
set_option linter.unusedVariables false
namespace Go.AM
open Go Go.RowKit
section
variable {E : Env} {m : Imm} {n0 : Nat} {w0 : Base} {R : RM} {L : LM} {fs : FS} {lp : List LRec} {w : World}
theorem zUn {l : Leaf} {d : D} (h : isK l d = true) {v : Value} (hv : DR m d v) (n : Nat) : Instr.sameBits n v v = true := by
 have hb : ∀ b : ByteArray, (b == b) = true := fun b => (MapKept.bytes_beq b b).2 rfl
 cases l <;> cases d <;> simp [isK] at h <;> cases hv <;> simp [Instr.sameBits, hb]
theorem zko {T : TypeId} {k : D} (h : zne E.P T k = true) {v : Value} (hv : DR m k v) : Instr.sameBits 10000 v v = true := by
 obtain ⟨l, hl, h | h⟩ := zIn h
 ·obtain ⟨cs, rfl, h1, h2, h3⟩ := h
  cases hv with
  | agg hn hs hx =>
   rename_i arr
   rw [List.all_eq_true] at h3
   show (arr.size == arr.size && (arr.toList.zip arr.toList).all fun (x, y) => Instr.sameBits 9999 x y) = true
   simp only [beq_self_eq_true, Bool.true_and, List.all_eq_true]
   intro p hp
   obtain ⟨j, hj⟩ := List.mem_iff_getElem?.1 hp
   rw [List.getElem?_zip_eq_some] at hj
   obtain ⟨j1, j2⟩ := hj
   have e : p.1 = p.2 := by rw [j1] at j2; simpa using j2
   rw [Array.getElem?_toList] at j1
   have hlt := (Array.getElem?_eq_some_iff.1 j1).1
   have hc := List.getElem?_eq_getElem (l := cs) (i := j) (by omega)
   have := hx j _ hc
   rw [Array.getD_eq_getD_getElem?, j1, Option.getD_some] at this
   rw [← e]
   exact zUn (h3 _ (List.getElem_mem _)) this 9999
 ·exact zUn h.2 hv 10000
theorem zwt {T : TypeId} {k d : D} (h : zne E.P T k = true) (he : eqD k d = some true) {v u : Value} (hv : DR m k v) (hu : DR m d u) : v = u := by
 obtain ⟨l, hl, h | h⟩ := zIn h
 ·obtain ⟨cs, rfl, h1, h2, h3⟩ := h
  cases d with
  | agg ys =>
   simp only [eqD] at he
   cases hv with
   | agg hn hs hx =>
    cases hu with
    | agg hn' hs' hx' => rw [PW.same ⟨hn, hx⟩ ⟨hn', hx'⟩ h3 he]
  | _ => simp [eqD] at he
 ·exact zpu h.2 he hv hu
theorem zrs {ents : Array MapEntry} (h : ∀ j, j < ents.size → (ents.getD j default).born = j) {e : MapEntry} (he : e.born = ents.size) : ∀ j, j < (ents.push e).size → ((ents.push e).getD j default).born = j := by
 intro j hj
 rw [Array.size_push] at hj
 rw [Array.getD_eq_getD_getElem?, Array.getElem?_push]
 by_cases e1 : j = ents.size
 ·rw [if_pos e1, Option.getD_some, he, e1]
 ·rw [if_neg e1, ← Array.getD_eq_getD_getElem?]
  exact h j (by omega)
theorem z6l {ents : Array MapEntry} (h : ∀ j, j < ents.size → (ents.getD j default).born = j) {i : Nat} {f : MapEntry → MapEntry} (hf : ∀ e, (f e).born = e.born) : ∀ j, j < (ents.modify i f).size → ((ents.modify i f).getD j default).born = j := by
 intro j hj
 rw [Array.size_modify] at hj
 have := h j hj
 rw [Array.getD_eq_getD_getElem?, Array.getElem?_eq_getElem hj, Option.getD_some] at this
 rw [Array.getD_eq_getD_getElem?, Array.getElem?_modify, Array.getElem?_eq_getElem hj]
 by_cases e1 : i = j
 ·rw [if_pos e1, Option.map_some, Option.getD_some, hf, this]
 ·rw [if_neg e1, Option.getD_some, this]
theorem zNw (H : WR E m n0 w0 R L fs lp w) {t : Option Nat} {tm : TM} {T : TypeId} {p k x : X} {pv kv v : Value} (hp : XR m R (L.below lp fs.lo.length) p pv) (hk : XR m R (L.below lp fs.lo.length) k kv) (hx : XR m R (L.below lp fs.lo.length) x v) {fs' : FS} (h : mupX E.P fs T p k x = some fs') :
  ∃ w', (Instr.mapUpdate T pv kv v).run E.P w = .ok () w' ∧ SC E n0 w0 L t tm m R fs lp w m R fs' lp w' := by
 unfold mupX at h
 split at h
 ·rename_i q l s kd vd hq
  split at h
  ·rename_i hko
   split at h
   ·rename_i es hes
    obtain ⟨es', hset, rfl⟩ := Option.map_eq_some_iff.1 h
    have hmt : E.P.underlying T = some (.map q.1 q.2) := by
     unfold mpT at hq
     split at hq
     ·rename_i a b hu; simp at hq; subst hq; exact hu
     ·simp at hq
    cases hp with
    | @map _ _ r hb =>
    cases hk with
    | d hk =>
    cases hx with
    | d hx =>
    obtain ⟨ob, o1, o2⟩ := H.obj l s _ hb
    rw [hes] at o1
    simp only [Option.some.injEq] at o1
    subst o1
    obtain ⟨ents, c, a1, a2, a3, a4, a5, a6, a7⟩ := o2
    obtain ⟨i, i1, i2, i3⟩ := zTt hset
    have hE : Ents m es ents.toList := .of a2 a3 a4
    obtain ⟨rv, r1, r2, r3⟩ := zhs hko hk w hE i1
    have ck := zih hko hk false w
    have hg : (getObj r).run E.P w = .ok (.map ents c) w := by simp [getObj, Sem.run, a1]
    have hlt := (Array.getElem?_eq_some_iff.1 a1).1
    have fin : ∀ (ents' : Array MapEntry) (c' : Nat), ents'.size = es'.length → (∀ (j : Nat) p, es'[j]? = some p → DR m p.1 (ents'.getD j default).key) → (∀ (j : Nat) p, es'[j]? = some p → DR m p.2 (ents'.getD j default).val) → c' = ents'.size → (∀ j, j < ents'.size → (ents'.getD j default).born = j) →
      SC E n0 w0 L t tm m R fs lp w m R (fs.set l s (.map es')) lp (w.putObj r (.map ents' c')) := by
     intro ents' c' e1 e2 e3 e4 e5
     have honly : Only (some r) w (w.putObj r (.map ents' c')) := ⟨rfl, rfl, rfl, by simp, fun k _ hk => World.putObj_heap_other fun e => hk (by rw [e])⟩
     have key := H.change (ro' := .map r) (o' := .map es') (m' := m) (w' := w.putObj r (.map ents' c')) hb (RO.le.refl _) (Imm.le.refl m) (fun _ _ _ h => .inl h) rfl
      (by simpa [RO.block] using honly) (fun b o v e hv => by
       simp [RO.block] at e; subst e
       have := H.imm _ _ _ hv
       simp [World.cell?, a1] at this) (fun b e => .inl e)
      ⟨ents', c', World.putObj_heap_same hlt, e1, e2, e3, a5, e4, e5⟩
     rw [RM.put_same hb] at key
     refine .grow (Imm.le.refl m) (RLe.refl R) key.1 (FS.lo_set ..) (honly.dkeep fun k e d => ?_)
     simp only [Option.some.injEq] at e
     subst e
     rw [a1]; simp
    cases i with
    | none =>
     have hes' := i2 rfl
     subst hes'
     obtain rfl := r2 rfl
     refine ⟨_, ?_, fin (ents.push { key := kv, val := v, born := c }) (c + 1) (by simp [a2]) (fun j p hj => ?_) (fun j p hj => ?_) (by simp [a6]) (zrs a7 (by rw [a6]))⟩
     ·simp only [Instr.mapUpdate, Sem.run_bind, run_underlying hmt, Result.andThen_ok, hg, ck, r1]
      simp [setObj, Sem.run, a1, World.putObj]
     all_goals
      rw [List.getElem?_append] at hj
      split at hj
      ·rename_i hlt'
       have : j < ents.size := by omega
       rw [Array.getD_eq_getD_getElem?, Array.getElem?_push, if_neg (by omega)]
       first | (have := a3 j p hj; rwa [Array.getD_eq_getD_getElem?] at this) | (have := a4 j p hj; rwa [Array.getD_eq_getD_getElem?] at this)
      ·rename_i hge
       have : j = ents.size := by
        have := zS hj
        simp at this; omega
       subst this
       rw [a2] at hj
       simp only [Nat.sub_self, List.getElem?_cons_zero, Option.some.injEq] at hj
       subst hj
       rw [Array.getD_eq_getD_getElem?, Array.getElem?_push, if_pos rfl]
       first | exact hk | exact hx
    | some i =>
     obtain ⟨pe, p1, p2, rfl⟩ := i3 i rfl
     obtain ⟨e, e1, rfl⟩ := r3 i rfl
     have hek : kv = e.key := zwt hko p2 hk (hE.key i pe e p1 e1)
     have hei : ents[i]? = some e := by rw [← Array.getElem?_toList]; exact e1
     have hsb := zko hko hk
     have hil := (Array.getElem?_eq_some_iff.1 hei).1
     refine ⟨_, ?_, fin (ents.modify i fun e => { e with key := kv, val := v }) c (by simp [a2]) (fun j p hj => ?_) (fun j p hj => ?_) (by simp [a6]) (z6l a7 fun _ => rfl)⟩
     ·simp only [Instr.mapUpdate, Sem.run_bind, run_underlying hmt, Result.andThen_ok, hg, ck, r1]
      have : (Instr.keyThatStays (((ents[i]?).map (·.key)).getD kv) kv).run E.P w = .ok kv w := by
       rw [hei]
       simp only [Option.map_some, Option.getD_some, ← hek]
       simp [Instr.keyThatStays, hsb]
      simp only [this, Result.andThen_ok]
      simp [setObj, Sem.run, a1, World.putObj]
     all_goals
      rw [List.getElem?_set] at hj
      rw [Array.getD_eq_getD_getElem?, Array.getElem?_modify]
      split at hj
      ·rename_i hij
       subst hij
       rw [if_pos (zS p1)] at hj
       simp only [Option.some.injEq] at hj
       subst hj
       rw [if_pos rfl, hei]
       simp only [Option.map_some, Option.getD_some]
       first | exact hx | (rw [hek]; exact hE.key i pe e p1 e1)
      ·rename_i hij
       rw [if_neg (fun h => hij h)]
       first | (have := a3 j p hj; rwa [Array.getD_eq_getD_getElem?] at this) | (have := a4 j p hj; rwa [Array.getD_eq_getD_getElem?] at this)
   ·simp at h
  ·simp at h
 ·simp at h
theorem z6t {k z : D} : ∀ {es es' : List (D × D)} {v : D} {n : Nat}, entD k z es = some (es', v, n) → ∃ i, idxD k es = some i ∧ (i = none → es' = es ++ [(k, z)] ∧ v = z ∧ n = es.length) ∧ ∀ j, i = some j → ∃ p, es[j]? = some p ∧ eqD k p.1 = some true ∧ es' = es ∧ v = p.2 ∧ n = j
 | [], es', v, n, h => by
  simp only [entD, Option.some.injEq, Prod.mk.injEq] at h
  obtain ⟨rfl, rfl, rfl⟩ := h
  exact ⟨none, rfl, fun _ => ⟨rfl, rfl, rfl⟩, fun j e => by simp at e⟩
 | p :: t, es', v, n, h => by
  simp only [entD] at h
  simp only [idxD]
  cases e : eqD k p.1 with
  | none => rw [e] at h; simp at h
  | some b =>
   rw [e] at h
   cases b with
   | true =>
    simp only [Option.some.injEq, Prod.mk.injEq] at h
    obtain ⟨rfl, rfl, rfl⟩ := h
    exact ⟨some 0, rfl, fun e => by simp at e, fun j e' => by simp at e'; subst e'; exact ⟨p, rfl, e, rfl, rfl, rfl⟩⟩
   | false =>
    simp only at h
    obtain ⟨⟨r1, r2, r3⟩, h0, h1⟩ := Option.map_eq_some_iff.1 h
    simp only [Prod.mk.injEq] at h1
    obtain ⟨rfl, rfl, rfl⟩ := h1
    obtain ⟨i, g1, g2, g3⟩ := z6t h0
    refine ⟨i.map (· + 1), by simp only; rw [g1]; rfl, fun e => ?_, fun j e => ?_⟩
    ·obtain ⟨q1, q2, q3⟩ := g2 (by simpa using e)
     subst q1; subst q2; subst q3
     exact ⟨rfl, rfl, rfl⟩
    ·obtain ⟨j', e1, rfl⟩ := Option.map_eq_some_iff.1 e
     obtain ⟨p', q1, q2, q3, q4, q5⟩ := g3 j' e1
     subst q3; subst q5
     exact ⟨p', by simpa using q1, q2, rfl, q4, rfl⟩
theorem z6p (H : WR E m n0 w0 R L fs lp w) {t : Option Nat} {tm : TM} {l s r : Nat} {es es' : List (D × D)} {ents ents' : Array MapEntry} {c c' : Nat} (hb : R l s = some (.map r)) (hes : fs.get l s = some (.map es)) (a1 : w.heap[r]? = some (.map ents c)) (a5 : m.map r = none)
  (e1 : ents'.size = es'.length) (e2 : ∀ (j : Nat) p, es'[j]? = some p → DR m p.1 (ents'.getD j default).key) (e3 : ∀ (j : Nat) p, es'[j]? = some p → DR m p.2 (ents'.getD j default).val) (e4 : c' = ents'.size) (e5 : ∀ j, j < ents'.size → (ents'.getD j default).born = j) :
  SC E n0 w0 L t tm m R fs lp w m R (fs.set l s (.map es')) lp (w.putObj r (.map ents' c')) := by
 have hlt := (Array.getElem?_eq_some_iff.1 a1).1
 have honly : Only (some r) w (w.putObj r (.map ents' c')) := ⟨rfl, rfl, rfl, by simp, fun k _ hk => World.putObj_heap_other fun e => hk (by rw [e])⟩
 have key := H.change (ro' := .map r) (o' := .map es') (m' := m) (w' := w.putObj r (.map ents' c')) hb (RO.le.refl _) (Imm.le.refl m) (fun _ _ _ h => .inl h) rfl
  (by simpa [RO.block] using honly) (fun b o v e hv => by
   simp [RO.block] at e; subst e
   have := H.imm _ _ _ hv
   simp [World.cell?, a1] at this) (fun b e => .inl e)
  ⟨ents', c', World.putObj_heap_same hlt, e1, e2, e3, a5, e4, e5⟩
 rw [RM.put_same hb] at key
 refine .grow (Imm.le.refl m) (RLe.refl R) key.1 (FS.lo_set ..) (honly.dkeep fun k e d => ?_)
 simp only [Option.some.injEq] at e
 subst e
 rw [a1]; simp
theorem zov (H : WR E m n0 w0 R L fs lp w) {t : Option Nat} {tm : TM} {T : TypeId} {p k x : X} {pv kv : Value} (hp : XR m R (L.below lp fs.lo.length) p pv) (hk : XR m R (L.below lp fs.lo.length) k kv) {fs' : FS} (h : zoh E.P fs T p k = some (x, fs')) :
  ∃ u w', (Instr.mapEntry T pv kv).run E.P w = .ok u w' ∧ SC E n0 w0 L t tm m R fs lp w m R fs' lp w' ∧ ∀ L', XR m R L' x u := by
 unfold zoh at h
 split at h
 ·rename_i q l s kd hq
  split at h
  ·rename_i hko
   split at h
   ·rename_i z es hz hes
    obtain ⟨⟨es', vd, n⟩, hset, he⟩ := Option.map_eq_some_iff.1 h
    simp only [Prod.mk.injEq] at he
    obtain ⟨rfl, rfl⟩ := he
    have hmt : E.P.underlying T = some (.map q.1 q.2) := by
     unfold mpT at hq
     split at hq
     ·rename_i a b hu; simp at hq; subst hq; exact hu
     ·simp at hq
    cases hp with
    | @map _ _ r hb =>
    cases hk with
    | d hk =>
    obtain ⟨ob, o1, o2⟩ := H.obj l s _ hb
    rw [hes] at o1
    simp only [Option.some.injEq] at o1
    subst o1
    obtain ⟨ents, c, a1, a2, a3, a4, a5, a6, a7⟩ := o2
    obtain ⟨i, i1, i2, i3⟩ := z6t hset
    have hE : Ents m es ents.toList := .of a2 a3 a4
    obtain ⟨rv, r1, r2, r3⟩ := zhs hko hk w hE i1
    have ck := zih hko hk false w
    have hg : (getObj r).run E.P w = .ok (.map ents c) w := by simp [getObj, Sem.run, a1]
    obtain ⟨zv, z1, z2⟩ := zuv hz
    cases i with
    | none =>
     obtain ⟨rfl, rfl, rfl⟩ := i2 rfl
     obtain rfl := r2 rfl
     refine ⟨.tuple #[zv, goInt c], _, ?_, z6p H (ents' := ents.push { key := kv, val := zv, born := c }) (c' := c + 1) hb hes a1 a5 (by simp [a2]) (fun j p hj => ?_) (fun j p hj => ?_) (by simp [a6]) (zrs a7 (by rw [a6])), fun L' => .d (.tup (by simp) (fun j d hd => ?_))⟩
     ·simp only [Instr.mapEntry, Sem.run_bind, run_underlying hmt, Result.andThen_ok, hg, ck, r1, z1]
      simp [setObj, Sem.run, a1, World.putObj]
     ·rw [List.getElem?_append] at hj
      split at hj
      ·rename_i hlt'
       have : j < ents.size := by omega
       rw [Array.getD_eq_getD_getElem?, Array.getElem?_push, if_neg (by omega)]
       have := a3 j p hj; rwa [Array.getD_eq_getD_getElem?] at this
      ·rename_i hge
       have : j = ents.size := by
        have := zS hj
        simp at this; omega
       subst this
       rw [a2] at hj
       simp only [Nat.sub_self, List.getElem?_cons_zero, Option.some.injEq] at hj
       subst hj
       rw [Array.getD_eq_getD_getElem?, Array.getElem?_push, if_pos rfl]
       exact hk
     ·rw [List.getElem?_append] at hj
      split at hj
      ·rename_i hlt'
       have : j < ents.size := by omega
       rw [Array.getD_eq_getD_getElem?, Array.getElem?_push, if_neg (by omega)]
       have := a4 j p hj; rwa [Array.getD_eq_getD_getElem?] at this
      ·rename_i hge
       have : j = ents.size := by
        have := zS hj
        simp at this; omega
       subst this
       rw [a2] at hj
       simp only [Nat.sub_self, List.getElem?_cons_zero, Option.some.injEq] at hj
       subst hj
       rw [Array.getD_eq_getD_getElem?, Array.getElem?_push, if_pos rfl]
       exact z2 m
     ·match j, hd with
      | 0, hd => simp only [List.getElem?_cons_zero, Option.some.injEq] at hd; subst hd; exact z2 m
      | 1, hd =>
       simp only [List.getElem?_cons_succ, List.getElem?_cons_zero, Option.some.injEq] at hd
       subst hd
       rw [a6, a2]
       exact .i _ _
    | some i =>
     obtain ⟨pe, p1, p2, q1, q2, q3⟩ := i3 i rfl
     subst q1; subst q2; subst q3
     obtain ⟨e, e1, rfl⟩ := r3 n rfl
     have hek : kv = e.key := zwt hko p2 hk (hE.key n pe e p1 e1)
     have hei : ents[n]? = some e := by rw [← Array.getElem?_toList]; exact e1
     have hsb := zko hko hk
     have hil := (Array.getElem?_eq_some_iff.1 hei).1
     have hgd : ents.getD n default = e := by rw [Array.getD_eq_getD_getElem?, hei]; rfl
     have hbn := a7 n hil
     rw [hgd] at hbn
     refine ⟨.tuple #[e.val, goInt e.born], _, ?_, z6p H (ents' := ents.modify n fun e => { e with key := kv }) (c' := c) hb hes a1 a5 (by simp [a2]) (fun j p hj => ?_) (fun j p hj => ?_) (by simp [a6]) (z6l a7 fun _ => rfl), fun L' => .d (.tup (by simp) (fun j d hd => ?_))⟩
     ·simp only [Instr.mapEntry, Sem.run_bind, run_underlying hmt, Result.andThen_ok, hg, ck, r1]
      have : (Instr.keyThatStays (((ents[n]?).map (·.key)).getD kv) kv).run E.P w = .ok kv w := by
       rw [hei]
       simp only [Option.map_some, Option.getD_some, ← hek]
       simp [Instr.keyThatStays, hsb]
      simp only [this, Result.andThen_ok]
      simp [setObj, Sem.run, a1, World.putObj, hei]
     ·rw [Array.getD_eq_getD_getElem?, Array.getElem?_modify]
      split
      ·rename_i hij
       subst hij
       rw [hei]
       simp only [Option.map_some, Option.getD_some]
       have := a3 n p hj
       rw [hgd, ← hek] at this
       exact this
      ·have := a3 j p hj; rwa [Array.getD_eq_getD_getElem?] at this
     ·rw [Array.getD_eq_getD_getElem?, Array.getElem?_modify]
      split
      ·rename_i hij
       subst hij
       rw [hei]
       simp only [Option.map_some, Option.getD_some]
       have := a4 n p hj
       rw [hgd] at this
       exact this
      ·have := a4 j p hj; rwa [Array.getD_eq_getD_getElem?] at this
     ·match j, hd with
      | 0, hd =>
       simp only [List.getElem?_cons_zero, Option.some.injEq] at hd
       subst hd
       exact hE.val n pe e p1 e1
      | 1, hd =>
       simp only [List.getElem?_cons_succ, List.getElem?_cons_zero, Option.some.injEq] at hd
       subst hd
       rw [hbn]
       exact .i _ _
   ·simp at h
  ·simp at h
 ·simp at h
theorem zFz (H : WR E m n0 w0 R L fs lp w) {t : Option Nat} {tm : TM} {T : TypeId} {p k x : X} {pv kv xv : Value} (hp : XR m R (L.below lp fs.lo.length) p pv) (hk : XR m R (L.below lp fs.lo.length) k kv) (hx : XR m R (L.below lp fs.lo.length) x xv) {fs' : FS} (h : estX fs p k x = some fs') :
  ∃ w', (Instr.entryStore T pv kv xv).run E.P w = .ok () w' ∧ SC E n0 w0 L t tm m R fs lp w m R fs' lp w' := by
 unfold estX at h
 split at h
 ·rename_i l s n vd
  split at h
  ·rename_i es hes
   split at h
   ·rename_i hn
    obtain ⟨pe, hpe, rfl⟩ := Option.map_eq_some_iff.1 h
    cases hp with
    | @map _ _ r hb =>
    cases hk with
    | d hk =>
    cases hk with
    | i =>
    cases hx with
    | d hx =>
    obtain ⟨ob, o1, o2⟩ := H.obj l s _ hb
    rw [hes] at o1
    simp only [Option.some.injEq] at o1
    subst o1
    obtain ⟨ents, c, a1, a2, a3, a4, a5, a6, a7⟩ := o2
    have hg : (getObj r).run E.P w = .ok (.map ents c) w := by simp [getObj, Sem.run, a1]
    have hil : n.toNat < ents.size := by rw [a2]; exact zS hpe
    have hfi : ents.findIdx? (fun e => (e.born : Int) == n) = some n.toNat := by
     rw [Array.findIdx?_eq_some_iff_getElem]
     refine ⟨hil, ?_, fun j hj => ?_⟩
     ·have := a7 n.toNat hil
      rw [Array.getD_eq_getD_getElem?, Array.getElem?_eq_getElem hil, Option.getD_some] at this
      rw [beq_iff_eq, this]; omega
     ·have := a7 j (by omega)
      rw [Array.getD_eq_getD_getElem?, Array.getElem?_eq_getElem (by omega), Option.getD_some] at this
      simp only [Bool.not_eq_true, beq_eq_false_iff_ne, ne_eq, this]
      omega
    refine ⟨_, ?_, z6p H (ents' := ents.modify n.toNat fun e => { e with val := xv }) (c' := c) hb hes a1 a5 (by simp [a2]) (fun j p hj => ?_) (fun j p hj => ?_) (by simp [a6]) (z6l a7 fun _ => rfl)⟩
    ·simp only [Instr.entryStore, Sem.run_bind, Result.andThen_ok, hg]
     simp [asInt, asIntOf, hfi, setObj, Sem.run, a1, World.putObj]
    ·rw [List.getElem?_set] at hj
     rw [Array.getD_eq_getD_getElem?, Array.getElem?_modify]
     split at hj
     ·rename_i hij
      subst hij
      rw [if_pos (zS hpe)] at hj
      simp only [Option.some.injEq] at hj
      subst hj
      rw [if_pos rfl, Array.getElem?_eq_getElem hil]
      simp only [Option.map_some, Option.getD_some]
      have := a3 n.toNat pe hpe
      rwa [Array.getD_eq_getD_getElem?, Array.getElem?_eq_getElem hil, Option.getD_some] at this
     ·rename_i hij
      rw [if_neg (fun h => hij h)]
      have := a3 j p hj; rwa [Array.getD_eq_getD_getElem?] at this
    ·rw [List.getElem?_set] at hj
     rw [Array.getD_eq_getD_getElem?, Array.getElem?_modify]
     split at hj
     ·rename_i hij
      subst hij
      rw [if_pos (zS hpe)] at hj
      simp only [Option.some.injEq] at hj
      subst hj
      rw [if_pos rfl, Array.getElem?_eq_getElem hil]
      simp only [Option.map_some, Option.getD_some]
      exact hx
     ·rename_i hij
      rw [if_neg (fun h => hij h)]
      have := a4 j p hj; rwa [Array.getD_eq_getD_getElem?] at this
   ·simp at h
  ·simp at h
 ·simp at h
theorem zuA {x : X} {l s n : Nat} {v : Value} (h : XR m R L (.row l s n) v) : ∃ z a k cap, R l s = some (.hdr z a k cap) := by
 cases h with | row h => exact ⟨_, _, _, _, h⟩
theorem zbs (H : WR E m n0 w0 R L fs lp w) {t : Option Nat} {tm : TM} {x : X} {v : Value} (hx : XR m R (L.below lp fs.lo.length) x v) : ∃ m', SC E n0 w0 L t tm m R fs lp w m' R (lend fs x) lp w := by
 have none_ : ∃ m', SC E n0 w0 L t tm m R fs lp w m' R fs lp w := ⟨m, .grow (Imm.le.refl m) (RLe.refl R) H rfl (.refl w)⟩
 cases x with
 | row l s n =>
  simp only [lend]
  split
  ·rename_i z es hes
   obtain ⟨z', a, k, cap, hr⟩ := zuA (x := .un) hx
   obtain ⟨o, o1, o2⟩ := H.obj l s _ hr
   rw [hes] at o1
   simp only [Option.some.injEq] at o1
   subst o1
   obtain ⟨rfl, q2, q3, q4, q5, q6, β, o0, sp, rfl, q8⟩ := o2
   have honly : Only (RO.hdr z' (some ⟨β, o0, sp⟩) k cap).block w w := ⟨rfl, rfl, rfl, Nat.le_refl _, fun _ _ _ => rfl⟩
   rcases Nat.eq_zero_or_pos cap with hc | hc
   ·have key := H.change (ro' := .hdr z' (some ⟨β, o0, sp⟩) k cap) (o' := .row z' es false) (m' := m) (w' := w) hr (RO.le.refl _) (Imm.le.refl m) (fun _ _ _ h => .inl h) rfl honly
     (fun b o v e hv => H.imm _ _ _ hv) (fun b e => .inl e) ⟨rfl, q2, q3, q4, q5, q6, β, o0, sp, rfl, fun h => by omega⟩
    rw [RM.put_same hr] at key
    exact ⟨m, .grow (Imm.le.refl m) (RLe.refl R) key.1 (FS.lo_set ..) (.refl w)⟩
   ·obtain ⟨rfl, rfl, arr, T, a1, a2, a3, a4, a5, a6⟩ := q8 hc
    have hle : m.le (m.add β arr (k * z')) := Imm.add_le fun o => a5 rfl o
    have hsz : k * z' ≤ arr.size := by rw [a2]; exact Nat.mul_le_mul_right _ q4
    have hblk : (RO.hdr z' (some ⟨β, 0, none⟩) k cap).block = some β := by simp [RO.block]; omega
    have key := H.change (ro' := .hdr z' (some ⟨β, 0, none⟩) k cap) (o' := .row z' es false) (m' := m.add β arr (k * z')) (w' := w) hr (RO.le.refl _) hle (fun b o v hv => by
      simp only [Imm.add] at hv
      split at hv
      ·rename_i e
       obtain ⟨rfl, e⟩ := e
       exact .inr ⟨hblk, by simp [World.cell?, a1, hv]⟩
      ·exact .inl hv) rfl honly
     (fun b o v e hv => H.imm _ _ _ hv) (fun b e => .inl e) ⟨rfl, q2, q3, q4, q5, q6, β, 0, none, rfl, fun _ => ⟨rfl, rfl, arr, T, a1, a2, fun i j e d he hd => (a3 i j e d he hd).mono hle, fun o ho => by
      simp only [Imm.add]
      rw [if_neg (by omega)]
      exact a4 o ho, fun e => by simp at e, fun _ o ho => Imm.add_at ho (by omega)⟩⟩
    rw [RM.put_same hr] at key
    exact ⟨_, .grow hle (RLe.refl R) key.1 (FS.lo_set ..) (.refl w)⟩
  ·exact none_
 | _ => exact none_
theorem zau {t : Option Nat} {tm : TM} : ∀ (xs : List X) (m : Imm) (fs : FS), WR E m n0 w0 R L fs lp w → (∀ x, x ∈ xs → ∃ v, XR m R (L.below lp fs.lo.length) x v) → ∃ m', SC E n0 w0 L t tm m R fs lp w m' R (xs.foldl lend fs) lp w
 | [], m, fs, H, _ => ⟨m, .grow (Imm.le.refl m) (RLe.refl R) H rfl (.refl w)⟩
 | x :: xs, m, fs, H, h => by
  obtain ⟨v, hv⟩ := h x (by simp)
  obtain ⟨m1, k⟩ := zbs (t := t) (tm := tm) H hv
  obtain ⟨m2, k2⟩ := zau (t := t) (tm := tm) xs m1 _ k.wr (fun y hy => by
   obtain ⟨u, hu⟩ := h y (by simp [hy])
   rw [k.lv]
   exact ⟨u, hu.mono k.mle (RLe.refl R) (LLe.refl _)⟩)
  exact ⟨m2, k.trans k2⟩
theorem zKn (H : WR E m n0 w0 R L fs lp w) {t : Option Nat} {tm : TM} {x : X} {v : Value} (hx : XR m R (L.below lp fs.lo.length) x v) : ∃ m', SC E n0 w0 L t tm m R fs lp w m' R (z9 fs x) lp w := by
 unfold z9
 split
 ·rename_i cs
  refine zau cs m fs H fun x hx' => ?_
  cases hx with
  | agg hn hs h =>
   obtain ⟨j, hj⟩ := List.mem_iff_getElem?.1 hx'
   exact ⟨_, h j x hj⟩
 ·exact zbs H hx
theorem zIo {t : Option Nat} {tm : TM} : ∀ (xs : List X) (m : Imm) (fs : FS), WR E m n0 w0 R L fs lp w → (∀ x, x ∈ xs → ∃ v, XR m R (L.below lp fs.lo.length) x v) → ∃ m', SC E n0 w0 L t tm m R fs lp w m' R (xs.foldl z9 fs) lp w
 | [], m, fs, H, _ => ⟨m, .grow (Imm.le.refl m) (RLe.refl R) H rfl (.refl w)⟩
 | x :: xs, m, fs, H, h => by
  obtain ⟨v, hv⟩ := h x (by simp)
  obtain ⟨m1, k⟩ := zKn (t := t) (tm := tm) H hv
  obtain ⟨m2, k2⟩ := zIo (t := t) (tm := tm) xs m1 _ k.wr (fun y hy => by
   obtain ⟨u, hu⟩ := h y (by simp [hy])
   rw [k.lv]
   exact ⟨u, hu.mono k.mle (RLe.refl R) (LLe.refl _)⟩)
  exact ⟨m2, k.trans k2⟩
theorem z9k (H : WR E m n0 w0 R L fs lp w) {x : X} {v : Value} (hx : XR m R (L.below lp fs.lo.length) x v) {d : D} (h : toDA fs.get x = some d) : DR m d v := by
 have one : ∀ {x : X} {v : Value} {d : D}, XR m R (L.below lp fs.lo.length) x v → toD fs.get x = some d → DR m d v := by
  intro x v d hx h
  cases x with
  | d y => simp only [toD, Option.some.injEq] at h; subst h; cases hx with | d h => exact h
  | row l s n => exact z4r H hx h
  | _ => simp [toD] at h
 have all : ∀ (xs : List X) (ds : List D) (f : Nat → Value), (∀ (j : Nat) x, xs[j]? = some x → XR m R (L.below lp fs.lo.length) x (f j)) → toDs fs.get xs = some ds → xs.length = ds.length ∧ ∀ (j : Nat) d, ds[j]? = some d → DR m d (f j) := by
  intro xs
  induction xs with
  | nil => intro ds f _ h; simp only [toDs, Option.some.injEq] at h; subst h; exact ⟨rfl, fun j d h => by simp at h⟩
  | cons x xs ih =>
   intro ds f hx h
   simp only [toDs] at h
   split at h
   ·rename_i d ds' h1 h2
    simp only [Option.some.injEq] at h
    subst h
    obtain ⟨a, b⟩ := ih ds' (fun j => f (j + 1)) (fun j y hj => hx (j + 1) y (by simpa using hj)) h2
    refine ⟨by simp [a], fun j d' hj => ?_⟩
    cases j with
    | zero => simp at hj; subst hj; exact one (hx 0 x rfl) h1
    | succ j => exact b j d' (by simpa using hj)
   ·simp at h
 unfold toDA at h
 split at h
 ·rename_i cs
  obtain ⟨ds, hd, rfl⟩ := Option.map_eq_some_iff.1 h
  cases hx with
  | @agg _ arr hn hs hc =>
   obtain ⟨a, b⟩ := all cs ds (fun j => arr.getD j undef) hc hd
   refine .agg (by omega) (fun d hd' => ?_) b
   obtain ⟨j, hj⟩ := List.mem_iff_getElem?.1 hd'
   have hlt := zS hj
   have hxj := List.getElem?_eq_getElem (l := cs) (i := j) (by omega)
   have hsx := hs _ (List.mem_of_getElem? hxj)
   have : ∀ (xs : List X) (ds : List D), toDs fs.get xs = some ds → ∀ (j : Nat) x d, xs[j]? = some x → ds[j]? = some d → toD fs.get x = some d := by
    intro xs
    induction xs with
    | nil => intro ds h j x d hx; simp at hx
    | cons y ys ih =>
     intro ds h j x d hx hd
     simp only [toDs] at h
     split at h
     ·rename_i d' ds' h1 h2
      simp only [Option.some.injEq] at h
      subst h
      cases j with
      | zero => simp at hx hd; subst hx; subst hd; exact h1
      | succ j => exact ih ds' h2 j x d (by simpa using hx) (by simpa using hd)
     ·simp at h
   have ht := this cs ds hd j _ d hxj hj
   generalize cs[j] = y at ht hsx
   unfold toD at ht
   split at ht
   ·simp only [Option.some.injEq] at ht; subst ht; simpa [X.sc] using hsx
   ·split at ht
    ·split at ht <;> simp at ht
     subst ht; rfl
    ·split at ht <;> simp at ht
     subst ht; rfl
    ·simp at ht
   ·simp at ht
 ·exact one hx h
theorem z3y (H : WR E m n0 w0 R L fs lp w) {t : Option Nat} {tm : TM} {ρx : Operand → X} {ρv : Operand → Value} (hρ : ∀ a, XR m R (L.below lp fs.lo.length) (ρx a) (ρv a)) {T : TypeId} {p x : X} {v : Value} (hp : XR m R (L.below lp fs.lo.length) p v) {lo hi mx : Option Operand} (h : z7b E.P (lend fs p).get T ρx p lo hi mx = some x) :
  LOK E n0 w0 L t tm m R fs lp w x (lend fs p) lp (fun u w' => (Instr.sliceAt T v (lo.map ρv) (hi.map ρv) (mx.map ρv)).run E.P w = .ok u w') := by
 obtain ⟨m1, k⟩ := zbs (t := t) (tm := tm) H hp
 have hup : ∀ {y : X} {u : Value}, XR m R (L.below lp fs.lo.length) y u → XR m1 R (L.below lp (lend fs p).lo.length) y u := fun hy => by rw [k.lv]; exact hy.mono k.mle (RLe.refl R) (LLe.refl _)
 obtain ⟨u, w', m2, R2, a, b, c⟩ := (znv k.wr (fun a => hup (hρ a)) (hup hp) h).lok t tm
 exact ⟨u, w', m2, R2, a, k.trans b, c⟩
end
end Go.AM
set_option linter.unusedSimpArgs false
set_option linter.unusedVariables false
namespace Go.AM
open Go Go.RowKit
section
variable {E : Env} {m : Imm} {n0 : Nat} {w0 : Base} {R : RM} {L : LM} {fs : FS} {lp : List LRec} {w : World}
theorem z3w {T T' : TypeId} {z : Nat} {zs : List D} (hq : okS E.P T = some (z, zs)) (ty : TypeId) {β n cap k c' β' o' : Nat} {g' : Nat → Value} {arr : Array Value} (hw : w.heap[β]? = some (.cells arr T' (0, 0)))
  (ha : arr.size = cap * z) (hx : ∀ j, j < k * z → w.cell? ⟨β', o' + j, none⟩ = some (g' j)) (h1 : ∀ j, j < k * z → (g' j).oneCell' = true) (hc : n + k ≤ cap) :
  ∃ arr', (Builtin.append_ #[T, T] ty #[.slice (some ⟨β, 0, none⟩) n cap, .slice (some ⟨β', o', none⟩) k c']).run E.P w = .ok (.slice (some ⟨β, 0, none⟩) (n + k) cap) (w.setRow β arr') ∧
   (w.setRow β arr').heap[β]? = some (.cells arr' T' (0, 0)) ∧ arr'.size = arr.size ∧ ∀ j, arr'.getD j undef = if n * z ≤ j ∧ j < n * z + k * z then g' (j - n * z) else arr.getD j undef := by
 obtain ⟨e, i, v, e1, e2, e3, e4, e5, e6, e7, e8, e9, e10⟩ := zcf hq
 have hnews : ∀ j v, ((List.range (k * z)).map g')[j]? = some v → w.cell? ((⟨β', o', none⟩ : Addr).add j) = some v := by
  intro j v hj
  rw [List.getElem?_map] at hj
  obtain ⟨q, hq, rfl⟩ := Option.map_eq_some_iff.1 hj
  have hlt := zS hq
  simp at hlt
  simp [hlt] at hq
  subst hq
  rw [zQj]
  exact hx _ hlt
 have hf := run_firstCells_some (P := E.P) w i.size k ⟨β', o', none⟩ k c' ((List.range (k * z)).map g') (by simp [e3]) hnews
 have hle : n * z + k * z ≤ arr.size := by rw [ha, ← Nat.add_mul]; exact Nat.mul_le_mul_right _ hc
 have hst := run_storeCells_at E.P β (n * z) T' ((List.range (k * z)).map g') 0 arr w hw (by simp; omega) (fun v hv => by
  obtain ⟨j, hj, rfl⟩ := List.mem_map.1 hv
  exact h1 j (by simpa using hj))
 refine ⟨(arr.toList.take (n * z + 0) ++ (List.range (k * z)).map g' ++ arr.toList.drop (n * z + 0 + ((List.range (k * z)).map g').length)).toArray, ?_, setRow_heap w β arr _ T' _ hw, ?_, fun j => ?_⟩
 ·have hadd : (⟨β, 0, none⟩ : Addr).add (n * z) = ⟨β, n * z, none⟩ := by rw [zQj]; simp
  rw [e3] at hf
  simp [Builtin.append_, run_underlying e1, sizeOf, typeInfo, e2, Builtin.lenOf, hc, hf, e3, hadd]
  simp at hst
  simp [hst]
 ·simp; omega
 ·rw [Array.getD_eq_getD_getElem?, Array.getD_eq_getD_getElem?]
  simp only [List.getElem?_toArray, Nat.add_zero, List.length_map, List.length_range]
  rw [List.append_assoc, List.getElem?_append]
  simp only [List.length_take, Array.length_toList]
  by_cases c1 : j < n * z
  ·rw [if_pos (by omega), if_neg (by omega), List.getElem?_take, if_pos c1, Array.getElem?_toList]
  ·rw [if_neg (by omega), show min (n * z) arr.size = n * z by omega, List.getElem?_append]
   by_cases c2 : j < n * z + k * z
   ·rw [if_pos (by simp; omega), if_pos ⟨by omega, c2⟩]
    simp [show j - n * z < k * z by omega]
   ·rw [if_neg (by simp; omega), if_neg (by omega), List.getElem?_drop, List.length_map, List.length_range, show n * z + k * z + (j - n * z - k * z) = j by omega, Array.getElem?_toList]
theorem EC.one {z : Nat} {es : List (List D)} {g : Nat → Value} (h : EC m z es g) (hz : (es.all fun e => e.length == z) = true) (hp : 0 < z) (j : Nat) (hj : j < es.length * z) : (g j).oneCell' = true := by
 obtain ⟨e, d, a1, a2⟩ := z0r hz hp hj
 have := h.at_ _ _ e d a1 a2
 rw [Nat.mul_comm, Nat.div_add_mod] at this
 exact zCr (this.sc1 (h.sc e (List.mem_of_getElem? a1) d (List.mem_of_getElem? a2)))
theorem RC.append {z : Nat} {es xs : List (List D)} {g' : Nat → Value} {arr arr' : Array Value} (h1 : RC m z es arr) (h2 : EC m z xs g') (hz' : (xs.all fun e => e.length == z) = true)
  (ha : ∀ j, j < es.length * z → arr'.getD j undef = arr.getD j undef) (hb : ∀ j, j < xs.length * z → arr'.getD (es.length * z + j) undef = g' j) : RC m z (es ++ xs) arr' :=
 EC.append (g := fun j => arr.getD j undef) ⟨h1.sc, h1.at_⟩ h2 (by rw [List.all_eq_true]; exact fun e he => by simpa using h1.len e he) hz' ha hb
theorem OR.mkRow {R : RM} {L : LM} {w : World} {z : Nat} {es : List (List D)} {wr : Bool} {β cap : Nat} {arr : Array Value} {T : TypeId} (hz : 0 < z) (hcap : es.length ≤ cap) (hb : w.heap[β]? = some (.cells arr T (0, 0))) (ha : arr.size = cap * z) (hc : RC m z es arr)
  (h1 : ∀ o, es.length * z ≤ o → m.cell β o = none) (h2 : wr = true → ∀ o, m.cell β o = none) (h3 : wr = false → ∀ o, o < es.length * z → m.cell β o = some (arr.getD o undef)) : OR m R L w (.row z es wr) (.hdr z (some ⟨β, 0, none⟩) es.length cap) :=
 ⟨rfl, hz, rfl, hcap, hc.len, hc.sc, β, 0, none, rfl, fun _ => ⟨rfl, rfl, arr, T, hb, ha, hc.at_, h1, h2, h3⟩⟩
theorem zay (H : WR E m n0 w0 R L fs lp w) {t : Option Nat} {tm : TM} {T : TypeId} {ts : Array TypeId} {args : Array Value} (ty : TypeId) {s y x : X} {v u : Value} (hs : XR m R (L.below lp fs.lo.length) s v) (hy : XR m R (L.below lp fs.lo.length) y u)
  (h1 : ts[0]? = some T) (h2 : ts[1]? = some T) (h3 : args[0]? = some v) (h4 : args[1]? = some u) {fs' : FS} (h : appL E.P fs T s y = some (x, fs')) : LOK E n0 w0 L t tm m R fs lp w x fs' lp (fun r w' => (Builtin.append_ ts ty args).run E.P w = .ok r w') := by
 rw [zil ty h1 h2 h3 h4]
 unfold appL at h
 split at h
 ·rename_i q l sl n xs hq hxs
  obtain ⟨z, zs⟩ := q
  simp only at h
  split at h
  ·rename_i hc
   obtain ⟨c1, c2⟩ := hc
   have hp : 0 < z := by obtain ⟨e, i, v, e1, e2, e3, e4, e5, _⟩ := zcf hq; exact e5
   obtain ⟨a', n', c', rfl, hn', hcs⟩ := zFo H hy hxs c2 hp
   obtain ⟨z1, a, k, cap, av, nv, cv, rfl, hr, hnk, hval⟩ := zVk H hs
   obtain ⟨o, o1, o2⟩ := H.obj l sl _ hr
   split at h
   ·rename_i z2 es wr hg
    rw [hg] at o1
    simp only [Option.some.injEq] at o1
    subst o1
    split at h
    ·rename_i hlz
     obtain ⟨hl, rfl⟩ := hlz
     simp only [Option.some.injEq, Prod.mk.injEq] at h
     obtain ⟨rfl, rfl⟩ := h
     obtain ⟨rfl, q2, q3, q4, q5, q6, β, o0, sp, rfl, q8⟩ := o2
     have hnk' : n = k := by omega
     obtain ⟨rfl, rfl, rfl⟩ := hval hnk'
     subst hnk'
     subst hl
     rcases Nat.eq_zero_or_pos n' with hz0 | hpos
     ·
      have hxe : xs = [] := by
       cases xs with
       | nil => rfl
       | cons _ _ => simp at hn'; omega
      subst hxe
      subst hz0
      have honly : Only (RO.hdr z1 (some ⟨β, o0, sp⟩) es.length cv).block w w := ⟨rfl, rfl, rfl, Nat.le_refl _, fun _ _ _ => rfl⟩
      have key := H.change (ro' := .hdr z1 (some ⟨β, o0, sp⟩) es.length cv) (o' := .row z1 (es ++ []) wr) (m' := m) (w' := w) hr (RO.le.refl _) (Imm.le.refl m) (fun _ _ _ h => .inl h) rfl honly
       (fun b o v e hv => H.imm _ _ _ hv) (fun b e => .inl e) (by rw [List.append_nil, RM.put_same hr]; exact ⟨rfl, q2, q3, q4, q5, q6, β, o0, sp, rfl, q8⟩)
      rw [RM.put_same hr] at key
      refine ⟨_, w, m, R, zAg hq ty q4, .grow (Imm.le.refl m) (RLe.refl R) key.1 (FS.lo_set ..) (.refl w), ?_⟩
      exact .row hr (by simp) fun _ => ⟨rfl, rfl, rfl⟩
     ·rcases hcs with hcs | ⟨β', o', g', rfl, hcells, hec'⟩
      ·subst hcs; simp at hn'; omega
      ·subst hn'
       have hone := hec'.one c2 hp
       by_cases hfit : es.length + xs.length ≤ cv
       ·
        obtain ⟨rfl, rfl, arr, T', a1, a2, a3, a4, a5, a6⟩ := q8 (by omega)
        obtain ⟨arr', r1, r2, r3, r4⟩ := z3w (w := w) hq ty (c' := c') a1 a2 hcells hone hfit
        have hcl : (es ++ xs).length = es.length + xs.length := by simp
        have hcz : (es ++ xs).length * z1 = es.length * z1 + xs.length * z1 := by rw [hcl, Nat.add_mul]
        have hf4 : RC m z1 (es ++ xs) arr' := RC.append (arr := arr) ⟨q5, q6, a3⟩ hec' c2 (fun j hj => by rw [r4 j, if_neg (by omega)]) (fun j hj => by rw [r4, if_pos (by omega)]; congr 1; omega)
        have hsz : (es ++ xs).length * z1 ≤ arr'.size := by rw [r3, a2, hcl]; exact Nat.mul_le_mul_right _ hfit
        have hblk : ∀ k, (RO.hdr z1 (some ⟨β, 0, none⟩) k cv).block = some β := by intro k; simp [RO.block]; omega
        let m' : Imm := if wr then m else m.add β arr' ((es ++ xs).length * z1)
        have hle : m.le m' := by
         cases wr
         ·refine ⟨fun b o v hv => ?_, fun _ _ h => h⟩
          simp only [m', Imm.add]
          by_cases hb : b = β ∧ o < (es ++ xs).length * z1
          ·obtain ⟨rfl, ho⟩ := hb
           simp only [Bool.false_eq_true, if_false, true_and, ho, if_true]
           rcases Nat.lt_or_ge o (es.length * z1) with hlt | hge
           ·rw [a6 rfl o hlt] at hv
            simp only [Option.some.injEq] at hv
            have := r4 o
            rw [if_neg (by omega), hv] at this
            rw [Array.getD_eq_getD_getElem?, Array.getElem?_eq_getElem (by omega)] at this
            rw [Array.getElem?_eq_getElem (by omega)]
            simpa using this
           ·rw [a4 o hge] at hv; simp at hv
          ·simp only [Bool.false_eq_true, if_false, hb]
           exact hv
         ·exact Imm.le.refl m
        have hR : RO.le (.hdr z1 (some ⟨β, 0, none⟩) es.length cv) (.hdr z1 (some ⟨β, 0, none⟩) (es ++ xs).length cv) := .inl (by omega)
        have hcell2 : ∀ o, w.cell? ⟨β, o, none⟩ = arr[o]? := fun o => by simp [World.cell?, a1]
        have hcell3 : ∀ o, (w.setRow β arr').cell? ⟨β, o, none⟩ = arr'[o]? := fun o => by simp [World.cell?, r2]
        have key := H.change (ro' := .hdr z1 (some ⟨β, 0, none⟩) (es ++ xs).length cv) (o' := .row z1 (es ++ xs) wr) (m' := m') (w' := w.setRow β arr') hr hR hle (fun b o v hv => by
          cases wr
          ·simp only [m', Imm.add, Bool.false_eq_true, if_false] at hv
           split at hv
           ·rename_i e
            obtain ⟨rfl, e⟩ := e
            exact .inr ⟨hblk _, by rw [hcell3]; exact hv⟩
           ·exact .inl hv
          ·exact .inl hv) (by cases wr <;> rfl) (by rw [hblk]; exact zsg w β arr')
         (fun b o v e hv => by
          rw [hblk] at e
          simp only [Option.some.injEq] at e
          subst e
          cases wr
          ·have h5 := hle.cell _ _ _ hv
           simp only [m', Imm.add, Bool.false_eq_true, if_false] at h5
           rw [hcell3]
           split at h5
           ·exact h5
           ·rename_i hno
            have : o < es.length * z1 := by
             rcases Nat.lt_or_ge o (es.length * z1) with hlt | hge
             ·exact hlt
             ·rw [a4 o hge] at hv; simp at hv
            exact absurd ⟨trivial, by omega⟩ hno
          ·rw [a5 rfl] at hv; simp at hv) (fun b e => .inl (by rw [hblk] at e ⊢; exact e))
         (OR.mkRow q2 (by rw [hcl]; exact hfit) r2 (by rw [r3]; exact a2) ⟨hf4.len, hf4.sc, fun i j e d he hd => (hf4.at_ i j e d he hd).mono hle⟩ (fun o ho => by
          cases wr
          ·simp only [m', Imm.add, Bool.false_eq_true, if_false]
           rw [if_neg (by omega)]
           exact a4 o (by omega)
          ·exact a5 rfl o) (fun e o => by subst e; exact a5 rfl o) (fun e o ho => by
          subst e
          exact Imm.add_at ho (by omega)))
        refine ⟨_, _, m', _, r1, .grow hle key.2 key.1 (FS.lo_set ..) ((zsg w β arr').dkeep fun k e d => ?_), ?_⟩
        ·simp only [Option.some.injEq] at e
         subst e
         rw [a1]; simp
        ·exact .row (RM.put_at ..) (by omega) fun _ => ⟨rfl, hcl.symm, rfl⟩
       ·
        have hbase : (some (⟨β, o0, sp⟩ : Addr) = none ∧ es.length = 0 ∧ cv = 0) ∨ ∃ β1 o1 sp1, some (⟨β, o0, sp⟩ : Addr) = some ⟨β1, o1, sp1⟩ ∧ (0 < es.length → sp1 = none) ∧ ∀ j, j < es.length * z1 → w.cell? ⟨β1, o1 + j, none⟩ = some ((match w.heap[β]? with | some (.cells arr _ _) => arr | _ => #[]).getD j undef) := by
         refine .inr ⟨β, o0, sp, rfl, fun h => (q8 (by omega)).1, fun j hj => ?_⟩
         have : 0 < cv := by
          rcases Nat.eq_zero_or_pos cv with h | h
          ·have : es.length = 0 := by omega
           rw [this] at hj; simp at hj
          ·exact h
         obtain ⟨rfl, rfl, arr, T', a1, a2, _⟩ := q8 this
         have : j < arr.size := by rw [a2]; exact Nat.lt_of_lt_of_le hj (Nat.mul_le_mul_right _ q4)
         simp [World.cell?, a1, Array.getD, this]
        obtain ⟨arr, e, cap', r1, r2, r3, r4, r5⟩ := zOn (w := w) hq ty (c' := c') hbase hcells (by omega) hpos c1
        have hold : RC m z1 es (match w.heap[β]? with | some (.cells arr _ _) => arr | _ => #[]) := by
         refine ⟨q5, q6, fun i j e d he hd => ?_⟩
         have := zS he
         obtain ⟨rfl, rfl, arr, T', a1, a2, a3, _⟩ := q8 (by omega)
         rw [a1]
         exact a3 i j e d he hd
        have hf4 : RC m z1 (es ++ xs) arr := hold.append hec' c2 r4 r5
        have hcl : (es ++ xs).length = es.length + xs.length := by simp
        have hbel : Below w.heap.size w (w.drew.alloc (.cells arr e)) := (Below.refl _ _).drew.alloc (Nat.le_refl _) _
        have hnew : (w.drew.alloc (.cells arr e)).heap[w.heap.size]? = some (.cells arr e (0, 0)) := zzb w.drew _
        let m' : Imm := if wr then m else m.add w.heap.size arr ((es ++ xs).length * z1)
        have hle : m.le m' := by
         cases wr
         ·exact Imm.add_le fun o => H.fresh (Nat.le_refl _) o
         ·exact Imm.le.refl m
        have hblk : (RO.hdr z1 (some ⟨w.heap.size, 0, none⟩) (es ++ xs).length cap').block = some w.heap.size := by simp [RO.block]; omega
        have hR : RO.le (.hdr z1 (some ⟨β, o0, sp⟩) es.length cv) (.hdr z1 (some ⟨w.heap.size, 0, none⟩) (es ++ xs).length cap') := .inl (by omega)
        have honly : Only (RO.hdr z1 (some ⟨β, o0, sp⟩) es.length cv).block w (w.drew.alloc (.cells arr e)) := ⟨hbel.os, hbel.tape, hbel.output, hbel.size, fun k hk _ => hbel.block k hk⟩
        have key := H.change (ro' := .hdr z1 (some ⟨w.heap.size, 0, none⟩) (es ++ xs).length cap') (o' := .row z1 (es ++ xs) wr) (m' := m') (w' := w.drew.alloc (.cells arr e)) hr hR hle (fun b o v hv => by
          cases wr
          ·simp only [m', Imm.add, Bool.false_eq_true, if_false] at hv
           split at hv
           ·rename_i e'
            obtain ⟨rfl, e'⟩ := e'
            exact .inr ⟨hblk, by unfold World.cell?; rw [hnew]; exact hv⟩
           ·exact .inl hv
          ·exact .inl hv) (by cases wr <;> rfl) honly
         (fun b o v e' hv => by
          have := H.imm _ _ _ hv
          rw [zph (hbel.block b (World.block_lt_of_cell? w _ this))]
          exact this) (fun b e' => by rw [hblk] at e'; simp only [Option.some.injEq] at e'; exact .inr (by omega))
         (OR.mkRow q2 (by rw [hcl]; exact r2) hnew r3 ⟨hf4.len, hf4.sc, fun i j e d he hd => (hf4.at_ i j e d he hd).mono hle⟩ (fun o ho => by
          cases wr
          ·simp only [m', Imm.add, Bool.false_eq_true, if_false]
           rw [if_neg (by omega)]
           exact H.fresh (Nat.le_refl _) o
          ·exact H.fresh (Nat.le_refl _) o) (fun e o => by subst e; exact H.fresh (Nat.le_refl _) o) (fun e' o ho => by
          subst e'
          refine Imm.add_at ho ?_
          rw [r3]
          rw [hcl] at ho
          exact Nat.lt_of_lt_of_le ho (Nat.mul_le_mul_right _ r2)))
        exact ⟨_, _, m', _, r1, .grow hle key.2 key.1 (FS.lo_set ..) (.of_below hbel), .row (RM.put_at ..) (by omega) fun _ => ⟨rfl, hcl.symm, rfl⟩⟩
    ·simp at h
   ·rename_i hg
    rw [hg] at o1
    simp only [Option.some.injEq] at o1
    subst o1
    obtain ⟨rfl, rfl, rfl, rfl⟩ := o2
    split at h
    ·rename_i hn
     subst hn
     obtain ⟨rfl, rfl, rfl⟩ := hval rfl
     split at h
     ·rename_i hem
      simp only [Option.some.injEq, Prod.mk.injEq] at h
      obtain ⟨rfl, rfl⟩ := h
      have : n' = 0 := by rw [hn']; simpa using hem
      subst this
      exact ⟨_, w, m, R, zAg hq ty (Nat.le_refl _), .grow (Imm.le.refl m) (RLe.refl R) H rfl (.refl w), hs⟩
     ·rename_i hem
      simp only [Option.some.injEq, Prod.mk.injEq] at h
      obtain ⟨rfl, rfl⟩ := h
      rcases hcs with hcs | ⟨β', o', g', rfl, hcells, hec'⟩
      ·subst hcs; simp at hem
      ·have hpos : 0 < n' := by
        rw [hn']
        cases xs with
        | nil => simp at hem
        | cons _ _ => simp
       subst hn'
       obtain ⟨arr, e, cap', r1, r2, r3, r4, r5⟩ := zOn (w := w) hq ty (a := none) (n := 0) (c := 0) (k := xs.length) (c' := c') (g := fun _ => undef) (.inl ⟨rfl, rfl, rfl⟩) hcells (by omega) hpos (by omega)
       simp only [Nat.zero_add] at r1 r2
       simp only [Nat.zero_mul, Nat.zero_add] at r5
       have hf4 : RC m z xs arr := ⟨fun e he => by rw [List.all_eq_true] at c2; simpa using c2 e he, hec'.sc, fun i j e d he hd => by
        have hj := zS hd
        have hle : e.length = z := by rw [List.all_eq_true] at c2; simpa using c2 e (List.mem_of_getElem? he)
        rw [r5 _ (zUf (zS he) (by omega) (Nat.le_refl _))]
        exact hec'.at_ i j e d he hd⟩
       have hbel : Below w.heap.size w (w.drew.alloc (.cells arr e)) := (Below.refl _ _).drew.alloc (Nat.le_refl _) _
       have hnew : (w.drew.alloc (.cells arr e)).heap[w.heap.size]? = some (.cells arr e (0, 0)) := zzb w.drew _
       have hblk : (RO.hdr z (some ⟨w.heap.size, 0, none⟩) xs.length cap').block = some w.heap.size := by simp [RO.block]; omega
       have key := H.change (ro' := .hdr z (some ⟨w.heap.size, 0, none⟩) xs.length cap') (o' := .row z xs true) (m' := m) (w' := w.drew.alloc (.cells arr e)) hr (.inl hpos) (Imm.le.refl m) (fun _ _ _ h => .inl h) rfl
        ⟨hbel.os, hbel.tape, hbel.output, hbel.size, fun k hk _ => hbel.block k hk⟩ (fun b o v e' hv => by simp [RO.block] at e') (fun b e' => by rw [hblk] at e'; simp only [Option.some.injEq] at e'; exact .inr (by omega))
        (OR.mkRow hp r2 hnew r3 hf4 (fun o _ => H.fresh (Nat.le_refl _) o) (fun _ o => H.fresh (Nat.le_refl _) o) (fun e => by simp at e))
       exact ⟨_, _, m, _, r1, .grow (Imm.le.refl m) key.2 key.1 (FS.lo_set ..) (.of_below hbel), .row (RM.put_at ..) (Nat.le_refl _) fun _ => ⟨rfl, rfl, rfl⟩⟩
    ·simp at h
   ·simp at h
  ·simp at h
 ·simp at h
end
end Go.AM
set_option linter.unusedSimpArgs false
set_option linter.unusedVariables false
namespace Go.AM
open Go Go.RowKit
def FW (ro : Option Nat) : Fence := { Fence.wide with round := ro }
structure IW (E : Env) (m : Imm) (w : World) : Prop where
 imm : ∀ b o v, m.cell b o = some v → w.cell? ⟨b, o, none⟩ = some v
 immm : ∀ r e, m.map r = some e → ∃ c, w.heap[r]? = some (.map e c)
 glob : ∀ g cs, E.G g = some cs → DR m (.pin cs) (.pointer (some ⟨g, 0, none⟩))
structure New (m : Imm) (w : World) (m' : Imm) (w' : World) : Prop where
 le : m.le m'
 below : Below w.heap.size w w'
 cell : ∀ b o v, m'.cell b o = some v → m.cell b o = some v ∨ (w.heap.size ≤ b ∧ w'.cell? ⟨b, o, none⟩ = some v)
 map : ∀ r e, m'.map r = some e → m.map r = some e ∨ (w.heap.size ≤ r ∧ ∃ c, w'.heap[r]? = some (.map e c))
def z4j (E : Env) (f : Nat) : Prop := ∃ fn c, E.P.funcs[f]? = some fn ∧ fn.body = some c ∧ (fn.name == "runtime.NumGoroutine") = false
def zJr (E : Env) (rec : Rec) : Prop :=
 ∀ (f : Nat) (ds : List D) (d : D), zI E rec f ds = some d → ∀ (m : Imm) (w : World) (args : Array Value), IW E m w → args.size = ds.length → (∀ (j : Nat) x, ds[j]? = some x → DR m x (args.getD j undef)) →
  z4j E f ∧ CallsIn (FW none) 0 E.P f args w fun e w' => ∃ v m', e = .returned v ∧ New m w m' w' ∧ DR m' d v
section
variable {E : Env} {m : Imm} {n0 : Nat} {w0 : Base} {R : RM} {L : LM} {fs : FS} {lp : List LRec} {w : World}
theorem WR.iw (H : WR E m n0 w0 R L fs lp w) : IW E m w := ⟨H.imm, H.immm, H.glob⟩
theorem WR.new (H : WR E m n0 w0 R L fs lp w) {m' : Imm} {w' : World} (h : New m w m' w') : WR E m' n0 w0 R L fs lp w' := H.grow h.le h.below h.cell h.map
theorem zKq (ro : Option Nat) (ρ : Operand → Value) (o : Oper) {c : Call} (h : o.op = .call c) : o.semAt ro ρ = (do let d ← resolve ρ c o.type; invoke d.target d.args) := by
 rw [Oper.semAt_eq ro ρ o (fun c' e => by rw [h] at e; simp at e)]
 simp [execOp, h]
theorem zzo {f : Nat} (hf : z4j E f) (args : Array Value) (w : World) : (callFunc f args).run E.P w = .ok (.enter f args) w := by
 obtain ⟨fn, c, h1, h2, h3⟩ := hf
 have h3' : ¬ fn.name = "runtime.NumGoroutine" := by simpa using h3
 simp [callFunc, h1, h2, h3']
theorem zWc (ro : Option Nat) (ρ : Operand → Value) (o : Oper) {c : Call} (h : o.op = .call c) {g : Operand} (hc : c.callee = .value g) {f : Nat} {av bv : Array Value} (hg : ρ g = .func (.func f) av bv) (hf : z4j E f) (w : World) :
  (o.semAt ro ρ).run E.P w = .ok (.enter f (av ++ c.args.map ρ ++ bv)) w := by
 rw [zKq ro ρ o h]
 simp only [resolve, hc, Deferred.ofValue, hg, Sem.run_bind, Sem.run_pure, Result.andThen_ok, invoke]
 exact zzo hf _ w
theorem z9h (ro : Option Nat) (ρ : Operand → Value) (o : Oper) {c : Call} (h : o.op = .call c) {b : Builtin} (hc : c.callee = .builtin b) (w : World) :
  ∃ cs, (o.semAt ro ρ).run E.P w = (builtin b c.argTypes o.type cs (c.args.map ρ)).run E.P w := by
 rw [zKq ro ρ o h]
 refine ⟨c.args.map fun | .const _ => true | _ => false, ?_⟩
 simp only [resolve, hc, Sem.run_bind, Sem.run_pure, Result.andThen_ok, invoke]
 rfl
theorem zDj {x : X} {v : Value} {L' : LM} (hx : XR m R L' x v) {q : Nat × List X × List X} (h : zX x = some q) :
  ∃ av bv, v = .func (.func q.1) av bv ∧ av.size = q.2.1.length ∧ bv.size = q.2.2.length ∧ (∀ (j : Nat) y, q.2.1[j]? = some y → XR m R L' y (av.getD j undef)) ∧ ∀ (j : Nat) y, q.2.2[j]? = some y → XR m R L' y (bv.getD j undef) := by
 unfold zX at h
 split at h
 ·simp only [Option.some.injEq] at h
  subst h
  cases hx with
  | d hx =>
   cases hx with
   | fn ha hb h1 h2 =>
    refine ⟨_, _, rfl, by simpa using ha, by simpa using hb, fun j y hj => ?_, fun j y hj => ?_⟩
    all_goals
     simp only [List.getElem?_map, Option.map_eq_some_iff] at hj
     obtain ⟨d, hj, rfl⟩ := hj
    ·exact .d (h1 j d hj)
    ·exact .d (h2 j d hj)
 ·simp only [Option.some.injEq] at h
  subst h
  cases hx with
  | fn ha hb h1 h2 => exact ⟨_, _, rfl, ha, hb, h1, h2⟩
 ·simp at h
theorem zrn {L' : LM} {xs ys zs : List X} {av bv cv : Array Value} (h1 : av.size = xs.length) (h2 : bv.size = ys.length) (h3 : cv.size = zs.length) (k1 : ∀ (j : Nat) y, xs[j]? = some y → XR m R L' y (av.getD j undef))
  (k2 : ∀ (j : Nat) y, ys[j]? = some y → XR m R L' y (bv.getD j undef)) (k3 : ∀ (j : Nat) y, zs[j]? = some y → XR m R L' y (cv.getD j undef)) :
  (av ++ bv ++ cv).size = (xs ++ ys ++ zs).length ∧ ∀ (j : Nat) y, (xs ++ ys ++ zs)[j]? = some y → XR m R L' y ((av ++ bv ++ cv).getD j undef) := by
 refine ⟨by simp; omega, fun j y hj => ?_⟩
 rw [List.getElem?_append, List.getElem?_append] at hj
 rw [Array.getD_eq_getD_getElem?, Array.getElem?_append, Array.getElem?_append]
 simp only [List.length_append, Array.size_append] at hj ⊢
 rw [h1, h2]
 split at hj
 ·rename_i c1
  rw [if_pos c1]
  split at hj
  ·rename_i c2
   rw [if_pos c2, ← Array.getD_eq_getD_getElem?]
   exact k1 j y hj
  ·rename_i c2
   rw [if_neg c2, ← Array.getD_eq_getD_getElem?]
   exact k2 _ y hj
 ·rename_i c1
  rw [if_neg c1, ← Array.getD_eq_getD_getElem?]
  exact k3 _ y hj
theorem z8p {L' : LM} {ρx : Operand → X} {ρv : Operand → Value} (hρ : ∀ a, XR m R L' (ρx a) (ρv a)) (as : Array Operand) : (as.map ρv).size = (as.toList.map ρx).length ∧ ∀ (j : Nat) y, (as.toList.map ρx)[j]? = some y → XR m R L' y ((as.map ρv).getD j undef) :=
 ⟨by simp, XRs.of hρ as⟩
theorem z9n (H : WR E m n0 w0 R L fs lp w) : ∀ {xs : List X} {ds : List D} (f : Nat → Value), (∀ (j : Nat) y, xs[j]? = some y → XR m R (L.below lp fs.lo.length) y (f j)) → zkb fs.get xs = some ds → xs.length = ds.length ∧ ∀ (j : Nat) d, ds[j]? = some d → DR m d (f j)
 | [], ds, f, _, h => by simp only [zkb, Option.some.injEq] at h; subst h; exact ⟨rfl, fun j d h => by simp at h⟩
 | x :: xs, ds, f, hx, h => by
  simp only [zkb] at h
  split at h
  ·rename_i ds' d h2 h1
   simp only [Option.some.injEq] at h
   subst h
   obtain ⟨a, b⟩ := z9n H (fun j => f (j + 1)) (fun j y hj => hx (j + 1) y (by simpa using hj)) h2
   refine ⟨by simp [a], fun j d' hj => ?_⟩
   cases j with
   | zero => simp at hj; subst hj; exact z9k H (hx 0 x rfl) h1
   | succ j => exact b j d' (by simpa using hj)
  ·simp at h
theorem zdd {ro : Option Nat} {o : Oper} {a : Act} {next : Act → World → Prop} {Q : Exit → Act → World → Prop} {v : Value} {w' : World} (h : (o.semAt ro a.eval).run E.P w = .ok (.value v) w') (k : next (a.put o.dst v) w') :
  o.uponIn (FW ro) 0 E.P a next Q ((o.semAt (FW ro).round a.eval).run E.P w) := by
 show o.uponIn (FW ro) 0 E.P a next Q ((o.semAt ro a.eval).run E.P w)
 rw [h]; exact k
theorem zCw {α : Type} {l : List α} {a : α} {t : List α} (h : l = a :: t) : l[0]? = some a := by rw [h]; rfl
theorem q_up {rec : Rec} (hP : zJr E rec) (hdep : 30 ≤ E.P.depth) (H : WR E m n0 w0 R L fs lp w) {ρx : Operand → X} {a : Act} (hρ : ∀ o, XR m R (L.below lp fs.lo.length) (ρx o) (a.eval o)) {o : Oper} {x : X} (h : evQ E (zI E rec) ρx fs.get o.op = some x) (ro : Option Nat) {next : Act → World → Prop} {Q : Exit → Act → World → Prop}
  (K : ∀ v w' m', m.le m' → WR E m' n0 w0 R L fs lp w' → Below w.heap.size w w' → XR m' R (L.below lp fs.lo.length) x v → next (a.put o.dst v) w') :
  o.uponIn (FW ro) 0 E.P a next Q ((o.semAt (FW ro).round a.eval).run E.P w) := by
 have fin : ∀ {s : Sem Value}, QOK E m n0 w0 R L fs lp w x s → o.semAt ro a.eval = (do let r ← s; pure (Next.value r)) → o.uponIn (FW ro) 0 E.P a next Q ((o.semAt (FW ro).round a.eval).run E.P w) := by
  intro s hq hs
  obtain ⟨v, w', m', h1, h2, h3, h4, h5⟩ := hq
  refine zdd (v := v) (w' := w') ?_ (K v w' m' h2 h3 h4 h5)
  rw [hs, Sem.run_bind, h1]
  simp
 have nodef : ∀ {ρ : Operand → Value}, (∀ c, o.op ≠ .defer c) → o.semAt ro ρ = execOp ρ o := fun hd => Oper.semAt_eq ro _ o hd
 have now : ∀ {v : Value}, o.semAt ro a.eval = pure (Next.value v) → XR m R (L.below lp fs.lo.length) x v → o.uponIn (FW ro) 0 E.P a next Q ((o.semAt (FW ro).round a.eval).run E.P w) := by
  intro v hs hx
  exact zdd (by rw [hs]; simp) (K v w m (Imm.le.refl m) H (Below.refl _ _) hx)
 cases hop : o.op <;> rw [hop] at h <;> simp only [evQ] at h
 case move y =>
  simp only [Option.some.injEq] at h; subst h
  exact now (by rw [nodef (fun c e => by rw [hop] at e; simp at e)]; simp [execOp, hop]) (hρ y)
 case assign y =>
  simp only [Option.some.injEq] at h; subst h
  exact now (by rw [nodef (fun c e => by rw [hop] at e; simp at e)]; simp [execOp, hop]) (hρ y)
 case pick c p q =>
  split at h
  ·rename_i t hc
   simp only [Option.some.injEq] at h; subst h
   have h1 := hρ c
   rw [hc] at h1
   have h2 : a.eval c = .bool t := by
    generalize a.eval c = u at h1
    cases h1 with | d h1 => cases h1; rfl
   refine zdd (v := if t then a.eval p else a.eval q) ?_ (K _ w m (Imm.le.refl m) H (Below.refl _ _) (by cases t <;> simp [hρ]))
   rw [nodef (fun c e => by rw [hop] at e; simp at e)]
   simp [execOp, hop, h2, asBool]
  ·simp at h
 case load T p => exact fin (zzz H (hρ p) h) (by rw [nodef (fun c e => by rw [hop] at e; simp at e)]; simp [execOp, hop])
 case fieldAddr T p f => exact fin (zRu H (hρ p) h) (by rw [nodef (fun c e => by rw [hop] at e; simp at e)]; simp [execOp, hop])
 case indexAddr T p i => exact fin (zNu H (hρ p) (hρ i) h) (by rw [nodef (fun c e => by rw [hop] at e; simp at e)]; simp [execOp, hop])
 case field T p f => exact fin (zfz H (hρ p) h) (by rw [nodef (fun c e => by rw [hop] at e; simp at e)]; simp [execOp, hop])
 case index T p i => exact fin (zvz H (hρ p) (hρ i) h) (by rw [nodef (fun c e => by rw [hop] at e; simp at e)]; simp [execOp, hop])
 case binOp b T p q T' => exact fin (zCA hdep H (hρ p) (hρ q) p q h) (by rw [nodef (fun c e => by rw [hop] at e; simp at e)]; simp [execOp, hop])
 case unOp b T p => exact fin (q_un H (hρ p) h) (by rw [nodef (fun c e => by rw [hop] at e; simp at e)]; simp [execOp, hop])
 case convert s d p => exact fin (z3z H (hρ p) h) (by rw [nodef (fun c e => by rw [hop] at e; simp at e)]; simp [execOp, hop])
 case build T ps => exact fin (znz H hρ h) (by rw [nodef (fun c e => by rw [hop] at e; simp at e)]; simp [execOp, hop])
 case buildSlice T n ps => exact fin (zHt H hρ h) (by rw [nodef (fun c e => by rw [hop] at e; simp at e)]; simp [execOp, hop])
 case makeFunc fn p q => exact fin (z1z H hρ h) (by rw [nodef (fun c e => by rw [hop] at e; simp at e)]; simp [execOp, hop])
 case slice T p lo hi mx => exact fin (znv H hρ (hρ p) h) (by rw [nodef (fun c e => by rw [hop] at e; simp at e)]; simp [execOp, hop])
 case lookup T p k ok => exact fin (zBz H (hρ p) (hρ k) h) (by rw [nodef (fun c e => by rw [hop] at e; simp at e)]; simp [execOp, hop])
 case extract p i => exact fin (zkx H (hρ p) h) (by rw [nodef (fun c e => by rw [hop] at e; simp at e)]; simp [execOp, hop])
 case makeSlice T n c =>
  split at h
  ·rename_i q n' c' hq hn hc
   split at h
   ·rename_i hh
    obtain ⟨h0, rfl, h1⟩ := hh
    simp only [Option.some.injEq] at h; subst h
    obtain ⟨k, hk⟩ := zzn hn (hρ n)
    obtain ⟨k', hk'⟩ := zzn hc (hρ c)
    exact fin (zRz (z := q.1) (zs := q.2) H hq h0 h1 k k') (by rw [nodef (fun c e => by rw [hop] at e; simp at e)]; simp [execOp, hop, hk, hk'])
   ·simp at h
  ·simp at h
 case call c =>
  split at h
  ·rename_i b hb
   obtain ⟨cs, hs⟩ := z9h (E := E) ro a.eval o hop hb w
   have fin' : ∀ {s : Sem Value}, QOK E m n0 w0 R L fs lp w x s → (builtin b c.argTypes o.type cs (c.args.map a.eval)) = (do let r ← s; pure (Next.value r)) → o.uponIn (FW ro) 0 E.P a next Q ((o.semAt (FW ro).round a.eval).run E.P w) := by
    intro s hq he
    obtain ⟨v, w', m', h1, h2, h3, h4, h5⟩ := hq
    refine zdd (v := v) (w' := w') ?_ (K v w' m' h2 h3 h4 h5)
    rw [hs, he, Sem.run_bind, h1]
    simp
   split at h
   ·rename_i T ts y ys hT hy
    have e1 : c.argTypes[0]? = some T := by rw [← Array.getElem?_toList]; exact zCw hT
    cases has : c.args.toList with
    | nil => rw [has] at hy; simp at hy
    | cons p ps =>
     rw [has] at hy
     simp only [List.map_cons, List.cons.injEq] at hy
     have e2 : (c.args.map a.eval)[0]? = some (a.eval p) := by
      rw [Array.getElem?_map, ← Array.getElem?_toList, has]; rfl
     exact fin' (zPB (ty := o.type) H (hy.1 ▸ hρ p) e1 e2 h) rfl
   ·rename_i T U ts s y hT hy
    split at h
    ·rename_i hTU
     subst hTU
     have e1 : c.argTypes[0]? = some T := by rw [← Array.getElem?_toList, hT]; rfl
     have e2 : c.argTypes[1]? = some T := by rw [← Array.getElem?_toList, hT]; rfl
     cases has : c.args.toList with
     | nil => rw [has] at hy; simp at hy
     | cons p ps =>
      cases ps with
      | nil => rw [has] at hy; simp at hy
      | cons q qs =>
       rw [has] at hy
       simp only [List.map_cons, List.cons.injEq] at hy
       obtain ⟨rfl, rfl, _⟩ := hy
       have e3 : (c.args.map a.eval)[0]? = some (a.eval p) := by rw [Array.getElem?_map, ← Array.getElem?_toList, has]; rfl
       have e4 : (c.args.map a.eval)[1]? = some (a.eval q) := by rw [Array.getElem?_map, ← Array.getElem?_toList, has]; rfl
       exact fin' (z0x H o.type (hρ p) (hρ q) e1 e2 e3 e4 h) rfl
    ·simp at h
   ·exact fin' (zGy H hρ true c.argTypes o.type h) rfl
   ·exact fin' (zGy H hρ false c.argTypes o.type h) rfl
   ·simp at h
  ·rename_i f hf
   split at h
   ·rename_i q hq
    split at h
    ·rename_i ds hds
     obtain ⟨d, hd, rfl⟩ := Option.map_eq_some_iff.1 h
     obtain ⟨av, bv, g1, g2, g3, g4, g5⟩ := zDj (hρ f) hq
     obtain ⟨m1, m2⟩ := z8p hρ c.args
     obtain ⟨k1, k2⟩ := zrn g2 m1 g3 g4 m2 g5
     obtain ⟨l1, l2⟩ := z9n H (fun j => (av ++ c.args.map a.eval ++ bv).getD j undef) k2 hds
     obtain ⟨hent, hcall⟩ := hP q.1 ds d hd m w _ H.iw (k1.trans l1) l2
     have hrun := zWc ro a.eval o hop hf g1 hent w
     show o.uponIn (FW ro) 0 E.P a next Q ((o.semAt ro a.eval).run E.P w)
     rw [hrun, Oper.uponIn_enter]
     refine ⟨fun h => by simp [FW, Fence.wide] at h, ?_⟩
     have hc : CallsIn (FW ro) 0 E.P q.1 (av ++ c.args.map a.eval ++ bv) w fun e w' => ∃ v m', e = .returned v ∧ New m w m' w' ∧ DR m' d v := hcall
     refine hc.mono fun e w' hr => ?_
     obtain ⟨v, m', rfl, hn, hv⟩ := hr
     exact K v w' m' hn.le (H.new hn) hn.below (.d hv)
    ·simp at h
   ·simp at h
  ·simp at h
 all_goals simp at h
end
end Go.AM
set_option linter.unusedSimpArgs false
set_option linter.unusedVariables false
namespace Go.AM
open Go Go.RowKit
def FS.push (fs : FS) : FS := { fr := [], lo := fs.lo ++ [fs.fr] }
theorem FS.push_get (fs : FS) : fs.push.get = fs.get := by
 funext l s
 simp only [FS.get, FS.push, List.length_append, List.length_cons, List.length_nil]
 by_cases h1 : l = fs.lo.length + 1
 ·subst h1
  simp [aget]
 ·rw [if_neg (by omega)]
  by_cases h2 : l = fs.lo.length
  ·subst h2
   simp
  ·rw [if_neg h2]
   congr 1
   rcases Nat.lt_or_ge l fs.lo.length with h3 | h3
   ·rw [List.getElem?_append_left h3]
   ·rw [List.getElem?_eq_none (by simp; omega), List.getElem?_eq_none h3]
theorem zZf {fs fs' : FS} (h : zod fs.lo = some fs') : fs.lo.length = fs'.lo.length + 1 ∧ ∀ l s, l ≤ fs'.lo.length → fs'.get l s = fs.get l s := by
 unfold zod at h
 split at h
 ·rename_i fr hfr
  simp only [Option.some.injEq] at h
  subst h
  have hne : fs.lo ≠ [] := by intro e; rw [e] at hfr; simp at hfr
  have hp : 0 < fs.lo.length := List.length_pos_iff.2 hne
  refine ⟨by simp; omega, fun l s hl => ?_⟩
  simp only [List.length_dropLast] at hl
  simp only [FS.get, List.length_dropLast]
  rw [List.getLast?_eq_getElem?] at hfr
  by_cases e : l = fs.lo.length - 1
  ·subst e
   rw [if_pos rfl, if_neg (by omega), hfr]
   rfl
  ·rw [if_neg e, if_neg (by omega), List.getElem?_dropLast, if_pos (by omega)]
 ·simp at h
section
variable {E : Env} {m : Imm} {n0 : Nat} {w0 : Base} {R : RM} {L : LM} {fs : FS} {lp : List LRec} {w : World}
theorem WR.push (H : WR E m n0 w0 R L fs lp w) : WR E m n0 w0 R L fs.push lp w :=
 { H with
   obj := fun l s ro h => by rw [FS.push_get]; exact H.obj l s ro h
   loops := fun k r hk => by
     obtain ⟨h1, h2⟩ := H.loops k r hk
     exact ⟨by simp [FS.push]; omega, h2⟩ }
theorem XR.push (H : WR E m n0 w0 R L fs lp w) {x : X} {v : Value} (h : XR m R (L.below lp fs.lo.length) x v) : XR m R (L.below lp fs.push.lo.length) x v :=
 h.mono (Imm.le.refl m) (RLe.refl R) (L.below_mono lp (by simp [FS.push]))
def OwnB (R : RM) (top b : Nat) : Prop := ∃ s ro, R top s = some ro ∧ ro.block = some b
open Classical in
noncomputable def Imm.frz (m : Imm) (R : RM) (top : Nat) (w : World) : Imm where
 cell b o := match m.cell b o with
  | some v => some v
  | none => if OwnB R top b then w.cell? ⟨b, o, none⟩ else none
 map r := match m.map r with
  | some e => some e
  | none => if OwnB R top r then (match w.heap[r]? with | some (.map e _) => some e | _ => none) else none
theorem Imm.frz_le (m : Imm) (R : RM) (top : Nat) (w : World) : m.le (m.frz R top w) := ⟨fun b o v h => by simp [Imm.frz, h], fun r e h => by simp [Imm.frz, h]⟩
theorem zrt (H : WR E m n0 w0 R L fs lp w) {top b : Nat} (hb : OwnB R top b) (o : Nat) : (m.frz R top w).cell b o = w.cell? ⟨b, o, none⟩ := by
 simp only [Imm.frz, hb, if_true]
 cases h : m.cell b o with
 | none => rfl
 | some v => exact (H.imm _ _ _ h).symm
theorem z6o {top b o : Nat} {v : Value} (h : (m.frz R top w).cell b o = some v) : m.cell b o = some v ∨ (OwnB R top b ∧ w.cell? ⟨b, o, none⟩ = some v) := by
 simp only [Imm.frz] at h
 split at h
 ·rename_i u hu
  simp only [Option.some.injEq] at h
  subst h
  exact .inl hu
 ·split at h
  ·rename_i hb
   exact .inr ⟨hb, h⟩
  ·simp at h
theorem zjn {top r : Nat} {e : Array MapEntry} (h : (m.frz R top w).map r = some e) : m.map r = some e ∨ (OwnB R top r ∧ ∃ c, w.heap[r]? = some (.map e c)) := by
 simp only [Imm.frz] at h
 split at h
 ·rename_i u hu
  simp only [Option.some.injEq] at h
  subst h
  exact .inl hu
 ·split at h
  ·rename_i hb
   split at h
   ·rename_i e' c hc
    simp only [Option.some.injEq] at h
    subst h
    exact .inr ⟨hb, c, hc⟩
   ·simp at h
  ·simp at h
theorem zeo (H : WR E m n0 w0 R L fs lp w) {x : X} {v : Value} (hx : XR m R (L.below lp fs.lo.length) x v) {d : D} (h : z0d fs x = some d) : DR (m.frz R fs.lo.length w) d v := by
 have hle := m.frz_le R fs.lo.length w
 have hg : ∀ s, aget s fs.fr = fs.get fs.lo.length s := fun s => by simp [FS.get]
 cases x with
 | d y => simp only [z0d, Option.some.injEq] at h; subst h; cases hx with | d h => exact h.mono hle
 | ptr l s o =>
  simp only [z0d] at h
  split at h
  ·rename_i hl
   subst hl
   rw [hg] at h
   split at h
   ·rename_i cs hcs
    obtain ⟨ds, hds, rfl⟩ := Option.map_eq_some_iff.1 h
    cases hx with
    | @ptr _ _ _ β hb =>
    obtain ⟨ob, o1, o2⟩ := H.obj' hb
    rw [hcs] at o1
    simp only [Option.some.injEq] at o1
    subst o1
    obtain ⟨arr, T, a1, a2, a3, a4, a5⟩ := o2
    have hown : OwnB R fs.lo.length β := ⟨s, _, hb, rfl⟩
    have hcd := zGe hds
    refine .pin (fun j => arr.getD (o + j) undef) (fun d hd => ?_) (fun j d hj => ?_) (fun j d hj => ?_)
    ·have := a3 (.d d) (by rw [hcd]; exact List.mem_map_of_mem (List.mem_of_mem_drop hd))
     simpa [X.sc] using this
    ·rw [List.getElem?_drop] at hj
     have hlt := zS hj
     have : o + j < arr.size := by rw [a2, hcd]; simpa using hlt
     rw [zrt H hown]
     simp [World.cell?, a1, Array.getD, this]
    ·rw [List.getElem?_drop] at hj
     exact (zYr hds a4 _ d hj).mono hle
   ·simp at h
  ·simp at h
 | map l s =>
  simp only [z0d] at h
  split at h
  ·rename_i hl
   subst hl
   rw [hg] at h
   split at h
   ·rename_i es hes
    simp only [Option.some.injEq] at h
    subst h
    cases hx with
    | @map _ _ r hb =>
    obtain ⟨ob, o1, o2⟩ := H.obj' hb
    rw [hes] at o1
    simp only [Option.some.injEq] at o1
    subst o1
    obtain ⟨ents, c, a1, a2, a3, a4, a5, _⟩ := o2
    refine .mp ents ?_ a2 (fun j p hj => (a3 j p hj).mono hle) (fun j p hj => (a4 j p hj).mono hle)
    have hown : OwnB R fs.lo.length r := ⟨s, _, hb, rfl⟩
    simp [Imm.frz, a5, hown, a1]
   ·simp at h
  ·simp at h
 | row l s n =>
  simp only [z0d] at h
  split at h
  ·rename_i hl
   subst hl
   rw [hg] at h
   obtain ⟨z, a, k, cap, a', n', c', rfl, hb, hnk, hv⟩ := zVk H hx
   obtain ⟨ob, o1, o2⟩ := H.obj' hb
   split at h
   ·rename_i z1 es wr hes
    split at h
    ·rename_i hn
     simp only [Option.some.injEq] at h
     subst h
     rw [hes] at o1
     simp only [Option.some.injEq] at o1
     subst o1
     obtain ⟨rfl, p2, p3, p4, p5, p6, β, o, sp, rfl, p8⟩ := o2
     obtain ⟨rfl, rfl, rfl⟩ := hv (by omega)
     rw [p3]
     refine .sl z (fun i j => w.heap[β]? |>.elim undef fun | .cells arr _ _ => arr.getD (i * z + j) undef | _ => undef) (fun h => (p8 (by have := List.length_pos_iff.2 h; omega)).1) (by simp) (fun e => by simp at e) (by omega) p5 p6 (fun i j e d he hd => ?_) (fun i j e d he hd => ?_)
     all_goals
      have hi := zS he
      obtain ⟨rfl, rfl, arr, T, a1, a2, a3, _⟩ := p8 (by omega)
      have hj := zS hd
      rw [p5 e (List.mem_of_getElem? he)] at hj
      simp only [a1, Option.elim_some]
     ·have hown : OwnB R fs.lo.length β := ⟨s, _, hb, by simp [RO.block]; omega⟩
      have hlt : i * z + j < arr.size := by rw [a2]; exact zUf hi hj (by omega)
      rw [zrt H hown, Nat.zero_add]
      simp [World.cell?, a1, Array.getD, hlt]
     ·exact (a3 i j e d he hd).mono hle
    ·simp at h
   ·rename_i hes
    split at h
    ·rename_i hn
     subst hn
     simp only [Option.some.injEq] at h
     subst h
     rw [hes] at o1
     simp only [Option.some.injEq] at o1
     subst o1
     obtain ⟨rfl, rfl, rfl, rfl⟩ := o2
     obtain ⟨rfl, rfl, rfl⟩ := hv rfl
     exact .nils
    ·simp at h
   ·simp at h
  ·exact (z4r H hx h).mono hle
 | _ => simp [z0d] at h
theorem zwx {x : X} (hx : x.sc = true) {d : D} (h : z0d fs x = some d) : d.sc = true := by
 cases x with
 | d y => simp only [z0d, Option.some.injEq] at h; subst h; simpa [X.sc] using hx
 | ptr l s o =>
  simp only [z0d] at h
  split at h
  ·split at h
   ·obtain ⟨ds, _, rfl⟩ := Option.map_eq_some_iff.1 h; rfl
   ·simp at h
  ·simp at h
 | map l s =>
  simp only [z0d] at h
  split at h
  ·split at h
   ·simp only [Option.some.injEq] at h; subst h; rfl
   ·simp at h
  ·simp at h
 | row l s n =>
  simp only [z0d] at h
  split at h
  ·split at h
   ·split at h
    ·simp only [Option.some.injEq] at h; subst h; rfl
    ·simp at h
   ·split at h
    ·simp only [Option.some.injEq] at h; subst h; rfl
    ·simp at h
   ·simp at h
  ·simp only [toD] at h
   split at h
   ·split at h
    ·simp only [Option.some.injEq] at h; subst h; rfl
    ·simp at h
   ·split at h
    ·simp only [Option.some.injEq] at h; subst h; rfl
    ·simp at h
   ·simp at h
 | _ => simp [z0d] at h
theorem z8n : ∀ {xs : List X} {ds : List D}, z0m fs xs = some ds → xs.length = ds.length ∧ ∀ (j : Nat) d, ds[j]? = some d → ∃ x, xs[j]? = some x ∧ z0d fs x = some d
 | [], ds, h => by simp only [z0m, Option.some.injEq] at h; subst h; exact ⟨rfl, fun j d h => by simp at h⟩
 | x :: xs, ds, h => by
  simp only [z0m] at h
  split at h
  ·rename_i d ds' h1 h2
   simp only [Option.some.injEq] at h
   subst h
   obtain ⟨a, b⟩ := z8n h2
   refine ⟨by simp [a], fun j d' hj => ?_⟩
   cases j with
   | zero => simp at hj; subst hj; exact ⟨x, rfl, h1⟩
   | succ j => exact b j d' (by simpa using hj)
  ·simp at h
theorem zks (H : WR E m n0 w0 R L fs lp w) {x : X} {v : Value} (hx : XR m R (L.below lp fs.lo.length) x v) {d : D} (h : ztj fs x = some d) : DR (m.frz R fs.lo.length w) d v := by
 unfold ztj at h
 split at h
 ·rename_i f p q
  split at h
  ·rename_i ds es h1 h2
   simp only [Option.some.injEq] at h
   subst h
   obtain ⟨a, b⟩ := z8n h1
   obtain ⟨a', b'⟩ := z8n h2
   cases hx with
   | fn ha hb k1 k2 =>
    refine .fn (by omega) (by omega) (fun j d hj => ?_) (fun j d hj => ?_)
    ·obtain ⟨x, h1, h2⟩ := b j d hj
     exact zeo H (k1 j x h1) h2
    ·obtain ⟨x, h1, h2⟩ := b' j d hj
     exact zeo H (k2 j x h1) h2
  ·simp at h
 ·exact zeo H hx h
theorem zvy {x : X} (hx : x.sc = true) {d : D} (h : ztj fs x = some d) : d.sc = true := by
 unfold ztj at h
 split at h
 ·split at h
  ·simp only [Option.some.injEq] at h
   subst h
   rfl
  ·simp at h
 ·exact zwx hx h
theorem zss : ∀ {xs : List X} {ds : List D}, zdo fs xs = some ds → xs.length = ds.length ∧ ∀ (j : Nat) d, ds[j]? = some d → ∃ x, xs[j]? = some x ∧ ztj fs x = some d
 | [], ds, h => by simp only [zdo, Option.some.injEq] at h; subst h; exact ⟨rfl, fun j d h => by simp at h⟩
 | x :: xs, ds, h => by
  simp only [zdo] at h
  split at h
  ·rename_i d ds' h1 h2
   simp only [Option.some.injEq] at h
   subst h
   obtain ⟨a, b⟩ := zss h2
   refine ⟨by simp [a], fun j d' hj => ?_⟩
   cases j with
   | zero => simp at hj; subst hj; exact ⟨x, rfl, h1⟩
   | succ j => exact b j d' (by simpa using hj)
  ·simp at h
theorem zXt (H : WR E m n0 w0 R L fs lp w) {x : X} {v : Value} (hx : XR m R (L.below lp fs.lo.length) x v) {d : D} (h : snap fs x = some d) : DR (m.frz R fs.lo.length w) d v := by
 unfold snap at h
 split at h
 ·rename_i cs
  obtain ⟨ds, hds, rfl⟩ := Option.map_eq_some_iff.1 h
  obtain ⟨a, b⟩ := zss hds
  cases hx with
  | agg hn hs hc =>
   refine .agg (by omega) (fun d hd => ?_) (fun j d hj => ?_)
   ·obtain ⟨j, hj⟩ := List.mem_iff_getElem?.1 hd
    obtain ⟨x, h1, h2⟩ := b j d hj
    exact zvy (hs x (List.mem_of_getElem? h1)) h2
   ·obtain ⟨x, h1, h2⟩ := b j d hj
    exact zks H (hc j x h1) h2
 ·exact zks H hx h
theorem z7p : ∀ {xs : List X} {ds : List D}, zFc fs xs = some ds → xs.length = ds.length ∧ ∀ (j : Nat) d, ds[j]? = some d → ∃ x, xs[j]? = some x ∧ snap fs x = some d
 | [], ds, h => by simp only [zFc, Option.some.injEq] at h; subst h; exact ⟨rfl, fun j d h => by simp at h⟩
 | x :: xs, ds, h => by
  simp only [zFc] at h
  split at h
  ·rename_i d ds' h1 h2
   simp only [Option.some.injEq] at h
   subst h
   obtain ⟨a, b⟩ := z7p h2
   refine ⟨by simp [a], fun j d' hj => ?_⟩
   cases j with
   | zero => simp at hj; subst hj; exact ⟨x, rfl, h1⟩
   | succ j => exact b j d' (by simpa using hj)
  ·simp at h
def resV : List Value → Value
 | [v] => v
 | vs => .tuple vs.toArray
theorem zsu {m : Imm} {ds : List D} {vs : List Value} (hl : vs.length = ds.length) (h : ∀ (j : Nat) d v, ds[j]? = some d → vs[j]? = some v → DR m d v) : DR m (tupD ds) (resV vs) := by
 have gen : DR m (.tup ds) (.tuple vs.toArray) := .tup (by simpa using hl) fun j d hj => by
  have hlt := zS hj
  have hv := List.getElem?_eq_getElem (l := vs) (i := j) (by omega)
  have := h j d _ hj hv
  rw [Array.getD_eq_getD_getElem?, List.getElem?_toArray, hv]
  exact this
 match ds, vs, hl with
 | [d], [v], _ => exact h 0 d v rfl rfl
 | [], [], _ => exact gen
 | _ :: _ :: _, _ :: _ :: _, _ => exact gen
theorem WR.popG (H : WR E m n0 w0 R L fs lp w) {fs' : FS} (hp : zod fs.lo = some fs') {L' : LM} {lp' : List LRec} (hl : ∀ (k : Nat) r, lp'[k]? = some r → lp[k]? = some r ∧ r.lv < fs'.lo.length ∧ L' k = L k) (hbel : ∀ l, l ≤ fs'.lo.length → L'.below lp' l = L.below lp l) : WR E (m.frz R fs.lo.length w) n0 w0 (R.upto fs'.lo.length) L' fs' lp' w := by
 obtain ⟨p1, p2⟩ := zZf hp
 have hle := m.frz_le R fs.lo.length w
 have hup : ∀ l, l ≤ fs'.lo.length → (R.upto fs'.lo.length).upto l = R.upto l := fun l h => by
  funext l' s'
  simp only [RM.upto]
  split
  ·rw [if_pos (by omega)]
  ·rfl
 have hR : ∀ {l s ro}, (R.upto fs'.lo.length) l s = some ro → l ≤ fs'.lo.length ∧ R l s = some ro := by
  intro l s ro h
  simp only [RM.upto] at h
  split at h
  ·exact ⟨by assumption, h⟩
  ·simp at h
 constructor
 case imm =>
  intro b o v h
  rcases z6o h with h | h
  ·exact H.imm b o v h
  ·exact h.2
 case immm =>
  intro r e h
  rcases zjn h with h | h
  ·exact H.immm r e h
  ·exact h.2
 case obj =>
  intro l s ro h
  obtain ⟨h1, h2⟩ := hR h
  obtain ⟨o, o1, o2⟩ := H.obj l s ro h2
  refine ⟨o, by rw [p2 l s h1]; exact o1, ?_⟩
  rw [hup l h1, hbel l h1]
  refine o2.mono hle (RLe.refl _) (LLe.refl _) fun β hβ => ⟨rfl, fun o => ?_, ?_⟩
  ·cases hc : m.cell β o with
   | some v => exact hle.cell _ _ _ hc
   | none =>
    cases hc' : (m.frz R fs.lo.length w).cell β o with
    | none => rfl
    | some v =>
     rcases z6o hc' with h3 | ⟨⟨s', ro', h3, h4⟩, _⟩
     ·rw [hc] at h3; cases h3
     ·have := (H.disj _ _ _ _ _ _ β h2 h3 hβ h4).1
      omega
  ·cases hc : m.map β with
   | some v => exact hle.map _ _ hc
   | none =>
    cases hc' : (m.frz R fs.lo.length w).map β with
    | none => rfl
    | some v =>
     rcases zjn hc' with h3 | ⟨⟨s', ro', h3, h4⟩, _⟩
     ·rw [hc] at h3; cases h3
     ·have := (H.disj _ _ _ _ _ _ β h2 h3 hβ h4).1
      omega
 case disj => exact fun l s ro l' s' ro' β h1 h2 => H.disj l s ro l' s' ro' β (hR h1).2 (hR h2).2
 case base => exact fun l s ro β h => H.base l s ro β (hR h).2
 case below => exact H.below
 case own =>
  intro b o v h
  rcases z6o h with h | ⟨⟨s', ro', h3, h4⟩, _⟩
  ·exact H.own b o v h
  ·exact .inr (H.base _ _ _ _ h3 h4)
 case ownm =>
  intro r e h
  rcases zjn h with h | ⟨⟨s', ro', h3, h4⟩, _⟩
  ·exact H.ownm r e h
  ·exact .inr (H.base _ _ _ _ h3 h4)
 case loops =>
  intro k r hk
  obtain ⟨g1, g2, g3⟩ := hl k r hk
  obtain ⟨h1, q, h2, h3, h4⟩ := H.loops k r g1
  refine ⟨g2, q, g3.trans h2, h3, ?_⟩
  rw [hup _ (by omega), hbel _ (by omega)]
  exact h4.mono hle (RLe.refl _) (LLe.refl _) rfl
 case linj =>
  intro k k' q hk hk' h1 h2
  obtain ⟨g1, _, g3⟩ := hl k _ (List.getElem?_eq_getElem hk)
  obtain ⟨g1', _, g3'⟩ := hl k' _ (List.getElem?_eq_getElem hk')
  exact H.linj k k' q (zS g1) (zS g1') (g3 ▸ h1) (g3' ▸ h2)
 case glob => exact fun g cs hg => (H.glob g cs hg).mono hle
 case n0le => exact H.n0le
theorem WR.pop (H : WR E m n0 w0 R L fs lp w) {fs' : FS} (hp : zod fs.lo = some fs') (hl : ∀ (k : Nat) r, lp[k]? = some r → r.lv < fs'.lo.length) : WR E (m.frz R fs.lo.length w) n0 w0 (R.upto fs'.lo.length) L fs' lp w :=
 H.popG hp (fun k r hk => ⟨hk, hl k r hk, rfl⟩) fun _ _ => rfl
theorem WR.start {m : Imm} {w : World} (h : IW E m w) : WR E m w.heap.size ⟨w, m⟩ (fun _ _ => none) (fun _ => none) { fr := [], lo := [] } [] w where
 imm := h.imm
 immm := h.immm
 obj l s ro h := by simp at h
 disj l s ro l' s' ro' β h := by simp at h
 base l s ro β h := by simp at h
 below := Below.refl _ _
 own b o v h := .inl h
 ownm r e h := .inl h
 loops k r h := by simp at h
 linj k k' q h := by simp at h
 glob := h.glob
 n0le := Nat.le_refl _
theorem WR.ends {m0 : Imm} {wb : World} (H : WR E m wb.heap.size ⟨wb, m0⟩ R L fs lp w) (hm : m0.le m) : New m0 wb (m.frz R fs.lo.length w) w where
 le := hm.trans (m.frz_le R fs.lo.length w)
 below := H.below
 cell b o v h := by
  rcases z6o h with h | ⟨⟨s', ro', h3, h4⟩, h5⟩
  ·rcases H.own b o v h with h1 | h1
   ·exact .inl h1
   ·exact .inr ⟨h1, H.imm b o v h⟩
  ·exact .inr ⟨H.base _ _ _ _ h3 h4, h5⟩
 map r e h := by
  rcases zjn h with h | ⟨⟨s', ro', h3, h4⟩, h5⟩
  ·rcases H.ownm r e h with h1 | h1
   ·exact .inl h1
   ·exact .inr ⟨h1, H.immm r e h⟩
  ·exact .inr ⟨H.base _ _ _ _ h3 h4, h5⟩
end
end Go.AM
set_option linter.unusedSimpArgs false
set_option linter.unusedVariables false
namespace Go.AM
open Go Go.RowKit
def zOy (E : Env) (rec : Rec) : Prop :=
 ∀ (f : Nat) (args : List X) (fs : FS) (lp : List LRec) (d : D) (fs' : FS) (lp' : List LRec), zbb E rec f args fs lp = some (d, fs', lp') →
  ∀ (m : Imm) (n0 : Nat) (w0 : Base) (R : RM) (L : LM) (w : World) (av : Array Value), WR E m n0 w0 R L fs lp w → av.size = args.length → (∀ (j : Nat) y, args[j]? = some y → XR m R (L.below lp fs.lo.length) y (av.getD j undef)) →
   z4j E f ∧ CallsIn (FW none) 0 E.P f av w fun e w' => ∃ v m' R', e = .returned v ∧ RLe R R' ∧ SC E n0 w0 L none [] m R fs lp w m' R' fs' lp' w' ∧ DR m' d v
def zcv (E : Env) (rec : Rec) : Prop :=
 ∀ (k : Nat) (args : List X) (fs : FS) (lp : List LRec) (d : D) (fs' : FS) (lp' : List LRec), round rec k args fs lp = some (d, fs', lp') →
  ∀ (m : Imm) (n0 : Nat) (w0 : Base) (R : RM) (L : LM) (w : World) (av : Array Value) (q : Nat), WR E m n0 w0 R L fs lp w → L k = some q → av.size = args.length → (∀ (j : Nat) y, args[j]? = some y → XR m R (L.below lp fs.lo.length) y (av.getD j undef)) →
   ∃ rr, w.heap[q]? = some (.loop rr) ∧ av.size = rr.params.size ∧ RoundIn (FW none) 0 E.P q rr.fn ((rr.params.zip av).foldl (fun tmps (t, a) => tmps.setIfInBounds t a) rr.tmps) rr.assign rr.body w fun e w' =>
    ∃ v m' R', e = .returned v ∧ RLe R R' ∧ SC E n0 w0 L none [] m R fs lp w m' R' fs' lp' w' ∧ DR m' d v
def zox (E : Env) (rec : Rec) : Prop :=
 ∀ (f : Nat) (ds : List D) (l s n : Nat) (st : St) (z : Nat) (es : List (List D)), run E rec f (ds.map .d) [] [] = some ([.row l s n], st) → l = st.fs.lo.length → aget s st.fs.fr = some (.row z es true) → es.length = n →
  ∀ (m : Imm) (w : World) (args : Array Value), IW E m w → args.size = ds.length → (∀ (j : Nat) x, ds[j]? = some x → DR m x (args.getD j undef)) →
   z4j E f ∧ CallsIn (FW none) 0 E.P f args w fun e w' => ∃ a cap m', e = .returned (.slice a n cap) ∧ New m w m' w' ∧ 0 < z ∧ n ≤ cap ∧ (∀ e, e ∈ es → e.length = z) ∧ (∀ e, e ∈ es → ∀ d, d ∈ e → d.sc = true) ∧
    ∃ β o sp, a = some ⟨β, o, sp⟩ ∧ (0 < cap → sp = none ∧ o = 0 ∧ w.heap.size ≤ β ∧ ∃ arr T, w'.heap[β]? = some (.cells arr T (0, 0)) ∧ arr.size = cap * z ∧
     (∀ (i j : Nat) e d, es[i]? = some e → e[j]? = some d → DR m' d (arr.getD (i * z + j) undef)) ∧ ∀ o, m'.cell β o = none)
def zrv (E : Env) (rec : Rec) : Prop :=
 ∀ (f : Nat) (args : List X) (fs : FS) (lp : List LRec) (d : Nat) (r : List X × St) (p : X × FS), run E rec f args (fs.lo ++ [fs.fr]) lp = some r → adopt d r = some p →
  ∀ (m : Imm) (n0 : Nat) (w0 : Base) (R : RM) (L : LM) (w : World) (av : Array Value), WR E m n0 w0 R L fs lp w → av.size = args.length → (∀ (j : Nat) y, args[j]? = some y → XR m R (L.below lp fs.lo.length) y (av.getD j undef)) →
   z4j E f ∧ CallsIn (FW none) 0 E.P f av w fun e w' => ∃ v m' R', e = .returned v ∧ RLe R R' ∧ SC E n0 w0 L none [] m R fs lp w m' R' p.2 r.2.lp w' ∧ XR m' R' (L.below r.2.lp p.2.lo.length) p.1 v
structure zPk (E : Env) (rec : Rec) : Prop where
 pure : zJr E rec
 ref : zOy E rec
 round : zcv E rec
 prow : zox E rec
 adopt : zrv E rec
section
variable {E : Env} {m : Imm} {n0 : Nat} {w0 : Base} {R : RM} {L : LM} {fs : FS} {lp : List LRec} {w : World}
theorem zid (H : WR E m n0 w0 R L fs lp w) {tm : TM} {a : Act} {L' : LM} (hT : TR m R L' tm a.tmps) (o : Operand) : XR m R L' (evA E tm o) (a.eval o) := by
 cases o with
 | tmp t => exact hT t
 | const v =>
  simp only [evA, Act.eval]
  split
  ·rename_i d hd
   exact .d (zZt hd m)
  ·exact .un _
 | global g =>
  simp only [evA, Act.eval]
  split
  ·rename_i cs hcs
   exact .d (H.glob g cs hcs)
  ·exact .un _
 | func f => exact .d (.fn rfl rfl (fun j d h => by simp at h) (fun j d h => by simp at h))
theorem TR.trx {tm : TM} {arr : Array Value} (h : TR m R L tm arr) (t : Option Nat) : TRx t m R L tm arr := fun t' _ => h t'
theorem zSz {t : Option Nat} {tm : TM} {a : Act} (h : TRx t m R L tm a.tmps) {x : X} {v : Value} (hx : XR m R L x v) (ht : ∀ d, t = some d → d < a.tmps.size) : TR m R L (tput tm t x) (a.put t v).tmps := by
 intro t'
 rw [zgi]
 cases t with
 | none =>
  simp only [Act.put]
  rw [if_neg (by simp)]
  exact h t' (by simp)
 | some d =>
  simp only [Act.put, Option.some.injEq]
  by_cases e : d = t'
  ·subst e
   rw [if_pos rfl, Array.getD_eq_getD_getElem?, Array.getElem?_setIfInBounds_self_of_lt (ht d rfl)]
   exact hx
  ·rw [if_neg e, Array.getD_eq_getD_getElem?, Array.getElem?_setIfInBounds_ne e, ← Array.getD_eq_getD_getElem?]
   exact h t' (by simpa using e)
theorem zZx (a : Act) (t : Option Nat) (v : Value) : (a.put t v).tmps.size = a.tmps.size := by cases t <;> simp [Act.put]
theorem zQv (a : Act) (t : Option Nat) (v : Value) : (a.put t v).defers = a.defers := by cases t <;> rfl
theorem z1r {ro : Option Nat} {o : Oper} {a : Act} {next : Act → World → Prop} {Q : Exit → Act → World → Prop} {w' : World} (h : (o.semAt ro a.eval).run E.P w = .ok .skip w') (k : next (a.put o.dst undef) w') :
  o.uponIn (FW ro) 0 E.P a next Q ((o.semAt (FW ro).round a.eval).run E.P w) := by
 show o.uponIn (FW ro) 0 E.P a next Q ((o.semAt ro a.eval).run E.P w)
 rw [h]; exact k
theorem z7j {L : LM} : XR m R L (.d (.tup [])) undef := .d (.tup rfl fun j d h => by simp at h)
theorem LOK.up {t : Option Nat} {tm : TM} {x : X} {fs' : FS} {lp' : List LRec} {s : Sem Value} (h : LOK E n0 w0 L t tm m R fs lp w x fs' lp' (fun v w' => s.run E.P w = .ok v w')) {ro : Option Nat} {o : Oper} {a : Act} {next : Act → World → Prop} {Q : Exit → Act → World → Prop}
  (hs : o.semAt ro a.eval = (do let r ← s; pure (Next.value r))) (K : ∀ v w' m' R', SC E n0 w0 L t tm m R fs lp w m' R' fs' lp' w' → XR m' R' (L.below lp' fs'.lo.length) x v → next (a.put o.dst v) w') :
  o.uponIn (FW ro) 0 E.P a next Q ((o.semAt (FW ro).round a.eval).run E.P w) := by
 obtain ⟨v, w', m', R', h1, h2, h3⟩ := h
 refine zdd (v := v) (w' := w') ?_ (K v w' m' R' h2 h3)
 rw [hs, Sem.run_bind, h1]
 simp
theorem New.of_below {w' : World} (h : Below w.heap.size w w') : New m w m w' := ⟨Imm.le.refl m, h, fun _ _ _ h => .inl h, fun _ _ h => .inl h⟩
def Laid (R : RM) (st : St) (t : Option Nat) (s : Nat) (o : O) (fs' : FS) : Prop :=
 fs'.lo = st.fs.lo ∧ (∀ l' s', fs'.get l' s' = if l' = st.fs.lo.length ∧ s' = s then some o else st.fs.get l' s') ∧
 (R st.fs.lo.length s = none ∨ ((∀ t', t ≠ some t' → X.refs st.fs.lo.length [s] (tget st.tm t') = false) ∧ (∀ p, p ∈ st.fs.fr → p.1 ≠ s → O.refs st.fs.lo.length [s] p.2 = false) ∧ O.refs st.fs.lo.length [s] o = false))
theorem zfo {st : St} (H : WR E m n0 w0 R L st.fs lp w) {t : Option Nat} {s : Nat} {o : O} {fs' : FS} (hs : zeb st t s o = some fs') : Laid R st t s o fs' := by
 obtain ⟨s1, s2, s3⟩ := z0k hs
 refine ⟨s1, s2, s3.imp (fun h => ?_) id⟩
 cases hq : R st.fs.lo.length s with
 | none => rfl
 | some o => obtain ⟨o', h1, _⟩ := H.obj _ _ _ hq; rw [h] at h1; simp at h1
theorem zPo {st : St} (H : WR E m n0 w0 R L st.fs lp w) {t : Option Nat} {s z : Nat} {es : List (List D)} {fs' : FS} (hs : Laid R st t s (.row z es true) fs') {β o cap : Nat} {sp : Option Nat} (hz : 0 < z) (hcap : es.length ≤ cap)
  (hlen : ∀ e, e ∈ es → e.length = z) (hsc : ∀ e, e ∈ es → ∀ d, d ∈ e → d.sc = true)
  (hb : 0 < cap → sp = none ∧ o = 0 ∧ n0 ≤ β ∧ (∀ l' s' ro', R l' s' = some ro' → ro'.block ≠ some β) ∧ ∃ arr T, w.heap[β]? = some (.cells arr T (0, 0)) ∧ arr.size = cap * z ∧ (∀ (i j : Nat) e d, es[i]? = some e → e[j]? = some d → DR m d (arr.getD (i * z + j) undef)) ∧ ∀ o, m.cell β o = none) :
  SC E n0 w0 L t st.tm m R st.fs lp w m (R.put st.fs.lo.length s (.hdr z (some ⟨β, o, sp⟩) es.length cap)) fs' lp w := by
 obtain ⟨a, b, c, d⟩ := WR.slotCore (ro := .hdr z (some ⟨β, o, sp⟩) es.length cap) (m' := m) (w' := w) H hs.1 hs.2.1 hs.2.2 (Imm.le.refl m) (fun _ _ _ h => .inl h) rfl (Below.refl _ _) (fun b e => by
   simp only [RO.block] at e
   split at e
   ·simp at e
   ·simp only [Option.map_some, Option.some.injEq] at e
    subst e
    obtain ⟨_, _, h1, h2, _⟩ := hb (by omega)
    exact ⟨h1, h2⟩)
  (fun _ => ⟨rfl, hz, rfl, hcap, hlen, hsc, β, o, sp, rfl, fun hc => by
   obtain ⟨rfl, rfl, h1, h2, arr, T, a1, a2, a3, a4⟩ := hb hc
   exact ⟨rfl, rfl, arr, T, a1, a2, a3, fun o _ => a4 o, fun _ o => a4 o, fun e => by simp at e⟩⟩)
 exact ⟨Imm.le.refl m, a, c, b, zpc.refl lp, .refl w, fun arr h => by rw [b]; exact d arr h⟩
theorem zNz {P : Program} {T : TypeId} {q : Nat × List D} {p : Nat × Nat} (h : okS P T = some q) (h' : slT P T = some p) : p.1 = q.1 := by
 unfold okS at h
 split at h
 ·rename_i a b h1 h2
  rw [h1] at h'
  simp only [Option.some.injEq] at h'
  subst h'
  split at h
  ·simp only [Option.some.injEq] at h; subst h; rfl
  ·simp at h
 ·simp at h
theorem zjo {st : St} (H : WR E m n0 w0 R L st.fs st.lp w) {d : Nat} {T : TypeId} {ts : Array TypeId} {args : Array Value} (ty : TypeId) {ss xs es : List (List D)} {c c' : Cap} {v u : Value} (hs : XR m R (L.below st.lp st.fs.lo.length) (.d (.sl ss .ex)) v)
  (hy : XR m R (L.below st.lp st.fs.lo.length) (.d (.sl xs c')) u) (h1 : ts[0]? = some T) (h2 : ts[1]? = some T) (h3 : args[0]? = some v) (h4 : args[1]? = some u) {p : Nat × Nat} (hp : slT E.P T = some p)
  (h : appQ E.P st.fs.get T (.d (.sl ss .ex)) (.d (.sl xs c')) = some (.d (.sl es c))) (hne : (ss.isEmpty || !xs.isEmpty) = true) {fs' : FS} (hn : Laid R st (some d) d (.row p.1 es true) fs') :
  ∃ r w' m' ro', (Builtin.append_ ts ty args).run E.P w = .ok r w' ∧ SC E n0 w0 L (some d) st.tm m R st.fs st.lp w m' (R.put st.fs.lo.length d ro') fs' st.lp w' ∧ XR m' (R.put st.fs.lo.length d ro') (L.below st.lp fs'.lo.length) (.row st.fs.lv d es.length) r := by
 rw [zil ty h1 h2 h3 h4]
 unfold appQ at h
 split at h
 ·rename_i q ss' c0 xs' hq hs' hxs
  simp only [X.d.injEq, D.sl.injEq] at hs'
  obtain ⟨rfl, rfl⟩ := hs'
  have hxs0 := hxs
  simp only [z6c, Option.some.injEq] at hxs
  subst hxs
  have hpq := zNz hq hp
  obtain ⟨z, zs⟩ := q
  simp only at hpq h
  rw [hpq] at hn
  split at h
  ·rename_i hc
   obtain ⟨c1, c2, c3⟩ := hc
   have hz : 0 < z := by obtain ⟨e, i, v, e1, e2, e3, e4, e5, _⟩ := zcf hq; exact e5
   obtain ⟨a', n', k', rfl, hn', hcs⟩ := zFo H hy hxs0 c2 hz
   cases hs with
   | d hs =>
   obtain ⟨a, cap, g, rfl, hcap, hex, hnil, hbase, hec⟩ := zvs H hs c3 hz
   have hce := hex rfl
   split at h
   ·rename_i hem
    simp only [Option.some.injEq, X.d.injEq, D.sl.injEq] at h
    obtain ⟨rfl, rfl⟩ := h
    have hse : ss = [] := by
     rw [hem] at hne
     simpa using hne
    subst hse
    have : n' = 0 := by rw [hn']; simpa using hem
    subst this
    subst hce
    have hav : ∃ β o sp, a = some ⟨β, o, sp⟩ := by
     cases hs with
     | sl => exact ⟨_, _, _, rfl⟩
    obtain ⟨β, o, sp, rfl⟩ := hav
    have k := zPo (β := β) (o := o) (sp := sp) (cap := 0) H hn hz (Nat.le_refl _) (fun e he => by simp at he) (fun e he => by simp at he) (fun h => by omega)
    exact ⟨_, w, m, _, zAg hq ty (Nat.le_refl _), k, .row (RM.put_at ..) (Nat.le_refl _) fun _ => ⟨rfl, rfl, rfl⟩⟩
   ·rename_i hem
    rw [if_neg (by simp)] at h
    simp only [Option.some.injEq, X.d.injEq, D.sl.injEq] at h
    obtain ⟨rfl, rfl⟩ := h
    rcases hcs with hcs | ⟨β', o', g', rfl, hcells, hec'⟩
    ·simp [hcs] at hem
    ·have hpos : 0 < n' := by
      rw [hn']
      cases xs with
      | nil => simp at hem
      | cons _ _ => simp
     subst hn'
     obtain ⟨arr, e, cap', r1, r2, r3, r4, r5⟩ := zOn (w := w) hq ty (c' := k') hbase hcells (by omega) hpos c1
     have f4 : RC m z (ss ++ xs) arr := hec.append hec' c3 c2 r4 r5
     have hbel : Below w.heap.size w (w.drew.alloc (.cells arr e)) := (Below.refl _ _).drew.alloc (Nat.le_refl _) _
     have hnew : (w.drew.alloc (.cells arr e)).heap[w.heap.size]? = some (.cells arr e (0, 0)) := zzb w.drew _
     have hcl : (ss ++ xs).length = ss.length + xs.length := by simp
     have H' := H.new (New.of_below hbel)
     have k := zPo (β := w.heap.size) (o := 0) (cap := cap') H' hn hz (by rw [hcl]; exact r2) f4.len f4.sc (fun _ => ⟨rfl, rfl, H.n0le, fun l' s' ro' hr hb => by have := (H.kind hr hb).2.2.1; omega, arr, e, hnew, r3, f4.at_, fun o => H.fresh (Nat.le_refl _) o⟩)
     exact ⟨_, _, m, _, r1, SC.trans (.grow (Imm.le.refl m) (RLe.refl R) H' rfl (.of_below hbel)) k, .row (RM.put_at ..) (Nat.le_refl _) fun _ => ⟨rfl, hcl.symm, rfl⟩⟩
  ·simp at h
 ·simp at h
theorem zPu {st : St} (H : WR E m n0 w0 R L st.fs st.lp w) {d : Nat} {T : TypeId} {ts : Array TypeId} {args : Array Value} (ty : TypeId) {ss xs es : List (List D)} {c c' : Cap} {v u : Value} (hs : XR m R (L.below st.lp st.fs.lo.length) (.d (.sl ss .ex)) v)
  (hy : XR m R (L.below st.lp st.fs.lo.length) (.d (.sl xs c')) u) (h1 : ts[0]? = some T) (h2 : ts[1]? = some T) (h3 : args[0]? = some v) (h4 : args[1]? = some u) {p : Nat × Nat} (hp : slT E.P T = some p)
  (h : appQ E.P st.fs.get T (.d (.sl ss .ex)) (.d (.sl xs c')) = some (.d (.sl es c))) (hne : (ss.isEmpty || !xs.isEmpty) = true) {fs' : FS} (hn : zeb st (some d) d (.row p.1 es true) = some fs') :
  LOK E n0 w0 L (some d) st.tm m R st.fs st.lp w (.row st.fs.lv d es.length) fs' st.lp (fun r w' => (Builtin.append_ ts ty args).run E.P w = .ok r w') := by
 obtain ⟨r, w', m', ro', a, b, c⟩ := zjo H ty hs hy h1 h2 h3 h4 hp h hne (zfo H hn)
 exact ⟨r, w', m', _, a, b, c⟩
theorem z0v {st : St} (H : WR E m n0 w0 R L st.fs st.lp w) {ta : Nat} {fs1 : FS} (hs : zeb st none (1000 + ta) .nrow = some fs1) {a : Act} (hT : TR m R (L.below st.lp st.fs.lo.length) st.tm a.tmps) {T : TypeId} {fs' : FS}
  (h : stX E.P st.lp fs1 T (tget st.tm ta) (.row fs1.lv (1000 + ta) 0) = some fs') (t : Option Nat) :
  ∃ w' R', (Instr.storeAt T (a.eval (.tmp ta)) (.slice none 0 0)).run E.P w = .ok () w' ∧ SC E n0 w0 L t st.tm m R st.fs st.lp w m R' fs' st.lp w' := by
 have k := z5j H hs
 have hp := k.tms a.tmps (hT.trx none) ta (by simp)
 obtain ⟨w', r1, r2⟩ := z7o (t := t) (tm := st.tm) (v := .slice none 0 0) k.wr hp (.row (by rw [show fs1.lv = st.fs.lo.length from k.lv]; exact RM.put_at ..) (Nat.le_refl _) fun _ => ⟨rfl, rfl, rfl⟩) h
 refine ⟨w', _, r1, SC.trans ⟨k.mle, k.wr, k.low, k.lv, k.lps, k.dk, fun arr hA t' ht => ?_⟩ r2⟩
 obtain ⟨s1, s2, s3⟩ := z0k hs
 rw [k.lv]
 refine (hA t' ht).put (Imm.le.refl m) ?_
 rcases s3 with s3 | s3
 ·left
  cases hq : R st.fs.lo.length (1000 + ta) with
  | none => rfl
  | some o => obtain ⟨o', h1, _⟩ := H.obj _ _ _ hq; rw [s3] at h1; simp at h1
 ·exact .inr (s3.1 t' (by simp))
end
end Go.AM
set_option linter.unusedSimpArgs false
set_option linter.unusedVariables false
namespace Go.AM
open Go Go.RowKit
section
variable {E : Env} {m : Imm} {n0 : Nat} {w0 : Base} {R : RM} {L : LM} {fs : FS} {lp : List LRec} {w : World}
theorem SC.weaken {t : Option Nat} {tm : TM} {m' : Imm} {R' : RM} {fs' : FS} {lp' : List LRec} {w' : World} (hR : RLe R R') (h : SC E n0 w0 L none [] m R fs lp w m' R' fs' lp' w') : SC E n0 w0 L t tm m R fs lp w m' R' fs' lp' w' :=
 ⟨h.mle, h.wr, h.low, h.lv, h.lps, h.dk, fun arr hA t' ht => by rw [h.lv, h.lps.below]; exact (hA t' ht).mono h.mle hR (LLe.refl _)⟩
theorem zoz {m' : Imm} {d : D} {v : Value} {L' : LM} (h : DR m' d v) : XR m R L' (zTv d) v := by
 cases h with
 | b x => exact .d (.b x)
 | i k n => exact .d (.i k n)
 | _ => exact .un _
theorem zEx {m' : Imm} {d : D} {v : Value} {L' : LM} (h : DR m' d v) : XR m R L' (zDh d) v := by
 cases h with
 | tup hn h =>
  refine .tup (by simpa using hn) fun j x hj => ?_
  simp only [List.getElem?_map, Option.map_eq_some_iff] at hj
  obtain ⟨d, hj, rfl⟩ := hj
  exact zoz (h j d hj)
 | b x => exact .d (.b x)
 | i k n => exact .d (.i k n)
 | _ => exact .un _
theorem zRy {m : Imm} {R : RM} {L : LM} {x : X} {u : Value} (hn : zhn x = true) (h : XR m R L x u) : u = .slice none 0 0 := by
 rw [zmu hn] at h
 cases h with
 | d h =>
  cases h with
  | nils => rfl
  | sl z g hsp hc => exact absurd rfl hc
theorem zSp {φ : Get} {c : X} (h : zMq φ c = true) : ∃ l s, c = .row l s 0 ∧ φ l s = some .nrow := by
 unfold zMq at h
 split at h
 ·rename_i l s
  split at h
  ·rename_i e
   exact ⟨l, s, rfl, e⟩
  ·simp at h
 ·simp at h
theorem ziu (H : WR E m n0 w0 R L fs lp w) {R1 : RM} {L1 L' : LM} (hle : RLe R1 R) : ∀ (cs vs : List X) (g : Nat → Value), (∀ c, c ∈ cs → ∃ u, XR m R1 L1 c u) → (∀ (j : Nat) x, vs[j]? = some x → XR m R L' x (g j)) →
  (zipK fs.get cs vs).length = vs.length ∧ ((∀ x, x ∈ vs → x.sc = true) → ∀ x, x ∈ zipK fs.get cs vs → x.sc = true) ∧ ∀ (j : Nat) x, (zipK fs.get cs vs)[j]? = some x → XR m R L' x (g j)
 | [], vs, g, _, h => by simp only [zipK]; exact ⟨trivial, fun h => h, h⟩
 | c :: cs, [], g, _, h => by simp only [zipK]; exact ⟨trivial, fun h => h, h⟩
 | c :: cs, v :: vs, g, hc, h => by
  obtain ⟨i1, i2, i3⟩ := ziu H hle cs vs (fun j => g (j + 1)) (fun c' h' => hc c' (by simp [h'])) (fun j x hj => h (j + 1) x (by simpa using hj))
  have hv := h 0 v rfl
  refine ⟨by simp [zipK, i1], fun hs x hx => ?_, fun j x hj => ?_⟩
  ·simp only [zipK] at hx
   rcases List.mem_cons.1 hx with rfl | hx
   ·split
    ·rename_i hcond
     obtain ⟨l, s, rfl, _⟩ := zSp (Bool.and_eq_true_iff.1 hcond).1
     rfl
    ·exact hs v (by simp)
   ·exact i2 (fun y hy => hs y (by simp [hy])) x hx
  ·cases j with
   | zero =>
    simp only [zipK, List.getElem?_cons_zero, Option.some.injEq] at hj
    subst hj
    split
    ·rename_i hcond
     obtain ⟨hc1, hc2⟩ := Bool.and_eq_true_iff.1 hcond
     obtain ⟨l, s, rfl, hn⟩ := zSp hc1
     obtain ⟨u, hu⟩ := hc (.row l s 0) (by simp)
     cases hu with
     | row hr _ _ =>
      obtain ⟨ro', r1, r2⟩ := hle _ _ _ hr
      cases ro' with
      | hdr z a k cap =>
       obtain ⟨o, o1, o2⟩ := H.obj _ _ _ r1
       rw [hn] at o1
       cases o1
       obtain ⟨rfl, rfl, rfl, rfl⟩ := o2
       rw [zRy hc2 hv]
       exact .row r1 (Nat.le_refl _) fun _ => ⟨rfl, rfl, rfl⟩
      | _ => simp [RO.le] at r2
    ·exact hv
   | succ j =>
    simp only [zipK, List.getElem?_cons_succ] at hj
    exact i3 j x hj
theorem zPw (H : WR E m n0 w0 R L fs lp w) {L' : LM} {p v : X} {pv u : Value} (hp : XR m R L' p pv) (hv : XR m R L' v u) : XR m R L' (zAr fs.get p v) u := by
 unfold zAr
 split
 ·rename_i l s o ds
  split
  ·rename_i cs hcs
   cases hv with
   | d hv =>
    cases hv with
    | @agg _ arr hn hs h =>
     cases hp with
     | ptr hb =>
      obtain ⟨ob, o1, o2⟩ := H.obj _ _ _ hb
      rw [hcs] at o1
      cases o1
      obtain ⟨arr0, T, a1, a2, a3, a4, a5⟩ := o2
      obtain ⟨i1, i2, i3⟩ := ziu H (L' := L') (R.upto_le l) (cs.drop o) (ds.map .d) (fun j => arr.getD j undef) (fun c hc => by
       obtain ⟨j, hj⟩ := List.mem_iff_getElem?.1 (List.mem_of_mem_drop hc)
       exact ⟨_, a4 j c hj⟩) (fun j x hj => by
       rw [List.getElem?_map] at hj
       obtain ⟨d, hd, rfl⟩ := Option.map_eq_some_iff.1 hj
       exact .d (h j d hd))
      exact .agg (by rw [i1, List.length_map]; exact hn) (i2 fun x hx => by
       obtain ⟨d, hd, rfl⟩ := List.mem_map.1 hx
       simpa [X.sc] using hs d hd) i3
  ·exact hv
 ·exact hv
theorem l_up {rec : Rec} (hrec : zPk E rec) {st : St} (H : WR E m n0 w0 R L st.fs st.lp w) {a : Act} (hT : TR m R (L.below st.lp st.fs.lo.length) st.tm a.tmps) {o : Oper} {hh : Hint} {x : X} {fs' : FS} {lp' : List LRec}
  (h : evL E rec hh st o.dst o.op = some (x, fs', lp')) (ro : Option Nat) {next : Act → World → Prop} {Q : Exit → Act → World → Prop}
  (K : ∀ v w' m' R', SC E n0 w0 L o.dst st.tm m R st.fs st.lp w m' R' fs' lp' w' → XR m' R' (L.below lp' fs'.lo.length) x v → next (a.put o.dst v) w') :
  o.uponIn (FW ro) 0 E.P a next Q ((o.semAt (FW ro).round a.eval).run E.P w) := by
 have hρ : ∀ y, XR m R (L.below st.lp st.fs.lo.length) (evA E st.tm y) (a.eval y) := fun y => zid H hT y
 have nodef : ∀ {ρ : Operand → Value}, (∀ c, o.op ≠ .defer c) → o.semAt ro ρ = execOp ρ o := fun hd => Oper.semAt_eq ro _ o hd
 have skip : ∀ {s : Sem Unit} {w' m' R'}, s.run E.P w = .ok () w' → SC E n0 w0 L o.dst st.tm m R st.fs st.lp w m' R' fs' lp' w' → x = .d (.tup []) → o.semAt ro a.eval = (do s; pure .skip) → o.uponIn (FW ro) 0 E.P a next Q ((o.semAt (FW ro).round a.eval).run E.P w) := by
  intro s w' m' R' h1 h2 h3 h4
  subst h3
  exact z1r (w' := w') (by rw [h4, Sem.run_bind, h1]; simp) (K _ w' m' R' h2 z7j)
 cases hop : o.op <;> rw [hop] at h <;> simp only [evL] at h
 case alloc T =>
  split at h
  ·rename_i d zs hd hz
   obtain ⟨q, hq, h⟩ := Option.bind_eq_some_iff.1 h
   obtain ⟨f, hf, he⟩ := Option.map_eq_some_iff.1 h
   simp only [Prod.mk.injEq] at he
   obtain ⟨rfl, rfl, rfl⟩ := he
   rw [hd] at K
   have := zhz H hz hq hf
   refine this.up (by rw [nodef (fun c e => by rw [hop] at e; simp at e)]; simp [execOp, hop]) ?_
   rw [hd]; exact K
  ·simp at h
 case box T y =>
  split at h
  ·rename_i d cs n hd hcs hn
   split at h
   ·rename_i hc
    obtain ⟨f, hf, he⟩ := Option.map_eq_some_iff.1 h
    simp only [Prod.mk.injEq] at he
    obtain ⟨rfl, rfl, rfl⟩ := he
    rw [hd] at K
    refine (zjA H (T := T) (hρ y) hcs hf).up (by rw [nodef (fun c e => by rw [hop] at e; simp at e)]; simp [execOp, hop]) ?_
    rw [hd]; exact K
   ·simp at h
  ·simp at h
 case store T p y =>
  have plain : (stX E.P st.lp st.fs T (evA E st.tm p) (if zjl hh p then zAr st.fs.get (evA E st.tm p) (evA E st.tm y) else evA E st.tm y)).map (fun fs => (X.d (.tup []), fs, st.lp)) = some (x, fs', lp') → o.uponIn (FW ro) 0 E.P a next Q ((o.semAt (FW ro).round a.eval).run E.P w) := by
   intro h
   obtain ⟨f, hf, he⟩ := Option.map_eq_some_iff.1 h
   simp only [Prod.mk.injEq] at he
   obtain ⟨rfl, rfl, rfl⟩ := he
   have hy' : XR m R (L.below st.lp st.fs.lo.length) (if zjl hh p then zAr st.fs.get (evA E st.tm p) (evA E st.tm y) else evA E st.tm y) (a.eval y) := by
    split
    ·exact zPw H (hρ p) (hρ y)
    ·exact hρ y
   obtain ⟨w', h1, h2⟩ := z7o (t := o.dst) (tm := st.tm) H (hρ p) hy' hf
   exact skip h1 h2 rfl (by rw [nodef (fun c e => by rw [hop] at e; simp at e)]; simp [execOp, hop])
  split at h
  ·rename_i hr
   split at h
   ·rename_i ta
    have hy := zYx hr
    obtain ⟨f1, hf1, h⟩ := Option.bind_eq_some_iff.1 h
    obtain ⟨f, hf, he⟩ := Option.map_eq_some_iff.1 h
    simp only [Prod.mk.injEq] at he
    obtain ⟨rfl, rfl, rfl⟩ := he
    obtain ⟨w', R', h1, h2⟩ := z0v H hf1 hT hf o.dst
    have hv : a.eval y = .slice none 0 0 := by
     have := hρ y
     rw [hy] at this
     generalize a.eval y = u at this
     cases this with
     | d this =>
      cases this with
      | nils => rfl
      | sl z g hsp hc => exact absurd rfl hc
    rw [← hv] at h1
    exact skip h1 h2 rfl (by rw [nodef (fun c e => by rw [hop] at e; simp at e)]; simp [execOp, hop])
   ·simp at h
  ·exact plain h
 case mapUpdate T p k y =>
  split at h
  ·rename_i d hd
   obtain ⟨f, hf, he⟩ := Option.map_eq_some_iff.1 h
   simp only [Prod.mk.injEq] at he
   obtain ⟨rfl, rfl, rfl⟩ := he
   obtain ⟨m1, k1⟩ := zKn (t := o.dst) (tm := st.tm) H (hρ y)
   have up : ∀ z, XR m1 R (L.below st.lp (z9 st.fs (evA E st.tm y)).lo.length) (evA E st.tm z) (a.eval z) := fun z => by rw [k1.lv]; exact (hρ z).mono k1.mle (RLe.refl R) (LLe.refl _)
   have hdv := z9k k1.wr (up y) hd
   obtain ⟨w', h1, h2⟩ := zNw (t := o.dst) (tm := st.tm) k1.wr (up p) (up k) (.d hdv) hf
   exact skip h1 (k1.trans h2) rfl (by rw [nodef (fun c e => by rw [hop] at e; simp at e)]; simp [execOp, hop])
  ·simp at h
 case insert T p k y =>
  obtain ⟨f, hf, he⟩ := Option.map_eq_some_iff.1 h
  simp only [Prod.mk.injEq] at he
  obtain ⟨rfl, rfl, rfl⟩ := he
  obtain ⟨w', h1, h2⟩ := zNw (t := o.dst) (tm := st.tm) H (hρ p) (hρ k) (hρ y) hf
  exact skip h1 h2 rfl (by rw [nodef (fun c e => by rw [hop] at e; simp at e)]; simp [execOp, hop])
 case mapEntry T p k =>
  obtain ⟨⟨y, f⟩, hf, he⟩ := Option.map_eq_some_iff.1 h
  simp only [Prod.mk.injEq] at he
  obtain ⟨rfl, rfl, rfl⟩ := he
  obtain ⟨u, w', h1, h2, h3⟩ := zov (t := o.dst) (tm := st.tm) H (hρ p) (hρ k) hf
  have hl : LOK E n0 w0 L o.dst st.tm m R st.fs st.lp w y f st.lp (fun u w' => (Instr.mapEntry T (a.eval p) (a.eval k)).run E.P w = .ok u w') := ⟨u, w', m, R, h1, h2, h3 _⟩
  exact hl.up (by rw [nodef (fun c e => by rw [hop] at e; simp at e)]; simp [execOp, hop]) K
 case entryStore T p k y =>
  obtain ⟨f, hf, he⟩ := Option.map_eq_some_iff.1 h
  simp only [Prod.mk.injEq] at he
  obtain ⟨rfl, rfl, rfl⟩ := he
  obtain ⟨w', h1, h2⟩ := zFz (t := o.dst) (tm := st.tm) (T := T) H (hρ p) (hρ k) (hρ y) hf
  exact skip h1 h2 rfl (by rw [nodef (fun c e => by rw [hop] at e; simp at e)]; simp [execOp, hop])
 case makeMap T r =>
  cases r with
  | some r => simp at h
  | none =>
   simp only at h
   split at h
   ·rename_i d q hd hq
    obtain ⟨f, hf, he⟩ := Option.map_eq_some_iff.1 h
    simp only [Prod.mk.injEq] at he
    obtain ⟨rfl, rfl, rfl⟩ := he
    rw [hd] at K
    refine (zgx H (T := T) hf).up (by rw [nodef (fun c e => by rw [hop] at e; simp at e)]; simp [execOp, hop]) ?_
    rw [hd]; exact K
   ·simp at h
 case makeSlice T n c =>
  split at h
  ·rename_i d q n' c' hd hq hn hc
   split at h
   ·rename_i hh
    obtain ⟨h0, rfl, h1⟩ := hh
    obtain ⟨f, hf, he⟩ := Option.map_eq_some_iff.1 h
    simp only [Prod.mk.injEq] at he
    obtain ⟨rfl, rfl, rfl⟩ := he
    obtain ⟨k, hk⟩ := zzn hn (hρ n)
    obtain ⟨k', hk'⟩ := zzn hc (hρ c)
    rw [hd] at K
    refine (zOz (z := q.1) (zs := q.2) H hq h0 h1 k k' hf).up (by rw [nodef (fun c e => by rw [hop] at e; simp at e)]; simp [execOp, hop, hk, hk']) ?_
    rw [hd]; exact K
   ·simp at h
  ·simp at h
 case assign y =>
  have plain : some (evA E st.tm y, st.fs, st.lp) = some (x, fs', lp') → o.uponIn (FW ro) 0 E.P a next Q ((o.semAt (FW ro).round a.eval).run E.P w) := by
   intro h
   simp only [Option.some.injEq, Prod.mk.injEq] at h
   obtain ⟨rfl, rfl, rfl⟩ := h
   exact zdd (v := a.eval y) (w' := w) (by rw [nodef (fun c e => by rw [hop] at e; simp at e)]; simp [execOp, hop]) (K _ w m R (.grow (Imm.le.refl m) (RLe.refl R) H rfl (.refl w)) (hρ y))
  split at h
  ·rename_i d hd
   split at h
   ·obtain ⟨r, hr, he⟩ := Option.map_eq_some_iff.1 h
    simp only [Prod.mk.injEq] at he
    obtain ⟨rfl, rfl, rfl⟩ := he
    obtain ⟨m1, k1⟩ := zKn (t := o.dst) (tm := st.tm) H (hρ y)
    have hdv := z9k k1.wr (by rw [k1.lv]; exact (hρ y).mono k1.mle (RLe.refl R) (LLe.refl _)) hr
    exact zdd (v := a.eval y) (w' := w) (by rw [nodef (fun c e => by rw [hop] at e; simp at e)]; simp [execOp, hop]) (K _ w m1 R k1 (.d hdv))
   ·split at h
    ·rename_i hy
     obtain ⟨f, hf, he⟩ := Option.map_eq_some_iff.1 h
     simp only [Prod.mk.injEq] at he
     obtain ⟨rfl, rfl, rfl⟩ := he
     obtain ⟨v, w', m', R', ⟨rfl, rfl⟩, h2, h3⟩ := zEB H hf
     have hv : a.eval y = .slice none 0 0 := by
      have := hρ y
      rw [hy] at this
      generalize a.eval y = u at this
      cases this with
      | d this =>
       cases this with
       | nils => rfl
       | sl z g hsp hc => exact absurd rfl hc
     rw [hd] at K
     refine zdd (v := .slice none 0 0) (w' := w') (by rw [nodef (fun c e => by rw [hop] at e; simp at e)]; simp [execOp, hop, hv]) ?_
     have := K _ _ _ _ h2 h3
     rw [hd]; exact this
    ·exact plain h
  ·exact plain h
 case buildSlice T n ps =>
  split at h
  ·rename_i d hd
   split at h
   ·obtain ⟨x', hb, he⟩ := Option.map_eq_some_iff.1 h
    simp only [Prod.mk.injEq] at he
    obtain ⟨rfl, rfl, rfl⟩ := he
    obtain ⟨m1, k1⟩ := zIo (t := o.dst) (tm := st.tm) (ps.toList.map fun p => evA E st.tm p.2) m st.fs H (fun x hx => by
     obtain ⟨p, _, rfl⟩ := List.mem_map.1 hx
     exact ⟨_, hρ p.2⟩)
    have up : ∀ z, XR m1 R (L.below st.lp ((ps.toList.map fun p => evA E st.tm p.2).foldl z9 st.fs).lo.length) (evA E st.tm z) (a.eval z) := fun z => by rw [k1.lv]; exact (hρ z).mono k1.mle (RLe.refl R) (LLe.refl _)
    have hρ' : ∀ z, XR m1 R (L.below st.lp ((ps.toList.map fun p => evA E st.tm p.2).foldl z9 st.fs).lo.length) (asD ((ps.toList.map fun p => evA E st.tm p.2).foldl z9 st.fs).get (evA E st.tm z)) (a.eval z) := fun z => by
     unfold asD
     split
     ·rename_i r hr
      exact .d (z9k k1.wr (up z) hr)
     ·exact up z
    obtain ⟨v, w', m2, hrun, hle, hwr, hbel, hx⟩ := zHt k1.wr hρ' hb
    exact zdd (v := v) (w' := w') (by rw [nodef (fun c e => by rw [hop] at e; simp at e)]; simp [execOp, hop, hrun]) (K v w' m2 R (k1.trans (.grow hle (RLe.refl R) hwr rfl (.of_below hbel))) hx)
   ·split at h
    ·rename_i q es hq hb
     obtain ⟨f, hf, he⟩ := Option.map_eq_some_iff.1 h
     simp only [Prod.mk.injEq] at he
     obtain ⟨rfl, rfl, rfl⟩ := he
     rw [hd] at K
     refine (zrz H hρ hq hb hf).up (by rw [nodef (fun c e => by rw [hop] at e; simp at e)]; simp [execOp, hop]) ?_
     rw [hd]; exact K
    ·simp at h
  ·simp at h
 case slice T p lo hi mx =>
  obtain ⟨r, hr, he⟩ := Option.map_eq_some_iff.1 h
  simp only [Prod.mk.injEq] at he
  obtain ⟨rfl, rfl, rfl⟩ := he
  exact (z3y (t := o.dst) (tm := st.tm) H hρ (hρ p) hr).up (by rw [nodef (fun c e => by rw [hop] at e; simp at e)]; simp [execOp, hop]) K
 case call c =>
  split at h
  ·rename_i hb
   obtain ⟨cs, hs⟩ := z9h (E := E) ro a.eval o hop hb w
   have fin' : LOK E n0 w0 L o.dst st.tm m R st.fs st.lp w x fs' lp' (fun v w' => (Builtin.append_ c.argTypes o.type (c.args.map a.eval)).run E.P w = .ok v w') → o.uponIn (FW ro) 0 E.P a next Q ((o.semAt (FW ro).round a.eval).run E.P w) := by
    intro hl
    obtain ⟨v, w', m', R', h1, h2, h3⟩ := hl
    refine zdd (v := v) (w' := w') ?_ (K v w' m' R' h2 h3)
    rw [hs]
    show (do let r ← Builtin.append_ c.argTypes o.type (c.args.map a.eval); pure (Next.value r) : Sem Next).run E.P w = _
    rw [Sem.run_bind, h1]
    simp
   split at h
   ·rename_i T U ts s y hTs hys
    split at h
    ·rename_i hTU
     subst hTU
     have e1 : c.argTypes[0]? = some T := by rw [← Array.getElem?_toList, hTs]; rfl
     have e2 : c.argTypes[1]? = some T := by rw [← Array.getElem?_toList, hTs]; rfl
     cases has : c.args.toList with
     | nil => rw [has] at hys; simp at hys
     | cons p ps =>
      cases ps with
      | nil => rw [has] at hys; simp at hys
      | cons q qs =>
       rw [has] at hys
       simp only [List.map_cons, List.cons.injEq] at hys
       obtain ⟨hs1, hs2, _⟩ := hys
       have e3 : (c.args.map a.eval)[0]? = some (a.eval p) := by rw [Array.getElem?_map, ← Array.getElem?_toList, has]; rfl
       have e4 : (c.args.map a.eval)[1]? = some (a.eval q) := by rw [Array.getElem?_map, ← Array.getElem?_toList, has]; rfl
       split at h
       ·rename_i l1 s1 n1
        obtain ⟨r, hr, he⟩ := Option.map_eq_some_iff.1 h
        simp only [Prod.mk.injEq] at he
        obtain ⟨rfl, rfl, rfl⟩ := he
        exact fin' (zay (t := o.dst) (tm := st.tm) H o.type (hs1 ▸ hρ p) (hs2 ▸ hρ q) e1 e2 e3 e4 hr)
       ·split at h
        ·rename_i d p' es c1 ss xs c2 hd hp' hnr hap
         split at h
         ·rename_i hcc
          obtain ⟨hc1, hc2⟩ := hcc
          obtain ⟨f, hf, he⟩ := Option.map_eq_some_iff.1 h
          simp only [Prod.mk.injEq] at he
          obtain ⟨rfl, rfl, rfl⟩ := he
          refine fin' ?_
          rw [hd]
          exact zPu H o.type (hs1 ▸ hρ p) (hs2 ▸ hρ q) e1 e2 e3 e4 hp' hap hc2 hf
         ·simp at h
        ·simp at h
    ·simp at h
   ·simp at h
  ·rename_i f hf
   obtain ⟨m1', m2'⟩ := z8p hρ c.args
   split at h
   ·rename_i k hk
    obtain ⟨r, hr, he⟩ := Option.map_eq_some_iff.1 h
    simp only [Prod.mk.injEq] at he
    obtain ⟨rfl, rfl, rfl⟩ := he
    have hfv := hρ f
    rw [hk] at hfv
    have hy : ∃ q, L k = some q ∧ a.eval f = .func (.yield q) #[] #[] := by
     generalize a.eval f = u at hfv
     cases hfv with
     | yld hq =>
      refine ⟨_, ?_, rfl⟩
      simp only [LM.below] at hq
      split at hq
      ·split at hq
       ·exact hq
       ·simp at hq
      ·simp at hq
    obtain ⟨q, hq, hv⟩ := hy
    obtain ⟨rr, g1, g2, g3⟩ := hrec.round k _ _ _ _ _ _ hr m n0 w0 R L w _ q H hq m1' m2'
    have hrun : (o.semAt ro a.eval).run E.P w = .ok (.round q rr.fn ((rr.params.zip (c.args.map a.eval)).foldl (fun tmps (t, a) => tmps.setIfInBounds t a) rr.tmps) rr.assign rr.body) w := by
     rw [zKq ro a.eval o hop]
     simp only [resolve, hf, Deferred.ofValue, hv, Sem.run_bind, Sem.run_pure, Result.andThen_ok, invoke, Array.empty_append]
     exact run_yield g1 g2
    show o.uponIn (FW ro) 0 E.P a next Q ((o.semAt ro a.eval).run E.P w)
    rw [hrun, Oper.uponIn_round]
    refine ⟨fun h => by simp [FW, Fence.wide] at h, ?_⟩
    have hc : RoundIn (FW ro) 0 E.P q rr.fn ((rr.params.zip (c.args.map a.eval)).foldl (fun tmps (t, a) => tmps.setIfInBounds t a) rr.tmps) rr.assign rr.body w _ := g3
    refine hc.mono fun e w' hr => ?_
    obtain ⟨v, m', R', rfl, k1, k2, k3⟩ := hr
    exact K v w' m' R' (k2.weaken k1) (.d k3)
   ·split at h
    ·rename_i q hq
     obtain ⟨av, bv, g1, g2, g3, g4, g5⟩ := zDj (hρ f) hq
     obtain ⟨k1, k2⟩ := zrn g2 m1' g3 g4 m2' g5
     split at h
     ·rename_i ds hds
      obtain ⟨m1, kl⟩ := zIo (t := o.dst) (tm := st.tm) (q.2.1 ++ c.args.toList.map (evA E st.tm) ++ q.2.2) m st.fs H (fun y hy => by
       obtain ⟨j, hj⟩ := List.mem_iff_getElem?.1 hy
       exact ⟨_, k2 j y hj⟩)
      obtain ⟨l1, l2⟩ := z9n kl.wr (fun j => (av ++ c.args.map a.eval ++ bv).getD j undef) (fun j y hj => by rw [kl.lv]; exact (k2 j y hj).mono kl.mle (RLe.refl R) (LLe.refl _)) hds
      have purely : (zI E rec q.1 ds).map (fun r => (X.d r, (q.2.1 ++ c.args.toList.map (evA E st.tm) ++ q.2.2).foldl z9 st.fs, st.lp)) = some (x, fs', lp') → o.uponIn (FW ro) 0 E.P a next Q ((o.semAt (FW ro).round a.eval).run E.P w) := by
       intro h
       obtain ⟨r, hr, he⟩ := Option.map_eq_some_iff.1 h
       simp only [Prod.mk.injEq] at he
       obtain ⟨rfl, rfl, rfl⟩ := he
       obtain ⟨hent, hcall⟩ := hrec.pure q.1 ds r hr m1 w _ kl.wr.iw (k1.trans l1) l2
       have hrun := zWc ro a.eval o hop hf g1 hent w
       show o.uponIn (FW ro) 0 E.P a next Q ((o.semAt ro a.eval).run E.P w)
       rw [hrun, Oper.uponIn_enter]
       refine ⟨fun h => by simp [FW, Fence.wide] at h, ?_⟩
       have hc : CallsIn (FW ro) 0 E.P q.1 (av ++ c.args.map a.eval ++ bv) w fun e w' => ∃ v m', e = .returned v ∧ New m1 w m' w' ∧ DR m' r v := hcall
       refine hc.mono fun e w' hr => ?_
       obtain ⟨v, m', rfl, hn, hv⟩ := hr
       exact K v w' m' R (kl.trans (.grow hn.le (RLe.refl R) (kl.wr.new hn) rfl (.of_below hn.below))) (.d hv)
      have briefly : (zI E rec q.1 ds).map (fun r => (zDh r, st.fs, st.lp)) = some (x, fs', lp') → o.uponIn (FW ro) 0 E.P a next Q ((o.semAt (FW ro).round a.eval).run E.P w) := by
       intro h
       obtain ⟨r, hr, he⟩ := Option.map_eq_some_iff.1 h
       simp only [Prod.mk.injEq] at he
       obtain ⟨rfl, rfl, rfl⟩ := he
       obtain ⟨hent, hcall⟩ := hrec.pure q.1 ds r hr m1 w _ kl.wr.iw (k1.trans l1) l2
       have hrun := zWc ro a.eval o hop hf g1 hent w
       show o.uponIn (FW ro) 0 E.P a next Q ((o.semAt ro a.eval).run E.P w)
       rw [hrun, Oper.uponIn_enter]
       refine ⟨fun h => by simp [FW, Fence.wide] at h, ?_⟩
       have hc : CallsIn (FW ro) 0 E.P q.1 (av ++ c.args.map a.eval ++ bv) w fun e w' => ∃ v m', e = .returned v ∧ New m1 w m' w' ∧ DR m' r v := hcall
       refine hc.mono fun e w' hr => ?_
       obtain ⟨v, m', rfl, hn, hv⟩ := hr
       have hn' : New m w m w' := ⟨Imm.le.refl m, hn.below, fun _ _ _ h => .inl h, fun _ _ h => .inl h⟩
       exact K v w' m R (.grow (Imm.le.refl m) (RLe.refl R) (H.new hn') rfl (.of_below hn.below)) (zEx hv)
      split at h
      ·rename_i d hd
       split at h
       ·rename_i hrs
        obtain ⟨r, hr, h⟩ := Option.bind_eq_some_iff.1 h
        ·skip
         unfold zIe at h
         split at h
         ·rename_i l s n hr1
          split at h
          ·rename_i hl
           split at h
           ·rename_i ob0 hes
            split at h
            ·rename_i hn0
             have hcases : (∃ z es, ob0 = .row z es true ∧ es.length = n) ∨ (ob0 = .nrow ∧ n = 0) := by
              cases ob0 with
              | row z es w =>
               cases w with
               | true => exact .inl ⟨z, es, rfl, by simpa [z5m] using hn0⟩
               | false => simp [z5m] at hn0
              | nrow => exact .inr ⟨rfl, by simpa [z5m] using hn0⟩
              | _ => simp [z5m] at hn0
             rcases hcases with ⟨z, es, rfl, hn⟩ | ⟨rfl, rfl⟩
             ·skip
              obtain ⟨f2, hf2, he⟩ := Option.map_eq_some_iff.1 h
              simp only [Prod.mk.injEq] at he
              obtain ⟨rfl, rfl, rfl⟩ := he
              obtain ⟨hent, hcall⟩ := hrec.prow q.1 ds l s n r.2 z es (by rw [hr, ← hr1]) hl hes hn m1 w _ kl.wr.iw (k1.trans l1) l2
              have hrun := zWc ro a.eval o hop hf g1 hent w
              show o.uponIn (FW ro) 0 E.P a next Q ((o.semAt ro a.eval).run E.P w)
              rw [hrun, Oper.uponIn_enter]
              refine ⟨fun h => by simp [FW, Fence.wide] at h, ?_⟩
              have hc : CallsIn (FW ro) 0 E.P q.1 (av ++ c.args.map a.eval ++ bv) w _ := hcall
              refine hc.mono fun e w' hr => ?_
              obtain ⟨ra, cap, m', rfl, hn', c1, c2, c3, c4, β, ob, sp, rfl, c5⟩ := hr
              have H2 := kl.wr.new hn'
              have k := zPo (st := { st with fs := (q.2.1 ++ c.args.toList.map (evA E st.tm) ++ q.2.2).foldl z9 st.fs }) (β := β) (o := ob) (sp := sp) (cap := cap) H2 (zfo (st := { st with fs := (q.2.1 ++ c.args.toList.map (evA E st.tm) ++ q.2.2).foldl z9 st.fs }) kl.wr hf2) c1 (by rw [hn]; exact c2) c3 c4 (fun hc => by
               obtain ⟨d0, d1, d2, arr, T, d3, d4, d5, d6⟩ := c5 hc
               exact ⟨d0, d1, Nat.le_trans H.n0le d2, fun l' s' ro' hr hb => by have := (kl.wr.kind hr hb).2.2.1; omega, arr, T, d3, d4, d5, d6⟩)
              have hsc := (kl.trans (.grow hn'.le (RLe.refl R) H2 rfl (.of_below hn'.below)))
              rw [hd] at hsc
              have := K (.slice (some ⟨β, ob, sp⟩) n cap) w' m' _ (by rw [hd]; exact hsc.trans k) (.row (RM.put_at ..) (by rw [hn]; exact Nat.le_refl _) fun _ => ⟨rfl, hn.symm, rfl⟩)
              exact this
             ·skip
              obtain ⟨f2, hf2, he⟩ := Option.map_eq_some_iff.1 h
              simp only [Prod.mk.injEq] at he
              obtain ⟨rfl, rfl, rfl⟩ := he
              have hcp : zI E rec q.1 ds = some (.sl [] .nil) := by
               simp [zI, hr, hr1, zFc, snap, ztj, z0d, hl, hes, tupD]
              obtain ⟨hent, hcall⟩ := hrec.pure q.1 ds _ hcp m1 w _ kl.wr.iw (k1.trans l1) l2
              have hrun := zWc ro a.eval o hop hf g1 hent w
              show o.uponIn (FW ro) 0 E.P a next Q ((o.semAt ro a.eval).run E.P w)
              rw [hrun, Oper.uponIn_enter]
              refine ⟨fun h => by simp [FW, Fence.wide] at h, ?_⟩
              have hc : CallsIn (FW ro) 0 E.P q.1 (av ++ c.args.map a.eval ++ bv) w fun e w' => ∃ v m', e = .returned v ∧ New m1 w m' w' ∧ DR m' (.sl [] .nil) v := hcall
              refine hc.mono fun e w' hr => ?_
              obtain ⟨v, m', rfl, hn', hv⟩ := hr
              have hv' : v = .slice none 0 0 := by
               cases hv with
               | nils => rfl
               | sl z g hsp hc => exact absurd rfl hc
              subst hv'
              have H2 := kl.wr.new hn'
              have k := z5j (st := { st with fs := (q.2.1 ++ c.args.toList.map (evA E st.tm) ++ q.2.2).foldl z9 st.fs }) H2 hf2
              have hsc := (kl.trans (.grow hn'.le (RLe.refl R) H2 rfl (.of_below hn'.below)))
              rw [hd] at hsc
              have := K (.slice none 0 0) w' m' _ (by rw [hd]; exact hsc.trans k) (.row (RM.put_at ..) (Nat.le_refl _) fun _ => ⟨rfl, rfl, rfl⟩)
              exact this
            ·simp at h
           ·simp at h
          ·simp at h
         ·rename_i hr1
          obtain ⟨f2, hf2, he⟩ := Option.map_eq_some_iff.1 h
          simp only [Prod.mk.injEq] at he
          obtain ⟨rfl, rfl, rfl⟩ := he
          have hcp : zI E rec q.1 ds = some (.sl [] .nil) := by
           simp only [zI, hr, hr1, zFc, snap, ztj, z0d, Option.map_some, tupD]
          obtain ⟨hent, hcall⟩ := hrec.pure q.1 ds _ hcp m1 w _ kl.wr.iw (k1.trans l1) l2
          have hrun := zWc ro a.eval o hop hf g1 hent w
          show o.uponIn (FW ro) 0 E.P a next Q ((o.semAt ro a.eval).run E.P w)
          rw [hrun, Oper.uponIn_enter]
          refine ⟨fun h => by simp [FW, Fence.wide] at h, ?_⟩
          have hc : CallsIn (FW ro) 0 E.P q.1 (av ++ c.args.map a.eval ++ bv) w fun e w' => ∃ v m', e = .returned v ∧ New m1 w m' w' ∧ DR m' (.sl [] .nil) v := hcall
          refine hc.mono fun e w' hr => ?_
          obtain ⟨v, m', rfl, hn', hv⟩ := hr
          have hv' : v = .slice none 0 0 := by
           cases hv with
           | nils => rfl
           | sl z g hsp hc => exact absurd rfl hc
          subst hv'
          have H2 := kl.wr.new hn'
          have k := z5j (st := { st with fs := (q.2.1 ++ c.args.toList.map (evA E st.tm) ++ q.2.2).foldl z9 st.fs }) H2 hf2
          have hsc := (kl.trans (.grow hn'.le (RLe.refl R) H2 rfl (.of_below hn'.below)))
          rw [hd] at hsc
          have := K (.slice none 0 0) w' m' _ (by rw [hd]; exact hsc.trans k) (.row (RM.put_at ..) (Nat.le_refl _) fun _ => ⟨rfl, rfl, rfl⟩)
          exact this
         ·simp at h
       ·split at h
        ·exact briefly h
        ·exact purely h
      ·exact purely h
     ·obtain ⟨r, hr, he⟩ := Option.map_eq_some_iff.1 h
      simp only [Prod.mk.injEq] at he
      obtain ⟨rfl, rfl, rfl⟩ := he
      obtain ⟨hent, hcall⟩ := hrec.ref q.1 _ _ _ _ _ _ hr m n0 w0 R L w _ H k1 k2
      have hrun := zWc ro a.eval o hop hf g1 hent w
      show o.uponIn (FW ro) 0 E.P a next Q ((o.semAt ro a.eval).run E.P w)
      rw [hrun, Oper.uponIn_enter]
      refine ⟨fun h => by simp [FW, Fence.wide] at h, ?_⟩
      have hc : CallsIn (FW ro) 0 E.P q.1 (av ++ c.args.map a.eval ++ bv) w _ := hcall
      refine hc.mono fun e w' hr => ?_
      obtain ⟨v, m', R', rfl, d1, d2, d3⟩ := hr
      exact K v w' m' R' (d2.weaken d1) (.d d3)
    ·simp at h
  ·simp at h
 all_goals simp at h
theorem zOB {rec : Rec} (hrec : zPk E rec) {st : St} (H : WR E m n0 w0 R L st.fs st.lp w) {a : Act} (hT : TR m R (L.below st.lp st.fs.lo.length) st.tm a.tmps) {o : Oper} {x : X} {fs' : FS} {lp' : List LRec}
  (h : evAd E rec (evA E st.tm) st.fs st.lp o.dst o.op = some (x, fs', lp')) (ro : Option Nat) {next : Act → World → Prop} {Q : Exit → Act → World → Prop}
  (K : ∀ v w' m' R', SC E n0 w0 L o.dst st.tm m R st.fs st.lp w m' R' fs' lp' w' → XR m' R' (L.below lp' fs'.lo.length) x v → next (a.put o.dst v) w') :
  o.uponIn (FW ro) 0 E.P a next Q ((o.semAt (FW ro).round a.eval).run E.P w) := by
 have hρ : ∀ y, XR m R (L.below st.lp st.fs.lo.length) (evA E st.tm y) (a.eval y) := fun y => zid H hT y
 cases hop : o.op <;> rw [hop] at h <;> simp only [evAd] at h
 case call c =>
  split at h
  ·rename_i c' d hcc hd
   cases hcc
   split at h
   ·rename_i f hf
    split at h
    ·rename_i q hq
     obtain ⟨av, bv, g1, g2, g3, g4, g5⟩ := zDj (hρ f) hq
     obtain ⟨m1', m2'⟩ := z8p hρ c.args
     obtain ⟨k1, k2⟩ := zrn g2 m1' g3 g4 m2' g5
     obtain ⟨r, hr, h⟩ := Option.bind_eq_some_iff.1 h
     obtain ⟨p, hp, he⟩ := Option.map_eq_some_iff.1 h
     simp only [Prod.mk.injEq] at he
     obtain ⟨rfl, rfl, rfl⟩ := he
     obtain ⟨hent, hcall⟩ := hrec.adopt q.1 _ _ _ d r p hr hp m n0 w0 R L w _ H k1 k2
     have hrun := zWc ro a.eval o hop hf g1 hent w
     show o.uponIn (FW ro) 0 E.P a next Q ((o.semAt ro a.eval).run E.P w)
     rw [hrun, Oper.uponIn_enter]
     refine ⟨fun h => by simp [FW, Fence.wide] at h, ?_⟩
     have hc : CallsIn (FW ro) 0 E.P q.1 (av ++ c.args.map a.eval ++ bv) w _ := hcall
     refine hc.mono fun e w' hr => ?_
     obtain ⟨v, m', R', rfl, d1, d2, d3⟩ := hr
     exact K v w' m' R' (d2.weaken d1) d3
    ·simp at h
   ·simp at h
  ·simp at h
 all_goals simp at h
end
end Go.AM
set_option linter.unusedSimpArgs false
set_option linter.unusedVariables false
namespace Go.AM
open Go Go.RowKit
def MK (B : Nat) (w : World) (ds : List Deferred) : Prop :=
 ∃ bs : List Nat, ds = bs.map (fun b => ({ target := .collected b, args := #[] } : Deferred)) ∧ bs.Nodup ∧ ∀ b, b ∈ bs → B ≤ b ∧ w.heap[b]? = some (Obj.deferred (some []))
theorem MK.keep {B : Nat} {w w' : World} {ds : List Deferred} (h : MK B w ds) (k : zlf w w') : MK B w' ds := by
 obtain ⟨bs, h1, h2, h3⟩ := h
 exact ⟨bs, h1, h2, fun b hb => ⟨(h3 b hb).1, k.2 _ _ (h3 b hb).2⟩⟩
structure At (E : Env) (n0 : Nat) (w0 : Base) (L : LM) (B N : Nat) (ro : Option Nat) (m : Imm) (R : RM) (st : St) (a : Act) (w : World) : Prop where
 wr : WR E m n0 w0 R L st.fs st.lp w
 tr : TR m R (L.below st.lp st.fs.lo.length) st.tm a.tmps
 size : a.tmps.size = N
 mks : MK B w a.defers
 base : n0 ≤ B
 bw : B ≤ w.heap.size
 ro : ∀ l, ro = some l → ∃ k, k < st.lp.length ∧ L k = some l
def zJl (E : Env) (n0 : Nat) (w0 : Base) (L : LM) (B N : Nat) (ro : Option Nat) (m : Imm) (R : RM) (st : St) (w : World) (st' : St) (a' : Act) (w' : World) : Prop :=
 ∃ m' R', SC E n0 w0 L none [] m R st.fs st.lp w m' R' st'.fs st'.lp w' ∧ At E n0 w0 L B N ro m' R' st' a' w'
section
variable {E : Env} {m : Imm} {n0 : Nat} {w0 : Base} {R : RM} {L : LM} {B N : Nat} {ro : Option Nat} {w : World}
theorem SC.bare {t : Option Nat} {tm : TM} {fs fs' : FS} {lp lp' : List LRec} {m' : Imm} {R' : RM} {w' : World} (h : SC E n0 w0 L t tm m R fs lp w m' R' fs' lp' w') : SC E n0 w0 L none [] m R fs lp w m' R' fs' lp' w' :=
 ⟨h.mle, h.wr, h.low, h.lv, h.lps, h.dk, fun arr _ t' _ => .un _⟩
theorem zJl.refl {st : St} {a : Act} (h : At E n0 w0 L B N ro m R st a w) : zJl E n0 w0 L B N ro m R st w st a w :=
 ⟨m, R, .grow (Imm.le.refl m) (RLe.refl R) h.wr rfl (.refl w), h⟩
theorem zJl.trans {st st1 st2 : St} {a1 a2 : Act} {w1 w2 : World} (h : zJl E n0 w0 L B N ro m R st w st1 a1 w1) (k : ∀ m1 R1, At E n0 w0 L B N ro m1 R1 st1 a1 w1 → zJl E n0 w0 L B N ro m1 R1 st1 w1 st2 a2 w2) : zJl E n0 w0 L B N ro m R st w st2 a2 w2 := by
 obtain ⟨m1, R1, h1, h2⟩ := h
 obtain ⟨m2, R2, k1, k2⟩ := k m1 R1 h2
 exact ⟨m2, R2, h1.trans k1, k2⟩
theorem At.next {st : St} {a : Act} (h : At E n0 w0 L B N ro m R st a w) {t : Option Nat} (ht : ∀ d, t = some d → d < N) {m' : Imm} {R' : RM} {fs' : FS} {lp' : List LRec} {w' : World} (hs : SC E n0 w0 L t st.tm m R st.fs st.lp w m' R' fs' lp' w') {x : X} {v : Value} (hx : XR m' R' (L.below lp' fs'.lo.length) x v) :
  At E n0 w0 L B N ro m' R' { tm := tput st.tm t x, fs := fs', lp := lp' } (a.put t v) w' where
 wr := hs.wr
 tr := zSz (hs.tms _ (h.tr.trx t)) hx (fun d e => by rw [h.size]; exact ht d e)
 size := by rw [zZx]; exact h.size
 mks := by rw [zQv]; exact h.mks.keep hs.dk
 base := h.base
 bw := Nat.le_trans h.bw hs.dk.1
 ro l hl := by obtain ⟨k, h1, h2⟩ := h.ro l hl; exact ⟨k, by rw [hs.lps.1]; exact h1, h2⟩
theorem zOk {st : St} {a : Act} (hT : TR m R L st.tm a.tmps) {ops : Array Oper} {o : Oper} {b : Bool} (h : zQh ops st.tm o = some b) : Region.wanted o (yielded ops a.tmps) = b := by
 unfold zQh at h
 unfold Region.wanted
 split at h
 ·rename_i hg
  simp only [Option.some.injEq] at h
  subst h
  simp [hg]
 ·rename_i g hg
  obtain ⟨j, want⟩ := g
  simp only [hg]
  simp only at h
  split at h
  ·rename_i hd
   simp only [Option.some.injEq] at h
   subst h
   simp [yielded, hd]
  ·rename_i t hd
   have ht := hT t
   have hy : ∀ v, a.tmps.getD t undef = v → yielded ops a.tmps j = (match (if t < a.tmps.size then some v else none) with | some (.bool b) => some b | _ => none) := by
    intro v hv
    subst hv
    simp only [yielded, hd, Option.bind_some]
    by_cases hlt : t < a.tmps.size
    ·rw [if_pos hlt, Array.getElem?_eq_getElem hlt, Array.getD_eq_getD_getElem?, Array.getElem?_eq_getElem hlt]
     rfl
    ·rw [if_neg hlt, Array.getElem?_eq_none (Nat.le_of_not_lt hlt)]
   split at h
   ·rename_i x hx
    simp only [Option.some.injEq] at h
    subst h
    rw [hx] at ht
    have hv : a.tmps.getD t undef = .bool x := by
     generalize a.tmps.getD t undef = v at ht
     cases ht with | d ht => cases ht; rfl
    rw [hy _ hv]
    have hlt : t < a.tmps.size := by
     rcases Nat.lt_or_ge t a.tmps.size with h | h
     ·exact h
     ·rw [Array.getD_eq_getD_getElem?, Array.getElem?_eq_none h] at hv
      simp [undef] at hv
    simp only [hlt, if_true]
    cases x <;> cases want <;> rfl
   ·rename_i hx
    simp only [Option.some.injEq] at h
    subst h
    rw [hx] at ht
    have hv : a.tmps.getD t undef = .tuple #[] := by
     generalize a.tmps.getD t undef = v at ht
     cases ht with
     | d ht =>
      cases ht with
      | tup hn _ => rw [Array.eq_empty_of_size_eq_zero hn]
    rw [hy _ hv]
    by_cases hlt : t < a.tmps.size <;> simp [hlt]
   ·simp at h
theorem zXu {rec : Rec} (hrec : zPk E rec) (hdep : 30 ≤ E.P.depth) {fid : Nat} {ops : Array Oper} {sp : Bool} {st st' : St} {a : Act} (h : At E n0 w0 L B N ro m R st a w) {o : Oper} (hd : ∀ d, o.dst = some d → d < N) (hev : evOp E rec fid ops sp st o = some st')
  {next : Act → World → Prop} {Q : Exit → Act → World → Prop} (K : ∀ a' w', zJl E n0 w0 L B N ro m R st w st' a' w' → next a' w') :
  if Region.wanted o (yielded ops a.tmps) then o.wpIn (FW ro) 0 E.P a w next Q else (∀ f, o.about E.P w a.eval = some f → (FW ro).fn f) ∧ next (a.put o.dst undef) w := by
 unfold evOp at hev
 split at hev
 ·simp at hev
 ·rename_i hw
  rw [zOk h.tr hw]
  simp only [Option.some.injEq] at hev
  subst hev
  simp only [Bool.false_eq_true, if_false]
  refine ⟨fun _ _ => trivial, K _ _ ⟨m, R, .grow (Imm.le.refl m) (RLe.refl R) h.wr rfl (.refl w), ?_⟩⟩
  exact h.next hd (.grow (Imm.le.refl m) (RLe.refl R) h.wr rfl (.refl w)) z7j
 ·rename_i hw
  rw [zOk h.tr hw]
  simp only [if_true]
  refine ⟨fun _ _ => trivial, ?_⟩
  split at hev
  ·obtain ⟨q, hq, he⟩ := Option.map_eq_some_iff.1 hev
   subst he
   exact zOB hrec h.wr h.tr (x := q.1) (fs' := q.2.1) (lp' := q.2.2) hq ro fun v w' m' R' h1 h2 => K _ _ ⟨m', R', h1.bare, h.next hd h1 h2⟩
  split at hev
  ·obtain ⟨q, hq, he⟩ := Option.map_eq_some_iff.1 hev
   subst he
   cases hop : o.op with
   | load T y =>
    rw [hop] at hq
    simp only [evFz] at hq
    obtain ⟨x, hx, hq⟩ := Option.bind_eq_some_iff.1 hq
    obtain ⟨r, hr, he⟩ := Option.map_eq_some_iff.1 hq
    subst he
    refine q_up hrec.pure hdep h.wr (fun y => zid h.wr h.tr y) (x := x) (by rw [hop]; exact hx) ro fun v w' m' h1 h2 h3 h4 => K _ _ ?_
    have hs : SC E n0 w0 L o.dst st.tm m R st.fs st.lp w m' R st.fs st.lp w' := .grow h1 (RLe.refl R) h2 rfl (.of_below h3)
    obtain ⟨m1, k1⟩ := zKn (t := o.dst) (tm := st.tm) h2 h4
    have hdv := z9k k1.wr (by rw [k1.lv]; exact h4.mono k1.mle (RLe.refl R) (LLe.refl _)) hr
    exact ⟨m1, R, (hs.trans k1).bare, h.next hd (hs.trans k1) (.d hdv)⟩
   | _ => rw [hop] at hq; simp [evFz] at hq
  split at hev
  ·obtain ⟨x, hx, he⟩ := Option.map_eq_some_iff.1 hev
   subst he
   refine q_up hrec.pure hdep h.wr (fun y => zid h.wr h.tr y) hx ro fun v w' m' h1 h2 h3 h4 => K _ _ ?_
   have hs : SC E n0 w0 L o.dst st.tm m R st.fs st.lp w m' R st.fs st.lp w' := .grow h1 (RLe.refl R) h2 rfl (.of_below h3)
   exact ⟨m', R, hs.bare, h.next hd hs h4⟩
  ·split at hev
   ·obtain ⟨q, hq, he⟩ := Option.map_eq_some_iff.1 hev
    subst he
    refine l_up hrec h.wr h.tr (x := q.1) (fs' := q.2.1) (lp' := q.2.2) hq ro fun v w' m' R' h1 h2 => K _ _ ⟨m', R', h1.bare, h.next hd h1 h2⟩
   ·simp at hev
theorem zdu {rec : Rec} (hrec : zPk E rec) (hdep : 30 ≤ E.P.depth) {fid : Nat} {ops : Array Oper} {Q : Exit → Act → World → Prop} : ∀ (os : List Oper) (k : Nat) (m : Imm) (R : RM) (st st' : St) (a : Act) (w : World), ops.toList.drop k = os → At E n0 w0 L B N ro m R st a w → (∀ o, o ∈ os → ∀ d, o.dst = some d → d < N) → zdn E rec fid ops os st = some st' →
  (∀ a' w', zJl E n0 w0 L B N ro m R st w st' a' w' → Q .normal a' w') → wpOpsIn (FW ro) 0 E.P ops Q (List.range' k os.length) a w
 | [], k, m, R, st, st', a, w, hdr, h, hd, hev, K => by
  simp only [zdn, Option.some.injEq] at hev
  subst hev
  exact K a w (.refl h)
 | o :: os, k, m, R, st, st', a, w, hdr, h, hd, hev, K => by
  simp only [zdn] at hev
  obtain ⟨st1, h1, h2⟩ := Option.bind_eq_some_iff.1 hev
  have hk : ops[k]? = some o := by
   rw [← Array.getElem?_toList]
   have : (ops.toList.drop k)[0]? = some o := by rw [hdr]; rfl
   rw [List.getElem?_drop] at this
   simpa using this
  rw [List.length_cons, List.range'_succ]
  simp only [wpOpsIn, hk]
  refine zXu hrec hdep h (hd o (by simp)) h1 fun a' w' hr => ?_
  obtain ⟨m1, R1, s1, s2⟩ := hr
  refine zdu hrec hdep os (k + 1) m1 R1 st1 st' a' w' ?_ s2 (fun o ho => hd o (by simp [ho])) h2 fun a2 w2 hr2 => K a2 w2 ?_
  ·rw [← List.drop_drop, hdr]; rfl
  ·obtain ⟨m2, R2, t1, t2⟩ := hr2
   exact ⟨m2, R2, s1.trans t1, t2⟩
end
end Go.AM
set_option linter.unusedSimpArgs false
set_option linter.unusedVariables false
namespace Go.AM
open Go Go.RowKit
def Off (l0 s0 : Nat) (φ φ' : Get) : Prop := ∀ l s, ¬ (l = l0 ∧ s = s0) → φ l s = φ' l s
section
variable {P : Program} {l0 s0 : Nat} {φ φ' : Get}
theorem zzi {l s : Nat} (h : (decide (l = l0) && [s0].contains s) = false) : ¬ (l = l0 ∧ s = s0) := by
 rintro ⟨rfl, rfl⟩
 simp at h
theorem zTy (h : Off l0 s0 φ φ') (T : TypeId) {p : X} (hp : X.refs l0 [s0] p = false) : ldX P φ T p = ldX P φ' T p := by
 unfold ldX
 cases tyT P T with
 | none => rfl
 | some q =>
  cases p with
  | ptr l s o => simp only [h l s (zzi (by simpa [X.refs] using hp))]
  | rp l s n i o => simp only [h l s (zzi (by simpa [X.refs] using hp))]
  | d y => cases y <;> rfl
  | _ => rfl
theorem zzu (h : Off l0 s0 φ φ') {l s : Nat} (hp : (decide (l = l0) && [s0].contains s) = false) (k : Nat) : live φ l s k = live φ' l s k := by
 unfold live
 rw [h l s (zzi hp)]
theorem zjz (h : Off l0 s0 φ φ') (T : TypeId) {p : X} (hp : X.refs l0 [s0] p = false) (f : Nat) : faX P φ T p f = faX P φ' T p f := by
 unfold faX
 cases fdT P T f with
 | none => rfl
 | some q =>
  cases p with
  | rp l s n i o => simp only [zzu h (show (decide (l = l0) && [s0].contains s) = false by simpa [X.refs] using hp)]
  | d y => cases y <;> rfl
  | _ => rfl
theorem z4y (h : Off l0 s0 φ φ') (T : TypeId) {p : X} (hp : X.refs l0 [s0] p = false) (i : X) : iaX P φ T p i = iaX P φ' T p i := by
 unfold iaX
 cases intX i with
 | none => rfl
 | some n =>
  cases arT P T with
  | some q =>
   cases p with
   | rp l s n i o => simp only [zzu h (show (decide (l = l0) && [s0].contains s) = false by simpa [X.refs] using hp)]
   | d y => cases y <;> rfl
   | _ => rfl
  | none =>
   cases slT P T with
   | none => rfl
   | some q =>
    cases p with
    | row l s n => simp only [h l s (zzi (by simpa [X.refs] using hp))]
    | d y => cases y <;> rfl
    | _ => rfl
theorem z7r (h : Off l0 s0 φ φ') {p : X} (hp : X.refs l0 [s0] p = false) : toD φ p = toD φ' p := by
 unfold toD
 cases p with
 | row l s n => simp only [h l s (zzi (by simpa [X.refs] using hp))]
 | d y => cases y <;> rfl
 | _ => rfl
theorem zBt (h : Off l0 s0 φ φ') : ∀ {xs : List X}, X.refsL l0 [s0] xs = false → toDs φ xs = toDs φ' xs
 | [], _ => rfl
 | x :: xs, hp => by
  simp only [X.refsL, Bool.or_eq_false_iff] at hp
  simp only [toDs, z7r h hp.1, zBt h hp.2]
theorem z2x (h : Off l0 s0 φ φ') {p : X} (hp : X.refs l0 [s0] p = false) : toDA φ p = toDA φ' p := by
 unfold toDA
 cases p with
 | agg cs => simp only [zBt h (show X.refsL l0 [s0] cs = false by simpa [X.refs] using hp)]
 | _ => exact z7r h hp
theorem zRs (h : Off l0 s0 φ φ') : ∀ {xs : List X}, (∀ x, x ∈ xs → X.refs l0 [s0] x = false) → zkb φ xs = zkb φ' xs
 | [], _ => rfl
 | x :: xs, hp => by
  have ih := zRs h (xs := xs) fun y hy => hp y (by simp [hy])
  simp only [zkb, z2x h (hp x (by simp)), ih]
theorem zRv (h : Off l0 s0 φ φ') {p : X} (hp : X.refs l0 [s0] p = false) : z6c φ p = z6c φ' p := by
 unfold z6c
 cases p with
 | row l s n => simp only [h l s (zzi (by simpa [X.refs] using hp))]
 | d y => cases y <;> rfl
 | _ => rfl
theorem zpy (h : Off l0 s0 φ φ') (T : TypeId) (s : X) {p : X} (hp : X.refs l0 [s0] p = false) : appQ P φ T s p = appQ P φ' T s p := by
 unfold appQ
 rw [zRv h hp]
theorem zSx (h : Off l0 s0 φ φ') (T : TypeId) {p : X} (hp : X.refs l0 [s0] p = false) : lenX P φ T p = lenX P φ' T p := by
 unfold lenX
 cases P.underlying T with
 | none => cases p <;> rfl
 | some t =>
  cases p with
  | row l s n =>
   have e : zeh φ l s n = zeh φ' l s n := by simp only [zeh, h l s (zzi (by simpa [X.refs] using hp))]
   cases t <;> first | rfl | simp only [e]
  | map l s =>
   have e := h l s (zzi (by simpa [X.refs] using hp))
   cases t <;> first | rfl | simp only [e]
  | d y => cases t <;> cases y <;> rfl
  | _ => cases t <;> rfl
theorem z9w (h : Off l0 s0 φ φ') (T : TypeId) {p : X} (hp : X.refs l0 [s0] p = false) (k : X) (ok : Bool) : zSn P φ T p k ok = zSn P φ' T p k ok := by
 unfold zSn
 cases p with
 | map l s => simp only [h l s (zzi (by simpa [X.refs] using hp))]
 | d y => cases y <;> rfl
 | _ => rfl
theorem zcw (h : Off l0 s0 φ φ') (T : TypeId) (ρ : Operand → X) {p : X} (hp : X.refs l0 [s0] p = false) (lo hi mx : Option Operand) : z7b P φ T ρ p lo hi mx = z7b P φ' T ρ p lo hi mx := by
 unfold z7b
 cases optI ρ lo <;> cases optI ρ hi <;> cases optI ρ mx <;> first | rfl | skip
 cases P.underlying T with
 | none => cases p <;> rfl
 | some t =>
  cases p with
  | row l s n =>
   have e := z7r h hp
   cases t <;> first | rfl | simp only [e]
  | d y => cases t <;> cases y <;> rfl
  | _ => cases t <;> rfl
theorem zVl {l0 : Nat} {ss : List Nat} : ∀ {xs : List X}, X.refsL l0 ss xs = false → ∀ x, x ∈ xs → X.refs l0 ss x = false
 | [], _, x, h => by simp at h
 | y :: t, h, x, hx => by
  simp only [X.refsL, Bool.or_eq_false_iff] at h
  simp only [List.mem_cons] at hx
  rcases hx with rfl | hx
  ·exact h.1
  ·exact zVl h.2 x hx
theorem zPr {l0 : Nat} {ss : List Nat} (a : List D) (x : X) (h : x ∈ a.map .d) : X.refs l0 ss x = false := by
 obtain ⟨d, _, rfl⟩ := List.mem_map.1 h
 rfl
theorem zmz {E : Env} {cp : Nat → List D → Option D} (h : Off l0 s0 φ φ') {ρ : Operand → X} (op : Op) (hp : ∀ a, a ∈ op.operands → X.refs l0 [s0] (ρ a) = false) : evQ E cp ρ φ op = evQ E cp ρ φ' op := by
 cases op <;> simp only [evQ]
 case load T a => exact zTy h T (hp a (by simp [Op.operands]))
 case fieldAddr T a f => exact zjz h T (hp a (by simp [Op.operands])) f
 case indexAddr T a i => exact z4y h T (hp a (by simp [Op.operands])) _
 case slice T a lo hi mx => exact zcw h T ρ (hp a (by simp [Op.operands])) lo hi mx
 case lookup T a k ok => exact z9w h T (hp a (by simp [Op.operands])) _ ok
 case call c =>
  have hargs : ∀ x, x ∈ c.args.toList.map ρ → X.refs l0 [s0] x = false := by
   intro x hx
   obtain ⟨a, ha, rfl⟩ := List.mem_map.1 hx
   exact hp a (by simp [Op.operands, Call.operands, Array.mem_toList_iff.1 ha])
  split
  ·rename_i b hb
   split
   ·rename_i T ts y ys h1 h2
    exact zSx h T (hargs y (by rw [h2]; simp))
   ·rename_i T U ts s y h1 h2
    split
    ·exact zpy h T s (hargs y (by rw [h2]; simp))
    ·rfl
   ·rfl
   ·rfl
   ·rfl
  ·rename_i f hf
   split
   ·rename_i q hq
    have hf' := hp f (by simp [Op.operands, Call.operands, hf])
    have : zkb φ (q.2.1 ++ c.args.toList.map ρ ++ q.2.2) = zkb φ' (q.2.1 ++ c.args.toList.map ρ ++ q.2.2) := by
     refine zRs h fun x hx => ?_
     unfold zX at hq
     simp only [List.mem_append] at hx
     split at hq
     ·simp only [Option.some.injEq] at hq
      subst hq
      rcases hx with (hx | hx) | hx
      ·exact zPr _ x hx
      ·exact hargs x hx
      ·exact zPr _ x hx
     ·rename_i f' a b hfv
      simp only [Option.some.injEq] at hq
      subst hq
      rw [hfv] at hf'
      simp only [X.refs, Bool.or_eq_false_iff] at hf'
      rcases hx with (hx | hx) | hx
      ·exact zVl hf'.1 x hx
      ·exact hargs x hx
      ·exact zVl hf'.2 x hx
     ·simp at hq
    rw [this]
   ·rfl
  ·rfl
end
def Same (s s' : St) : Prop := (∀ t, tget s.tm t = tget s'.tm t) ∧ s.fs = s'.fs ∧ s.lp = s'.lp
theorem Same.refl (s : St) : Same s s := ⟨fun _ => rfl, rfl, rfl⟩
theorem Same.symm {s s' : St} (h : Same s s') : Same s' s := ⟨fun t => (h.1 t).symm, h.2.1.symm, h.2.2.symm⟩
theorem Same.trans {a b c : St} (h : Same a b) (k : Same b c) : Same a c := ⟨fun t => (h.1 t).trans (k.1 t), h.2.1.trans k.2.1, h.2.2.trans k.2.2⟩
section
variable {E : Env} {rec : Rec}
theorem zol {tm tm' : TM} (h : ∀ t, tget tm t = tget tm' t) : evA E tm = evA E tm' := by
 funext o
 cases o <;> simp [evA, h]
theorem zKv {tm tm' : TM} (h : ∀ t, tget tm t = tget tm' t) (ops : Array Oper) (o : Oper) : zQh ops tm o = zQh ops tm' o := by
 unfold zQh
 split
 ·rfl
 ·split
  ·rfl
  ·rw [h]
theorem z3k {tm tm' : TM} (h : ∀ t, tget tm t = tget tm' t) (fs : FS) (lp : List LRec) (t : Option Nat) (s : Nat) (o : O) : zeb ⟨tm, fs, lp⟩ t s o = zeb ⟨tm', fs, lp⟩ t s o := by
 have key : ∀ (tm : TM), (tm.all fun p => t == some p.1 || !X.refs fs.lv [s] (tget tm p.1)) = true ↔ ∀ k, t = some k ∨ X.refs fs.lv [s] (tget tm k) = false := by
  intro tm
  simp only [List.all_eq_true, Bool.or_eq_true, beq_iff_eq, Bool.not_eq_true']
  constructor
  ·intro hh k
   cases hg : aget k tm with
   | none => right; simp [tget, hg, X.refs]
   | some x => exact hh _ (z8g hg)
  ·exact fun hh p _ => hh p.1
 have : (tm.all fun p => t == some p.1 || !X.refs fs.lv [s] (tget tm p.1)) = (tm'.all fun p => t == some p.1 || !X.refs fs.lv [s] (tget tm' p.1)) := by
  rw [Bool.eq_iff_iff, key, key]
  simp only [h]
 simp only [zeb, this]
theorem zWq {tm tm' : TM} (h : ∀ t, tget tm t = tget tm' t) (lp : List LRec) (d : Nat) : ∀ (l : List (Nat × Nat)) (fs0 fs : FS) (cs : List X), zyj ⟨tm, fs0, lp⟩ d fs cs l = zyj ⟨tm', fs0, lp⟩ d fs cs l
 | [], fs0, fs, cs => rfl
 | p :: l, fs0, fs, cs => by
  simp only [zyj, z3k h, zWq h lp d l]
theorem zzt {tm tm' : TM} (h : ∀ t, tget tm t = tget tm' t) (fs0 fs : FS) (lp : List LRec) (d : Nat) : zIe ⟨tm, fs0, lp⟩ fs d = zIe ⟨tm', fs0, lp⟩ fs d := by
 funext r
 simp only [zIe, z3k h]
theorem zoy {tm tm' : TM} (h : ∀ t, tget tm t = tget tm' t) (fs : FS) (lp : List LRec) (hh : Hint) (t : Option Nat) (op : Op) : evL E rec hh ⟨tm, fs, lp⟩ t op = evL E rec hh ⟨tm', fs, lp⟩ t op := by
 simp only [evL, zol h, z3k h, zWq h, zzt h]
theorem z4d {tm tm' : TM} (h : ∀ t, tget tm t = tget tm' t) (d : Option Nat) (x : X) (t : Nat) : tget (tput tm d x) t = tget (tput tm' d x) t := by
 rw [zgi, zgi, h]
theorem zpx {s s' : St} (h : Same s s') {fid : Nat} {ops : Array Oper} {sp : Bool} {o : Oper} {s1 : St} (he : evOp E rec fid ops sp s o = some s1) : ∃ s1', evOp E rec fid ops sp s' o = some s1' ∧ Same s1 s1' := by
 obtain ⟨tm, fs, lp⟩ := s
 obtain ⟨tm', fs', lp'⟩ := s'
 obtain ⟨h1, h2, h3⟩ := h
 simp only at h1 h2 h3
 subst h2; subst h3
 unfold evOp at he ⊢
 simp only [← zKv h1, ← zol (E := E) h1, ← zoy h1] at he ⊢
 split at he
 ·simp at he
 ·simp only [Option.some.injEq] at he
  subst he
  exact ⟨_, rfl, z4d h1 _ _, rfl, rfl⟩
 ·split at he
  ·rename_i had
   obtain ⟨q, hq', he⟩ := Option.map_eq_some_iff.1 he
   subst he
   refine ⟨⟨tput tm' o.dst q.1, q.2.1, q.2.2⟩, ?_, z4d h1 _ _, rfl, rfl⟩
   rw [if_pos had, hq']
   rfl
  rename_i had
  split at he
  ·rename_i hfz
   obtain ⟨q, hq', he⟩ := Option.map_eq_some_iff.1 he
   subst he
   refine ⟨⟨tput tm' o.dst q.1, q.2.1, q.2.2⟩, ?_, z4d h1 _ _, rfl, rfl⟩
   rw [if_neg had, if_pos hfz, hq']
   rfl
  rename_i hfz
  split at he
  ·rename_i hq
   obtain ⟨x, hx, he⟩ := Option.map_eq_some_iff.1 he
   subst he
   refine ⟨⟨tput tm' o.dst x, fs, lp⟩, ?_, z4d h1 _ _, rfl, rfl⟩
   rw [if_neg had, if_neg hfz, if_pos hq, hx]
   rfl
  ·rename_i hq
   split at he
   ·rename_i hsp
    obtain ⟨q, hq', he⟩ := Option.map_eq_some_iff.1 he
    subst he
    refine ⟨⟨tput tm' o.dst q.1, q.2.1, q.2.2⟩, ?_, z4d h1 _ _, rfl, rfl⟩
    rw [if_neg had, if_neg hfz, if_neg hq, if_pos hsp, hq']
    rfl
   ·simp at he
theorem zlu {s s' : St} (h : Same s s') (ss : List Nat) (op : Op) : zci E s ss op = zci E s' ss op := by
 unfold zci
 rw [zol h.1, h.2.1]
theorem zQu {s s' : St} (h : Same s s') (hh : zub) (i : Nat) (op : Op) : zYe E hh i s op = zYe E hh i s' op := by
 unfold zYe
 split
 ·exact zlu h _ _
 ·rfl
theorem zYv {s s' : St} (h : Same s s') {dst : Option Nat} {sl : Nat} {T : TypeId} {a x : Operand} {s1 : St} (he : zvj E s dst sl T a x = some s1) : ∃ s1', zvj E s' dst sl T a x = some s1' ∧ Same s1 s1' := by
 obtain ⟨tm, fs, lp⟩ := s
 obtain ⟨tm', fs', lp'⟩ := s'
 obtain ⟨h1, h2, h3⟩ := h
 simp only at h1 h2 h3
 subst h2; subst h3
 unfold zvj at he ⊢
 rw [← zol (E := E) h1]
 simp only at he ⊢
 split at he
 ·split at he
  ·rename_i hc
   obtain ⟨f, hf, he⟩ := Option.map_eq_some_iff.1 he
   subst he
   refine ⟨⟨tput tm' dst (.d (.tup [])), f, lp⟩, ?_, z4d h1 _ _, rfl, rfl⟩
   rw [if_pos hc, hf]
   rfl
  ·simp at he
 ·simp at he
theorem zZv {s s' : St} (h : Same s s') {sl : Nat} {T : TypeId} {a x : Operand} {s1 : St} (he : zJk E s sl T a x = some s1) : ∃ s1', zJk E s' sl T a x = some s1' ∧ Same s1 s1' := by
 obtain ⟨tm, fs, lp⟩ := s
 obtain ⟨tm', fs', lp'⟩ := s'
 obtain ⟨h1, h2, h3⟩ := h
 simp only at h1 h2 h3
 subst h2; subst h3
 unfold zJk at he ⊢
 rw [← zol (E := E) h1]
 simp only at he ⊢
 split at he
 ·rename_i q es c ss xs c' g1 g2 g3 g4 g5
  split at he
  ·rename_i hc
   simp only [Option.some.injEq] at he
   subst he
   exact ⟨_, if_pos hc, fun t => z4d h1 (some sl) (X.row fs.lv sl es.length) t, rfl, rfl⟩
  ·simp at he
 ·simp at he
theorem zds {s s' : St} (h : Same s s') : evA E s.tm = evA E s'.tm := by
 funext a
 cases a with
 | tmp t => exact h.1 t
 | _ => rfl
theorem zpw {s s' : St} (h : Same s s') (k : Nat) (op : Op) : zPe E s k op = zPe E s' k op := by
 unfold zPe; rw [zds h, h.2.1]
theorem zTu {s s' : St} (h : Same s s') (op : Op) : zqg E s op = zqg E s' op := by
 unfold zqg; rw [zds h]
theorem zOq {s s' : St} (h : Same s s') {o : Oper} {s1 : St} (he : zhf E rec s o = some s1) : ∃ s1', zhf E rec s' o = some s1' ∧ Same s1 s1' := by
 unfold zhf at he ⊢
 obtain ⟨r, hr, he⟩ := Option.map_eq_some_iff.1 he
 subst he
 have e : zFd E rec s' o.op = zFd E rec s o.op := by unfold zFd; rw [zds h, h.2.1, h.2.2]
 rw [e, hr]
 exact ⟨_, rfl, fun t => z4d h.1 _ _ t, rfl, h.2.2⟩
theorem zDv {s s' : St} (h : Same s s') {fid : Nat} {ops : Array Oper} {hh : zub} {i : Nat} {o : Oper} {s1 : St} (he : zCb E rec fid ops hh i s o = some s1) : ∃ s1', zCb E rec fid ops hh i s' o = some s1' ∧ Same s1 s1' := by
 unfold zCb at he ⊢
 rw [← zQu h]
 split at he
 ·simp at he
 ·rename_i hf
  rw [if_neg hf]
  split at he
  ·rename_i q hq
   split at he
   ·rename_i hg
    simp only [Option.some.injEq] at he
    subst he
    rw [if_pos hg]
    refine ⟨⟨tput s'.tm (some q.1) (.ptr s'.fs.lv q.1 0), s'.fs, s'.lp⟩, rfl, fun t => ?_, h.2.1, h.2.2⟩
    show tget (tput s.tm (some q.1) (.ptr s.fs.lv q.1 0)) t = tget (tput s'.tm (some q.1) (.ptr s'.fs.lv q.1 0)) t
    rw [h.2.1]
    exact z4d h.1 _ _ t
   ·simp at he
  ·split at he
   ·rw [← zTu h, ← zpw h]
    split at he
    ·rename_i hw
     rw [if_pos hw]
     split at he
     ·rename_i hg
      rw [if_pos hg]
      exact zOq h he
     ·simp at he
    rename_i hw
    rw [if_neg hw]
    split at he
    ·rename_i ht
     rw [if_pos ht]
     split at he
     ·rename_i hg
      rw [if_pos hg]
      exact zOq h he
     ·simp at he
    rename_i ht
    rw [if_neg ht]
    split at he
    ·split at he
     ·rename_i hg
      rw [if_pos hg]
      exact zYv h he
     ·simp at he
    ·split at he
     ·split at he
      ·rename_i hg
       rw [if_pos hg]
       exact zZv h he
      ·simp at he
     ·split at he
      ·split at he
       ·rename_i q hq hg
        rw [if_pos hg]
        obtain ⟨r, hr, he⟩ := Option.map_eq_some_iff.1 he
        subst he
        rw [← h.1, ← h.1, ← h.2.1, hr]
        exact ⟨_, rfl, fun t => z4d h.1 _ _ t, rfl, h.2.2⟩
       ·simp at he
      ·simp at he
   ·exact zpx h he
end
end Go.AM
set_option linter.unusedSimpArgs false
set_option linter.unusedVariables false
namespace Go.AM
open Go Go.RowKit
section
variable {E : Env} {rec : Rec}
theorem zoo {ρ ρ' : Operand → X} {a : Option Operand} (h : ∀ x, a = some x → ρ x = ρ' x) : optI ρ a = optI ρ' a := by
 cases a with
 | none => rfl
 | some a => simp only [optI, h a rfl]
theorem zbq {cp : Nat → List D → Option D} {ρ ρ' : Operand → X} (φ : Get) (op : Op) (h : ∀ a, a ∈ op.operands → ρ a = ρ' a) : evQ E cp ρ φ op = evQ E cp ρ' φ op := by
 have pairs : ∀ ps : Array (Nat × Operand), (∀ a, a ∈ (ps.toList.map (·.2)).toArray → ρ a = ρ' a) → (ps.toList.map fun p => (p.1, ρ p.2)) = ps.toList.map fun p => (p.1, ρ' p.2) := fun ps hp =>
  List.map_congr_left fun p hm => by
   simp only [hp p.2 (by simp only [List.mem_toArray]; exact List.mem_map_of_mem hm)]
 have maps : ∀ as : Array Operand, (∀ a, a ∈ as → ρ a = ρ' a) → as.toList.map ρ = as.toList.map ρ' := fun as ha => List.map_congr_left fun a hm => ha a (Array.mem_toList_iff.1 hm)
 cases op <;> simp only [Op.operands] at h <;> simp only [evQ]
 case build T ps => rw [pairs ps h]
 case buildSlice T n ps => rw [pairs ps h]
 case makeFunc fn a b => rw [maps a fun x hx => h x (by simp [hx]), maps b fun x hx => h x (by simp [hx])]
 case slice T x lo hi mx =>
  unfold z7b
  rw [h x (by simp), zoo (a := lo) fun y hy => h y (by simp [hy]), zoo (a := hi) fun y hy => h y (by simp [hy]), zoo (a := mx) fun y hy => h y (by simp [hy])]
 case call c =>
  have hargs := maps c.args fun x hx => h x (by simp [Call.operands, hx])
  rw [hargs]
  cases hc : c.callee with
  | value f => simp only [h f (by simp [Call.operands, hc])]
  | invoke r m => rfl
  | builtin b => rfl
 all_goals (first | rfl | (simp_all; done))
theorem z5n {ops : Array Oper} {o : Oper} {t : Nat} (h : .tmp t ∈ o.op.operands) : t ∈ zsb ops o := by
 unfold zsb
 exact List.mem_append_right _ (List.mem_filterMap.2 ⟨.tmp t, Array.mem_toList_iff.2 h, rfl⟩)
theorem zrb {ops : Array Oper} {o : Oper} {tm tm' : TM} (h : ∀ t, t ∈ zsb ops o → tget tm t = tget tm' t) (a : Operand) (ha : a ∈ o.op.operands) : evA E tm a = evA E tm' a := by
 cases a with
 | tmp t => exact h t (z5n ha)
 | _ => rfl
theorem zIp {ops : Array Oper} {o : Oper} {tm tm' : TM} (h : ∀ t, t ∈ zsb ops o → tget tm t = tget tm' t) : zQh ops tm o = zQh ops tm' o := by
 unfold zQh
 split
 ·rfl
 ·rename_i g hg
  split
  ·rfl
  ·rename_i t ht
   rw [h t (by unfold zsb; simp [hg, ht])]
theorem z5s {ops : Array Oper} {o : Oper} {s s' : St} (h : ∀ t, t ∈ zsb ops o → tget s.tm t = tget s'.tm t) (hl : s.fs.lv = s'.fs.lv) (ss : List Nat) : zci E s ss o.op = zci E s' ss o.op := by
 unfold zci
 rw [hl]
 have : ∀ (as : List Operand), (∀ a, a ∈ as → a ∈ o.op.operands) → (as.any fun a => X.refs s'.fs.lv ss (evA E s.tm a)) = as.any fun a => X.refs s'.fs.lv ss (evA E s'.tm a) := by
  intro as
  induction as with
  | nil => intro _; rfl
  | cons a as ih =>
   intro hh
   simp only [List.any_cons, zrb (E := E) h a (hh a (by simp)), ih fun b hb => hh b (by simp [hb])]
 exact this _ fun a ha => Array.mem_toList_iff.1 ha
theorem zxd {ops : Array Oper} {o : Oper} {s s' : St} (h : ∀ t, t ∈ zsb ops o → tget s.tm t = tget s'.tm t) (hl : s.fs.lv = s'.fs.lv) (hh : zub) (i : Nat) : zYe E hh i s o.op = zYe E hh i s' o.op := by
 unfold zYe
 split
 ·exact z5s h hl _
 ·rfl
def zfj (h : zub) (i s : Nat) : Bool := match aget i h.forb with
 | some ss => ss.contains s
 | none => false
theorem z6s {h : zub} {i s : Nat} (hk : zfj h i s = true) {st : St} {op : Op} (hf : zYe E h i st op = false) (a : Operand) (ha : a ∈ op.operands) : X.refs st.fs.lv [s] (evA E st.tm a) = false := by
 unfold zfj at hk
 unfold zYe at hf
 split at hk
 ·rename_i ss hss
  rw [hss] at hf
  simp only [zci, List.any_eq_false] at hf
  have h1 := hf a (Array.mem_toList_iff.2 ha)
  have gen : ∀ (n : Nat) (x : X), SizeOf.sizeOf x ≤ n → X.refs st.fs.lv ss x = false → X.refs st.fs.lv [s] x = false := by
   intro n
   induction n with
   | zero => intro x hx; cases x <;> simp at hx
   | succ n ih =>
    intro x hx h
    have lst : ∀ xs : List X, SizeOf.sizeOf xs ≤ n → X.refsL st.fs.lv ss xs = false → X.refsL st.fs.lv [s] xs = false := by
     intro xs
     induction xs with
     | nil => intro _ _; rfl
     | cons y ys ih2 =>
      intro hs hr
      simp only [X.refsL, Bool.or_eq_false_iff] at hr ⊢
      simp only [List.cons.sizeOf_spec] at hs
      exact ⟨ih y (by omega) hr.1, ih2 (by omega) hr.2⟩
    have slot : ∀ l s', (decide (l = st.fs.lv) && ss.contains s') = false → (decide (l = st.fs.lv) && [s].contains s') = false := by
     intro l s' e
     cases hd : decide (l = st.fs.lv) with
     | false => rfl
     | true =>
      rw [hd] at e
      simp only [Bool.true_and] at e ⊢
      simp only [List.contains_cons, List.contains_nil, Bool.or_false, beq_eq_false_iff_ne, ne_eq]
      rintro rfl
      rw [hk] at e
      simp at e
    cases x with
    | ptr l s' o => simp only [X.refs] at h ⊢; exact slot _ _ h
    | row l s' k => simp only [X.refs] at h ⊢; exact slot _ _ h
    | rp l s' k i o => simp only [X.refs] at h ⊢; exact slot _ _ h
    | map l s' => simp only [X.refs] at h ⊢; exact slot _ _ h
    | fn f a b =>
     simp only [X.refs, Bool.or_eq_false_iff] at h ⊢
     simp only [X.fn.sizeOf_spec] at hx
     exact ⟨lst a (by omega) h.1, lst b (by omega) h.2⟩
    | agg cs =>
     simp only [X.refs] at h ⊢
     simp only [X.agg.sizeOf_spec] at hx
     exact lst cs (by omega) h
    | tup cs =>
     simp only [X.refs] at h ⊢
     simp only [X.tup.sizeOf_spec] at hx
     exact lst cs (by omega) h
    | _ => rfl
  exact gen _ _ (Nat.le_refl _) (by simpa using h1)
 ·simp at hk
theorem zln {fid : Nat} {ops : Array Oper} {h : zub} {i : Nat} {o : Oper} (hs : aget i h.soft = none) (hsp : h.sp.contains i = false) {st st' : St} (he : zCb E rec fid ops h i st o = some st') :
  ∃ x, st' = ⟨tput st.tm o.dst x, st.fs, st.lp⟩ ∧ ∀ st2 : St, (∀ t, t ∈ zsb ops o → tget st.tm t = tget st2.tm t) → st.fs.lv = st2.fs.lv → (st.fs.get = st2.fs.get ∨ (∃ s, zfj h i s = true ∧ Off st.fs.lv s st.fs.get st2.fs.get) ∨ ∀ cp, evQ E cp (evA E st.tm) st2.fs.get o.op = evQ E cp (evA E st.tm) st.fs.get o.op) →
   zCb E rec fid ops h i st2 o = some ⟨tput st2.tm o.dst x, st2.fs, st2.lp⟩ := by
 unfold zCb at he
 split at he
 ·simp at he
 ·rename_i hf
  have hf : zYe E h i st o.op = false := by simpa using hf
  split at he
  ·rename_i q hq
   split at he
   ·rename_i hg
    simp only [Option.some.injEq] at he
    subst he
    have hd : o.dst = some q.1 := by
     unfold zwb at hq
     split at hq
     ·rename_i T d h1 h2
      simp only [Option.some.injEq] at hq
      subst hq
      exact h2
     ·simp at hq
    refine ⟨.ptr st.fs.lv q.1 0, by rw [hd], fun st2 h1 h2 _ => ?_⟩
    unfold zCb
    rw [← zxd h1 h2, hf]
    simp only [Bool.false_eq_true, if_false, hq]
    rw [if_pos hg, hd, h2]
   ·simp at he
  ·rename_i hq
   rw [hs] at he
   simp only [hsp] at he
   have key : ∀ st2 : St, (∀ t, t ∈ zsb ops o → tget st.tm t = tget st2.tm t) → st.fs.lv = st2.fs.lv → zCb E rec fid ops h i st2 o = evOp E rec fid ops false st2 o := by
    intro st2 h1 h2
    unfold zCb
    rw [← zxd h1 h2, hf]
    simp only [Bool.false_eq_true, if_false, hq, hs, hsp]
   unfold evOp at he
   split at he
   ·simp at he
   ·rename_i hw
    simp only [Option.some.injEq] at he
    subst he
    refine ⟨.d (.tup []), rfl, fun st2 h1 h2 _ => ?_⟩
    rw [key st2 h1 h2]
    unfold evOp
    rw [← zIp h1, hw]
   ·rename_i hw
    simp only [Bool.false_and, Bool.not_false, Bool.true_and, Bool.false_eq_true, if_false] at he
    split at he
    ·rename_i hqq
     obtain ⟨x, hx, he⟩ := Option.map_eq_some_iff.1 he
     subst he
     refine ⟨x, rfl, fun st2 h1 h2 h3 => ?_⟩
     rw [key st2 h1 h2]
     unfold evOp
     rw [← zIp h1, hw]
     simp only [Bool.false_and, Bool.not_false, Bool.true_and, Bool.false_eq_true, if_false]
     have eq : ∀ cp, evQ E cp (evA E st2.tm) st2.fs.get o.op = evQ E cp (evA E st.tm) st.fs.get o.op := by
      intro cp
      rw [← zbq (ρ := evA E st.tm) st2.fs.get o.op (fun a ha => zrb h1 a ha)]
      rcases h3 with h3 | ⟨s, hk, hoff⟩ | h3
      ·rw [← h3]
      ·rw [← zmz hoff o.op (fun a ha => z6s hk hf a ha)]
      ·exact h3 cp
     have hqq' : zKf E (evA E st2.tm) st2.fs.get o.op = true := by unfold zKf; rw [eq]; exact hqq
     rw [if_pos hqq', eq, hx]
     rfl
    ·simp at he
theorem z8h {α : Type} {k : Nat} (v : α) (p : Nat × α) (t : List (Nat × α)) (e : p.1 = k) : aset k v (p :: t) = (k, v) :: t := by simp [aset, e]
theorem zsd {α : Type} {k : Nat} (v : α) (p : Nat × α) (t : List (Nat × α)) (e : ¬ p.1 = k) : aset k v (p :: t) = p :: aset k v t := by simp [aset, e]
theorem zXs {α : Type} {k k' : Nat} (hne : k ≠ k') (v v' : α) : ∀ {l : List (Nat × α)}, (aget k l).isSome = true → (aget k' l).isSome = true → aset k v (aset k' v' l) = aset k' v' (aset k v l)
 | [], h, _ => by simp [aget] at h
 | p :: t, h, h' => by
  simp only [aget] at h h'
  by_cases e : p.1 = k
  ·have e' : ¬ p.1 = k' := fun q => hne (e.symm.trans q)
   rw [zsd v' p t e', z8h v p _ e, z8h v p t e, zsd v' (k, v) t (fun q => hne q)]
  ·by_cases e' : p.1 = k'
   ·rw [z8h v' p t e', zsd v p t e, z8h v' p _ e', zsd v (k', v') t (fun q => hne q.symm)]
   ·rw [if_neg e] at h
    rw [if_neg e'] at h'
    rw [zsd v' p t e', zsd v p _ e, zsd v p t e, zsd v' p _ e', zXs hne v v' h h']
theorem FS.set_top (fs : FS) (s : Nat) (o : O) : fs.set fs.lv s o = { fs with fr := aset s o fs.fr } := by simp [FS.set, FS.lv]
theorem FS.get_top (fs : FS) (s : Nat) : fs.get fs.lv s = aget s fs.fr := by simp [FS.get, FS.lv]
theorem FS.set_comm (fs : FS) {s s' : Nat} (hne : s ≠ s') (o o' : O) (h : (fs.get fs.lv s).isSome = true) (h' : (fs.get fs.lv s').isSome = true) : (fs.set fs.lv s o).set fs.lv s' o' = (fs.set fs.lv s' o').set fs.lv s o := by
 rw [FS.get_top] at h h'
 have e1 : ∀ (s : Nat) (o : O), (fs.set fs.lv s o).lv = fs.lv := fun s o => FS.lo_set ..
 have a1 := FS.set_top (fs.set fs.lv s o) s' o'
 have a2 := FS.set_top (fs.set fs.lv s' o') s o
 rw [e1] at a1 a2
 rw [a1, a2, FS.set_top, FS.set_top]
 simp only
 rw [zXs (Ne.symm hne) o' o h' h]
theorem zWu {α : Type} {k : Nat} {v : α} : ∀ {l : List (Nat × α)}, aget k l = some v → aset k v l = l
 | [], h => by simp [aget] at h
 | p :: t, h => by
  unfold aget at h
  unfold aset
  by_cases hp : p.1 = k
  ·simp only [hp, if_true, Option.some.injEq] at h ⊢
   subst h
   rw [← hp]
  ·simp only [hp, if_false] at h ⊢
   rw [zWu h]
theorem zdl {fs : FS} {s : Nat} {o : O} (h : fs.get fs.lv s = some o) : fs.set fs.lv s o = fs := by
 rw [FS.get_top] at h
 rw [FS.set_top, zWu h]
theorem z3q {α : Type} {k : Nat} {v v' : α} : ∀ {l : List (Nat × α)}, aset k v (aset k v' l) = aset k v l
 | [] => by simp [aset]
 | p :: t => by
  by_cases e : p.1 = k
  ·rw [z8h v' p t e, z8h v p t e, z8h v (k, v') t rfl]
  ·rw [zsd v' p t e, zsd v p t e, zsd v p _ e, z3q]
theorem zEs (fs : FS) (s : Nat) (o o' : O) : (fs.set fs.lv s o).set fs.lv s o' = fs.set fs.lv s o' := by
 have e1 : (fs.set fs.lv s o).lv = fs.lv := FS.lo_set ..
 have a1 := FS.set_top (fs.set fs.lv s o) s o'
 rw [e1] at a1
 rw [a1, FS.set_top, FS.set_top]
 simp only [z3q]
def zJy : O → O
 | .row z es true => .row z es false
 | o => o
theorem z5o {l s : Nat} {x : X} (hx : zKh l s x = true) (o : O) : ∃ o', ∀ fs : FS, fs.lv = l → fs.get l s = some o → lend fs x = fs.set l s o' := by
 cases x with
 | d y => exact ⟨o, fun fs hl h => by subst hl; simp only [lend]; exact (zdl h).symm⟩
 | row l' s' n =>
  simp only [zKh, Bool.and_eq_true, decide_eq_true_eq] at hx
  obtain ⟨rfl, rfl⟩ := hx
  refine ⟨zJy o, fun fs hl h => ?_⟩
  subst hl
  unfold lend zJy
  simp only [h]
  cases o with
  | row z es w => cases w <;> simp [zdl h]
  | _ => simp [zdl h]
 | _ => simp [zKh] at hx
theorem zAm {fs : FS} {s : Nat} {o o' : O} (h : fs.get fs.lv s = some o) : (fs.set fs.lv s o').get fs.lv s = some o' := by
 rw [FS.get_set _ _ _ _ (by rw [h]; rfl), if_pos ⟨rfl, rfl⟩]
theorem zut {l s : Nat} : ∀ {xs : List X}, xs.all (zKh l s) = true → ∀ o : O, ∃ o', ∀ fs : FS, fs.lv = l → fs.get l s = some o → xs.foldl lend fs = fs.set l s o'
 | [], _, o => ⟨o, fun fs hl h => by subst hl; exact (zdl h).symm⟩
 | x :: xs, hx, o => by
  simp only [List.all_cons, Bool.and_eq_true] at hx
  obtain ⟨o1, h1⟩ := z5o hx.1 o
  obtain ⟨o2, h2⟩ := zut hx.2 o1
  refine ⟨o2, fun fs hl h => ?_⟩
  have h1 := h1 fs hl h
  subst hl
  rw [List.foldl_cons, h1]
  have h2 := h2 (fs.set fs.lv s o1) (FS.lo_set ..) (zAm h)
  rw [h2, zEs]
theorem zQx {l s : Nat} {x : X} (hx : zcl l s x = true) (o : O) : ∃ o', ∀ fs : FS, fs.lv = l → fs.get l s = some o → z9 fs x = fs.set l s o' := by
 cases x with
 | agg cs => exact zut hx o
 | d y => exact z5o (x := .d y) hx o
 | row a b n => exact z5o (x := .row a b n) hx o
 | _ => simp [zcl, zKh] at hx
theorem zPs {l s : Nat} : ∀ {xs : List X}, xs.all (zcl l s) = true → ∀ o : O, ∃ o', ∀ fs : FS, fs.lv = l → fs.get l s = some o → xs.foldl z9 fs = fs.set l s o'
 | [], _, o => ⟨o, fun fs hl h => by subst hl; exact (zdl h).symm⟩
 | x :: xs, hx, o => by
  simp only [List.all_cons, Bool.and_eq_true] at hx
  obtain ⟨o1, h1⟩ := zQx hx.1 o
  obtain ⟨o2, h2⟩ := zPs hx.2 o1
  refine ⟨o2, fun fs hl h => ?_⟩
  have h1 := h1 fs hl h
  subst hl
  rw [List.foldl_cons, h1]
  have h2 := h2 (fs.set fs.lv s o1) (FS.lo_set ..) (zAm h)
  rw [h2, zEs]
theorem z2w {l s : Nat} {x : X} (hx : zKh l s x = true) {φ φ' : Get} (h : φ l s = φ' l s) : toD φ x = toD φ' x := by
 cases x with
 | row l' s' n =>
  simp only [zKh, Bool.and_eq_true, decide_eq_true_eq] at hx
  obtain ⟨rfl, rfl⟩ := hx
  simp only [toD, h]
 | _ => rfl
theorem z7u {l s : Nat} {φ φ' : Get} (h : φ l s = φ' l s) : ∀ {xs : List X}, xs.all (zKh l s) = true → toDs φ xs = toDs φ' xs
 | [], _ => rfl
 | x :: xs, hx => by
  simp only [List.all_cons, Bool.and_eq_true] at hx
  simp only [toDs, z2w hx.1 h, z7u h hx.2]
theorem zuz {l s : Nat} {φ φ' : Get} (h : φ l s = φ' l s) {x : X} (hx : zcl l s x = true) : toDA φ x = toDA φ' x := by
 cases x with
 | agg cs => simp only [toDA, z7u h hx]
 | d y => rfl
 | row a b n => exact z2w (x := .row a b n) hx h
 | _ => simp [zcl, zKh] at hx
theorem zpt {l s : Nat} {φ φ' : Get} (h : φ l s = φ' l s) : ∀ {xs : List X}, xs.all (zcl l s) = true → zkb φ xs = zkb φ' xs
 | [], _ => rfl
 | x :: xs, hx => by
  simp only [List.all_cons, Bool.and_eq_true] at hx
  simp only [zkb, zuz h hx.1, zpt h hx.2]
theorem zon {ops : Array Oper} {o : Oper} {c : Call} (hop : o.op = .call c) {tm tm' : TM} (h : ∀ t, t ∈ zsb ops o → tget tm t = tget tm' t) : c.args.toList.map (evA E tm) = c.args.toList.map (evA E tm') :=
 List.map_congr_left fun a ha => zrb h a (by
  rw [hop]
  show a ∈ c.operands
  unfold Call.operands
  simp [Array.mem_toList_iff.1 ha])
theorem zgo {ops : Array Oper} {o : Oper} {c : Call} {f : Operand} (hop : o.op = .call c) (hc : c.callee = .value f) {tm tm' : TM} (h : ∀ t, t ∈ zsb ops o → tget tm t = tget tm' t) : evA E tm f = evA E tm' f :=
 zrb h f (by
  rw [hop]
  show f ∈ c.operands
  unfold Call.operands
  simp [hc])
theorem zRp {ops : Array Oper} {o : Oper} {s : Nat} {st st2 : St} (h1 : ∀ t, t ∈ zsb ops o → tget st.tm t = tget st2.tm t) (h2 : st.fs.lv = st2.fs.lv) (h4 : st.fs.get st.fs.lv s = st2.fs.get st2.fs.lv s) : zPe E st s o.op = zPe E st2 s o.op := by
 unfold zPe
 rw [h4, h2]
 cases hop : o.op with
 | store T a x => simp only; rw [zrb h1 a (by rw [hop]; simp [Op.operands])]
 | slice T x lo hi mx => simp only; rw [zrb h1 x (by rw [hop]; simp [Op.operands])]
 | mapUpdate T m k v => simp only; rw [zrb h1 m (by rw [hop]; simp [Op.operands]), zrb h1 v (by rw [hop]; simp [Op.operands])]
 | call c =>
  simp only
  rw [zon hop h1]
  cases hc : c.callee with
  | builtin b => cases b <;> rfl
  | value f => simp only; rw [zgo hop hc h1]
  | invoke r m => rfl
 | _ => rfl
theorem z3x {ops : Array Oper} {o : Oper} {s : Nat} {st : St} {x : X} {fs' : FS} (ht : zPe E st s o.op = true) (h : zFd E rec st o.op = some (x, fs')) :
  ∃ o', (st.fs.get st.fs.lv s).isSome = true ∧ fs' = st.fs.set st.fs.lv s o' ∧ ∀ st2 : St, (∀ t, t ∈ zsb ops o → tget st.tm t = tget st2.tm t) → st.fs.lv = st2.fs.lv → st.lp = st2.lp → st.fs.get st.fs.lv s = st2.fs.get st2.fs.lv s →
   zFd E rec st2 o.op = some (x, st2.fs.set st2.fs.lv s o') := by
 unfold zPe at ht
 rw [Bool.and_eq_true] at ht
 obtain ⟨hsome, ht⟩ := ht
 obtain ⟨ob, hob⟩ := Option.isSome_iff_exists.1 hsome
 unfold zFd at h ⊢
 cases hop : o.op with
 | store T a y =>
  rw [hop] at ht h
  simp only at ht h ⊢
  obtain ⟨f, hf, he⟩ := Option.map_eq_some_iff.1 h
  simp only [Prod.mk.injEq] at he
  obtain ⟨rfl, rfl⟩ := he
  cases ha : evA E st.tm a with
  | rp l s' k i off =>
   rw [ha] at ht hf
   simp only [Bool.and_eq_true, decide_eq_true_eq] at ht
   obtain ⟨rfl, rfl⟩ := ht
   unfold stX at hf
   split at hf
   ·rename_i n vs hn hv
    split at hf
    ·rename_i hlen
     simp only [hob] at hf
     split at hf
     ·rename_i z es hz
      simp only [Option.some.injEq] at hz
      subst hz
      split at hf
      ·rename_i hk
       obtain ⟨e, he1, hf⟩ := Option.bind_eq_some_iff.1 hf
       obtain ⟨ds, he2, hf⟩ := Option.bind_eq_some_iff.1 hf
       split at hf
       ·rename_i hle
        simp only [Option.some.injEq] at hf
        refine ⟨_, hsome, hf.symm, fun st2 h1 h2 h3 h4 => ?_⟩
        rw [← zrb (E := E) h1 a (by rw [hop]; simp [Op.operands]), ← zrb (E := E) h1 y (by rw [hop]; simp [Op.operands]), ha]
        unfold stX
        rw [hn, hv]
        simp only [hlen, if_true]
        rw [h2, ← h4, hob]
        simp only [hk, if_true, he1, he2, Option.bind_some, hle]
        rfl
       ·simp at hf
      ·simp at hf
     ·simp at hf
    ·simp at hf
   ·simp at hf
  | _ => rw [ha] at ht; simp at ht
 | mapUpdate T m k v =>
  rw [hop] at ht h
  simp only at ht h ⊢
  obtain ⟨f, hf, he⟩ := Option.map_eq_some_iff.1 h
  simp only [Prod.mk.injEq] at he
  obtain ⟨rfl, rfl⟩ := he
  cases hm : evA E st.tm m with
  | map l s' =>
   cases hv : evA E st.tm v with
   | d vd =>
    rw [hm, hv] at ht
    simp only [Bool.and_eq_true, decide_eq_true_eq] at ht
    obtain ⟨rfl, rfl⟩ := ht
    cases hk : evA E st.tm k with
    | d kd =>
     rw [hm, hv, hk] at hf
     cases hq : mpT E.P T with
     | none => simp [mupX, hq] at hf
     | some q =>
      simp only [mupX, hq, hob] at hf
      split at hf
      ·rename_i hko
       split at hf
       ·rename_i es hes
        simp only [Option.some.injEq] at hes
        subst hes
        obtain ⟨es', hes', hfe⟩ := Option.map_eq_some_iff.1 hf
        refine ⟨_, hsome, hfe.symm, fun st2 h1 h2 h3 h4 => ?_⟩
        rw [← zrb (E := E) h1 m (by rw [hop]; simp [Op.operands]), ← zrb (E := E) h1 k (by rw [hop]; simp [Op.operands]), ← zrb (E := E) h1 v (by rw [hop]; simp [Op.operands]), hm, hv, hk]
        simp only [mupX, hq, hko, if_true]
        rw [h2, ← h4, hob]
        simp only [hes', Option.map_some]
       ·simp at hf
      ·simp at hf
    | _ => rw [hm, hv, hk] at hf; simp [mupX] at hf
   | _ => rw [hm, hv] at ht; simp at ht
  | _ => rw [hm] at ht; simp at ht
 | slice T y lo hi mx =>
  rw [hop] at ht h
  simp only at ht h ⊢
  cases ha : evA E st.tm y with
  | row l s' n =>
   rw [ha] at ht h
   simp only [Bool.and_eq_true, decide_eq_true_eq] at ht
   obtain ⟨rfl, rfl⟩ := ht
   obtain ⟨o', ho'⟩ := z5o (l := st.fs.lv) (s := s') (x := .row st.fs.lv s' n) (by simp [zKh]) ob
   obtain ⟨r, hr, he⟩ := Option.map_eq_some_iff.1 h
   simp only [Prod.mk.injEq] at he
   obtain ⟨rfl, rfl⟩ := he
   refine ⟨o', hsome, ho' st.fs rfl hob, fun st2 h1 h2 h3 h4 => ?_⟩
   rw [← zrb (E := E) h1 y (by rw [hop]; simp [Op.operands]), ha]
   have hob2 : st2.fs.get st2.fs.lv s' = some ob := by rw [← h4]; exact hob
   have e2 := ho' st2.fs h2.symm (by rw [h2]; exact hob2)
   rw [e2, h2]
   have hcut : ∀ (ρ : Operand → X) (φ φ' : Get), φ st.fs.lv s' = φ' st.fs.lv s' → z7b E.P φ T ρ (.row st.fs.lv s' n) lo hi mx = z7b E.P φ' T ρ (.row st.fs.lv s' n) lo hi mx := by
    intro ρ φ φ' hφ
    have e : toD φ (.row st.fs.lv s' n) = toD φ' (.row st.fs.lv s' n) := by simp only [toD, hφ]
    unfold z7b
    cases optI ρ lo <;> cases optI ρ hi <;> cases optI ρ mx <;> try rfl
    cases E.P.underlying T with
    | none => rfl
    | some u => cases u <;> first | rfl | simp only [e]
   have hcong : ∀ φ : Get, z7b E.P φ T (evA E st2.tm) (evA E st2.tm y) lo hi mx = z7b E.P φ T (evA E st.tm) (evA E st.tm y) lo hi mx := by
    intro φ
    have := zbq (E := E) (cp := fun _ _ => none) (ρ := evA E st2.tm) (ρ' := evA E st.tm) φ o.op (fun a ha => (zrb h1 a ha).symm)
    rw [hop] at this
    exact this
   have hr2 := hcong (st2.fs.set st2.fs.lv s' o').get
   rw [← zrb (E := E) h1 y (by rw [hop]; simp [Op.operands]), ha] at hr2
   rw [← h2] at hr2 ⊢
   rw [hr2]
   have g1 : (st2.fs.set st.fs.lv s' o').get st.fs.lv s' = some o' := by rw [h2]; exact zAm hob2
   have g2 : (lend st.fs (.row st.fs.lv s' n)).get st.fs.lv s' = some o' := by rw [ho' st.fs rfl hob]; exact zAm hob
   rw [hcut (evA E st.tm) _ _ (g1.trans g2.symm), hr]
   rfl
  | _ => rw [ha] at ht; simp at ht
 | call c =>
  rw [hop] at ht h
  simp only at ht h ⊢
  cases hc : c.callee with
  | builtin b =>
   rw [hc] at ht h
   cases b <;> simp only at ht h ⊢ <;> try (simp at h; done)
   split at ht
   ·rename_i l s' n d hargs
    simp only [Bool.and_eq_true, decide_eq_true_eq] at ht
    obtain ⟨rfl, rfl⟩ := ht
    rw [hargs] at h
    split at h
    ·rename_i T U ts p q hTs hpq
     simp only [List.cons.injEq, and_true] at hpq
     obtain ⟨rfl, rfl⟩ := hpq
     split at h
     ·rename_i hTU
      have key : ∃ o', fs' = st.fs.set st.fs.lv s' o' ∧ ∀ fs2 : FS, fs2.get st.fs.lv s' = some ob → fs2.lv = st.fs.lv → appL E.P fs2 T (.row st.fs.lv s' n) (.d d) = some (x, fs2.set st.fs.lv s' o') := by
       unfold appL at h
       cases hq : okS E.P T with
       | none => rw [hq] at h; simp at h
       | some qq =>
       cases hx : z6c st.fs.get (.d d) with
       | none => rw [hq, hx] at h; simp at h
       | some xs =>
        have hx' : ∀ φ : Get, z6c φ (.d d) = some xs := fun φ => by
         rw [← hx]
         cases d <;> rfl
        rw [hq, hx] at h
        simp only at h
        split at h
        ·rename_i hlim
         rw [hob] at h
         cases ob with
         | row z es w =>
          simp only at h
          split at h
          ·rename_i hz
           simp only [Option.some.injEq, Prod.mk.injEq] at h
           obtain ⟨rfl, rfl⟩ := h
           refine ⟨_, rfl, fun fs2 g2 g1 => ?_⟩
           unfold appL
           rw [hq, hx' fs2.get]
           simp only [hlim, if_true, g2, hz, and_self]
          ·simp at h
         | nrow =>
          simp only at h
          split at h
          ·rename_i hn
           split at h
           ·rename_i he
            simp only [Option.some.injEq, Prod.mk.injEq] at h
            obtain ⟨rfl, rfl⟩ := h
            refine ⟨.nrow, (zdl hob).symm, fun fs2 g2 g1 => ?_⟩
            unfold appL
            rw [hq, hx' fs2.get]
            simp only
            rw [if_pos hlim, g2]
            simp only [hn, he, if_true]
            rw [← g1] at g2 ⊢
            rw [zdl g2]
           ·rename_i he
            simp only [Option.some.injEq, Prod.mk.injEq] at h
            obtain ⟨rfl, rfl⟩ := h
            refine ⟨_, rfl, fun fs2 g2 g1 => ?_⟩
            unfold appL
            rw [hq, hx' fs2.get]
            simp only
            rw [if_pos hlim, g2]
            simp only [hn, if_true]
            rw [if_neg he]
          ·simp at h
         | _ => simp at h
        ·simp at h
      obtain ⟨o', k1, k2⟩ := key
      refine ⟨o', hsome, k1, fun st2 g1 g2 g3 g4 => ?_⟩
      rw [← zon hop g1, hargs, hTs]
      simp only [hTU, if_true]
      rw [hTU] at k2
      rw [k2 st2.fs (by rw [g2, ← g4]; exact hob) g2.symm, ← g2]
     ·simp at h
    ·simp at h
   ·simp at ht
  | value f =>
   rw [hc] at ht h
   simp only at ht h ⊢
   cases hq : zX (evA E st.tm f) with
   | none => rw [hq] at ht; simp at ht
   | some q =>
    rw [hq] at ht h
    simp only at ht h
    obtain ⟨o', ho'⟩ := zPs ht ob
    obtain ⟨ds, hds, h⟩ := Option.bind_eq_some_iff.1 h
    obtain ⟨r, hr, he⟩ := Option.map_eq_some_iff.1 h
    simp only [Prod.mk.injEq] at he
    obtain ⟨rfl, rfl⟩ := he
    refine ⟨o', hsome, ho' st.fs rfl hob, fun st2 h1 h2 h3 h4 => ?_⟩
    rw [← zgo hop hc h1, hq, ← zon hop h1]
    simp only
    have hob2 : st2.fs.get st2.fs.lv s = some ob := by rw [← h4]; exact hob
    have e2 := ho' st2.fs h2.symm (by rw [h2]; exact hob2)
    rw [e2, h2]
    rw [ho' st.fs rfl hob] at hds
    have g1 : (st2.fs.set st2.fs.lv s o').get st2.fs.lv s = some o' := zAm hob2
    have g2 : (st.fs.set st.fs.lv s o').get st.fs.lv s = some o' := zAm hob
    rw [zpt (l := st.fs.lv) (s := s) (φ' := (st.fs.set st.fs.lv s o').get) (by rw [g2, h2, g1]) ht, hds]
    simp only [Option.bind_some, hr, Option.map_some]
  | invoke r m => rw [hc] at h; simp at h
 | _ => rw [hop] at h; simp at h
theorem zkq {fid : Nat} {ops : Array Oper} {h : zub} {i s : Nat} {o : Oper} (hs : aget i h.soft = some s) (hwd : wide s o.op = false) {st st' : St} (he : zCb E rec fid ops h i st o = some st') :
  (zwb o).isSome = true ∨ ∃ o' x', (st.fs.get st.fs.lv s).isSome = true ∧ st' = ⟨tput st.tm o.dst x', st.fs.set st.fs.lv s o', st.lp⟩ ∧ ∀ st2 : St, (∀ t, t ∈ zsb ops o → tget st.tm t = tget st2.tm t) → st.fs.lv = st2.fs.lv → st.lp = st2.lp → st.fs.get st.fs.lv s = st2.fs.get st.fs.lv s →
   zCb E rec fid ops h i st2 o = some ⟨tput st2.tm o.dst x', st2.fs.set st2.fs.lv s o', st2.lp⟩ := by
 unfold zCb at he
 split at he
 ·simp at he
 ·rename_i hf
  have hf : zYe E h i st o.op = false := by simpa using hf
  split at he
  ·rename_i q hq
   exact .inl (by rw [hq]; rfl)
  ·rename_i hq
   right
   rw [hs] at he
   simp only at he
   have hwa : z6j s = false := by
    cases hb : z6j s with
    | false => rfl
    | true => simp [wide, hb] at hwd
   have hne : zDf o.op = none := by
    cases hb : zDf o.op with
    | none => rfl
    | some q => simp [wide, hb] at hwd
   simp only [hwa, Bool.false_eq_true, if_false] at he
   cases htn0 : (zPe E st s o.op && (rowD h i o).isNone) with
   | true =>
    have htn : zPe E st s o.op = true := (Bool.and_eq_true_iff.1 htn0).1
    have hrd : (rowD h i o).isNone = true := (Bool.and_eq_true_iff.1 htn0).2
    simp only [htn0, if_true] at he
    split at he
    ·rename_i hg
     unfold zhf at he
     obtain ⟨⟨x, fs'⟩, hx, he⟩ := Option.map_eq_some_iff.1 he
     subst he
     obtain ⟨o', k1, k2, k3⟩ := z3x (ops := ops) htn hx
     subst k2
     refine ⟨o', x, k1, rfl, fun st2 h1 h2 h3 h4 => ?_⟩
     have h4' : st.fs.get st.fs.lv s = st2.fs.get st2.fs.lv s := by rw [h4, h2]
     unfold zCb
     rw [← zxd h1 h2, hf]
     simp only [Bool.false_eq_true, if_false, hq, hs, hwa]
     rw [← zRp h1 h2 h4', htn, hrd]
     simp only [Bool.and_self, if_true, hg, zhf]
     rw [k3 st2 h1 h2 h3 h4']
     rfl
    ·simp at he
   | false =>
   simp only [htn0, Bool.false_eq_true, if_false] at he
   have htn2 : ∀ st2 : St, (∀ t, t ∈ zsb ops o → tget st.tm t = tget st2.tm t) → st.fs.lv = st2.fs.lv → st.fs.get st.fs.lv s = st2.fs.get st.fs.lv s → (zPe E st2 s o.op && (rowD h i o).isNone) = false := fun st2 h1 h2 h4 => by
    rw [← zRp h1 h2 (by rw [h4, h2]), htn0]
   split at he
   ·rename_i q hst
    split at he
    ·rename_i hg
     have hops : ∀ a, a = q.2.1 ∨ a = q.2.2 → a ∈ o.op.operands := by
      unfold zSk at hst
      split at hst
      ·rename_i T a x hop
       simp only [Option.some.injEq] at hst
       subst hst
       intro b hb
       rw [hop]
       rcases hb with rfl | rfl <;> simp [Op.operands]
      ·simp at hst
     unfold zvj at he
     split at he
     ·rename_i l s' off hp
      split at he
      ·rename_i hc
       obtain ⟨rfl, rfl⟩ := hc
       obtain ⟨f, hf1, he⟩ := Option.map_eq_some_iff.1 he
       subst he
       have hstx := hf1
       unfold stX at hf1
       split at hf1
       ·rename_i n vs hn hv
        split at hf1
        ·rename_i hlen
         simp only at hf1
         split at hf1
         ·rename_i cs hcs
          split at hf1
          ·rename_i hok
           simp only [Option.some.injEq] at hf1
           subst hf1
           refine ⟨.cells (zdc cs off vs), .d (.tup []), by rw [hcs]; rfl, rfl, fun st2 h1 h2 h3 h4 => ?_⟩
           have a1 := zrb (E := E) h1 q.2.1 (hops _ (.inl rfl))
           have a2 := zrb (E := E) h1 q.2.2 (hops _ (.inr rfl))
           unfold zCb
           rw [← zxd h1 h2, hf]
           simp only [Bool.false_eq_true, if_false, hq, hs, hst, hwa, htn2 st2 h1 h2 (by rw [h4])]
           rw [if_pos hg]
           unfold zvj
           rw [← a1, ← a2, hp]
           simp only [h2, and_self, if_true]
           have : stX E.P st2.lp st2.fs q.1 (.ptr st2.fs.lv s' off) (evA E st.tm q.2.2) = some (st2.fs.set st2.fs.lv s' (.cells (zdc cs off vs))) := by
            unfold stX
            rw [hn, hv]
            simp only [hlen, if_true]
            rw [← h2, ← h4, hcs]
            simp only
            rw [← h3, if_pos hok]
           rw [this]
           rfl
          ·simp at hf1
         ·simp at hf1
        ·simp at hf1
       ·simp at hf1
      ·simp at he
     ·simp at he
    ·simp at he
   ·rename_i hst
    split at he
    ·rename_i q hap
     split at he
     ·rename_i hg
      have hops : ∀ a, a = q.2.1 ∨ a = q.2.2 → a ∈ o.op.operands := by
       unfold zgg at hap
       split at hap
       ·rename_i c hop
        split at hap
        ·split at hap
         ·rename_i T U ts a x hTs hxs
          split at hap
          ·simp only [Option.some.injEq] at hap
           subst hap
           intro b hb
           have : b ∈ c.args := by
            rw [← Array.mem_toList_iff, hxs]
            rcases hb with rfl | rfl <;> simp
           rw [hop]
           show b ∈ c.operands
           unfold Call.operands
           simp [this]
          ·simp at hap
         ·simp at hap
        ·simp at hap
       ·simp at hap
      unfold zJk at he
      split at he
      ·rename_i p es c ss xs c' g1 g2 g3 g4 g5
       split at he
       ·rename_i hc
        simp only [Option.some.injEq] at he
        subst he
        refine ⟨.row p.1 es true, .row st.fs.lv s es.length, by rw [g5]; rfl, by rw [hg.2], fun st2 h1 h2 h3 h4 => ?_⟩
        have a1 := zrb (E := E) h1 q.2.1 (hops _ (.inl rfl))
        have a2 := zrb (E := E) h1 q.2.2 (hops _ (.inr rfl))
        unfold zCb
        rw [← zxd h1 h2, hf]
        simp only [Bool.false_eq_true, if_false, hq, hs, hst, hap, hwa, htn2 st2 h1 h2 (by rw [h4])]
        rw [if_pos hg]
        unfold zJk
        have hQ : appQ E.P st2.fs.get q.1 (evA E st2.tm q.2.1) (evA E st2.tm q.2.2) = some (.d (.sl es c)) := by
         rw [← a1, ← a2, g3, g4]
         rw [g3, g4] at g2
         exact g2
        rw [g1, hQ, ← a1, ← a2, g3, g4, ← h2, ← h4, g5]
        simp only
        rw [if_pos hc, hg.2]
       ·simp at he
      ·simp at he
     ·simp at he
    ·rw [hne] at he; simp at he
theorem zCt {k : D} {l : Leaf} (h : isK l k = true) : eqD k k = some true := by
 cases l <;> cases k <;> simp [isK] at h
 ·simp [eqD]
 ·simp [eqD]
 ·simp only [eqD, beq_toListBytes]; simp
theorem zcu {l : Leaf} : ∀ {cs : List D}, cs.all (isK l) = true → eqL cs cs = some true
 | [], _ => by simp [eqL]
 | c :: cs, h => by
  simp only [List.all_cons, Bool.and_eq_true] at h
  simp only [eqL, zCt h.1, zcu h.2, Bool.and_self]
theorem zyx {P : Program} {T : TypeId} {k : D} (h : zne P T k = true) : eqD k k = some true := by
 unfold zne at h
 split at h
 ·rename_i l cs hl
  simp only [Bool.and_eq_true] at h
  simp only [eqD]
  exact zcu h.2
 ·rename_i l d hl hn
  simp only [Bool.and_eq_true] at h
  exact zCt h.2
 ·simp at h
theorem zYt {k z : D} (hk : eqD k k = some true) : ∀ {es es' : List (D × D)} {v : D} {n : Nat}, entD k z es = some (es', v, n) → ((zfg k es').map fun r => r.getD z) = (zfg k es).map fun r => r.getD z
 | [], es', v, n, h => by
  simp only [entD, Option.some.injEq, Prod.mk.injEq] at h
  obtain ⟨rfl, rfl, rfl⟩ := h
  simp [zfg, hk]
 | p :: t, es', v, n, h => by
  simp only [entD] at h
  cases e : eqD k p.1 with
  | none => rw [e] at h; simp at h
  | some b =>
   rw [e] at h
   cases b with
   | true =>
    simp only [Option.some.injEq, Prod.mk.injEq] at h
    obtain ⟨rfl, rfl, rfl⟩ := h
    rfl
   | false =>
    obtain ⟨⟨r1, r2, r3⟩, h0, h1⟩ := Option.map_eq_some_iff.1 h
    simp only [Prod.mk.injEq] at h1
    obtain ⟨rfl, rfl, rfl⟩ := h1
    simp only [zfg, e]
    exact zYt hk h0
theorem zZy {q : TypeId × Nat × Nat} {op : Op} (ho : zIt q op = true) {tm : TM} {fs fs' : FS} {x : X} (hm : zoh E.P fs q.1 (tget tm q.2.1) (tget tm q.2.2) = some (x, fs')) (cp : Nat → List D → Option D) : evQ E cp (evA E tm) fs'.get op = evQ E cp (evA E tm) fs.get op := by
 unfold zIt at ho
 split at ho
 ·rename_i T m k
  simp only [Bool.and_eq_true, beq_iff_eq] at ho
  obtain ⟨⟨rfl, rfl⟩, rfl⟩ := ho
  simp only [evQ, evA]
  unfold zoh at hm
  split at hm
  ·rename_i p l s kd hp hm1 hk1
   split at hm
   ·rename_i hko
    split at hm
    ·rename_i z es hz hes
     obtain ⟨⟨es', v, n⟩, he, hx⟩ := Option.map_eq_some_iff.1 hm
     simp only [Prod.mk.injEq] at hx
     obtain ⟨rfl, rfl⟩ := hx
     rw [hm1, hk1]
     have hg : (fs.set l s (.map es')).get l s = some (.map es') := by
      rw [FS.get_set _ _ _ _ (by rw [hes]; rfl), if_pos ⟨rfl, rfl⟩]
     have hf := zYt (zyx hko) he
     unfold zSn
     simp only [hp, hko, if_true, hz, hg, hes, Bool.false_eq_true, if_false]
     cases e1 : zfg kd es' with
     | none =>
      rw [e1] at hf
      cases e2 : zfg kd es with
      | none => rfl
      | some r => rw [e2] at hf; simp at hf
     | some r' =>
      rw [e1] at hf
      cases e2 : zfg kd es with
      | none => rw [e2] at hf; simp at hf
      | some r =>
       rw [e2] at hf
       simp only [Option.map_some, Option.some.injEq] at hf
       simp only [Option.map_some, hf]
    ·simp at hm
   ·simp at hm
  ·simp at hm
 ·rfl
 ·simp at ho
theorem ztz {fid : Nat} {ops : Array Oper} {h : zub} {i s : Nat} {o : Oper} {q : TypeId × Nat × Nat} (hs : aget i h.soft = some s) (hq : zDf o.op = some q) {st st' : St} (he : zCb E rec fid ops h i st o = some st') :
  ∃ x fs', zoh E.P st.fs q.1 (tget st.tm q.2.1) (tget st.tm q.2.2) = some (x, fs') ∧ st' = ⟨tput st.tm o.dst x, fs', st.lp⟩ ∧ q.2.1 ∈ zsb ops o ∧ q.2.2 ∈ zsb ops o ∧ fs'.lv = st.fs.lv ∧
   ∀ st2 : St, (∀ t, t ∈ zsb ops o → tget st.tm t = tget st2.tm t) → st.fs = st2.fs → zCb E rec fid ops h i st2 o = some ⟨tput st2.tm o.dst x, fs', st2.lp⟩ := by
 have hop : o.op = .mapEntry q.1 (.tmp q.2.1) (.tmp q.2.2) := by
  unfold zDf at hq
  split at hq
  ·rename_i T m k hop
   simp only [Option.some.injEq] at hq
   subst hq
   exact hop
  ·simp at hq
 have hal : zwb o = none := by
  unfold zwb
  rw [hop]
 have hst : zSk o.op = none := by rw [hop]; rfl
 have hap : zgg o.op = none := by rw [hop]; rfl
 have hr1 : q.2.1 ∈ zsb ops o := z5n (by rw [hop]; simp [Op.operands])
 have hr2 : q.2.2 ∈ zsb ops o := z5n (by rw [hop]; simp [Op.operands])
 unfold zCb at he
 split at he
 ·simp at he
 ·rename_i hf
  have hf : zYe E h i st o.op = false := by simpa using hf
  rw [hal] at he
  have hwa : z6j s = false := by
   cases hb : z6j s with
   | false => rfl
   | true => simp [hs, hb, zqg, hop] at he
  have htn : ∀ st2 : St, zPe E st2 s o.op = false := fun st2 => by simp [zPe, hop]
  simp only [hs, hst, hap, hq, hwa, htn, Bool.false_and, Bool.false_eq_true, if_false] at he
  split at he
  ·rename_i hg
   obtain ⟨⟨x, fs'⟩, hm, he⟩ := Option.map_eq_some_iff.1 he
   subst he
   have hlv : fs'.lv = st.fs.lv := by
    unfold zoh at hm
    split at hm
    ·split at hm
     ·split at hm
      ·obtain ⟨r, _, hx⟩ := Option.map_eq_some_iff.1 hm
       simp only [Prod.mk.injEq] at hx
       rw [← hx.2]
       exact FS.lo_set ..
      ·simp at hm
     ·simp at hm
    ·simp at hm
   refine ⟨x, fs', hm, rfl, hr1, hr2, hlv, fun st2 h1 h2 => ?_⟩
   unfold zCb
   rw [← zxd h1 (by rw [h2]), hf]
   simp only [Bool.false_eq_true, Bool.false_and, if_false, hal, hs, hst, hap, hq, hwa, htn]
   rw [if_pos hg, ← h1 _ hr1, ← h1 _ hr2, ← h2, hm]
   rfl
  ·simp at he
theorem zBx {st : St} {o : Oper} {x : X} {fs' : FS} (h : zFd E rec st o.op = some (x, fs')) : evL E rec Hint.nil st o.dst o.op = some (x, fs', st.lp) := by
 unfold zFd at h
 cases hop : o.op with
 | store T a y =>
  rw [hop] at h
  simp only at h
  obtain ⟨f, hf, he⟩ := Option.map_eq_some_iff.1 h
  simp only [Prod.mk.injEq] at he
  obtain ⟨rfl, rfl⟩ := he
  have : zPn Hint.nil a (evA E st.tm y) = false := by
   unfold zPn
   split
   ·simp [Hint.nil]
   ·rfl
  have k : zjl Hint.nil a = false := by
   unfold zjl
   split
   ·simp [Hint.nil]
   ·rfl
  simp only [evL, this, k, Bool.false_eq_true, if_false, hf]
  rfl
 | mapUpdate T m k v =>
  rw [hop] at h
  simp only at h
  obtain ⟨f, hf, he⟩ := Option.map_eq_some_iff.1 h
  simp only [Prod.mk.injEq] at he
  obtain ⟨rfl, rfl⟩ := he
  cases hv : evA E st.tm v with
  | d vd =>
   rw [hv] at hf
   simp only [evL, hv, z9, lend, toDA, toD, hf]
   rfl
  | _ => rw [hv] at hf; unfold mupX at hf; split at hf <;> simp_all
 | slice T y lo hi mx =>
  rw [hop] at h
  simp only at h
  obtain ⟨r, hr, he⟩ := Option.map_eq_some_iff.1 h
  simp only [Prod.mk.injEq] at he
  obtain ⟨rfl, rfl⟩ := he
  simp only [evL, hr]
  rfl
 | call c =>
  rw [hop] at h
  simp only at h
  cases hc : c.callee with
  | builtin b =>
   rw [hc] at h
   cases b <;> simp only at h <;> try (simp at h; done)
   split at h
   ·rename_i T U ts s y hTs hsy
    split at h
    ·rename_i hTU
     simp only [evL, hc, hTs, hsy, hTU, if_true]
     rw [hTU] at h
     cases s with
     | row l s n => simp only [h, Option.map_some]
     | _ =>
      unfold appL at h
      split at h
      ·split at h <;> simp_all
      ·simp at h
    ·simp at h
   ·simp at h
  | value f =>
   rw [hc] at h
   simp only at h
   cases hq : zX (evA E st.tm f) with
   | none => rw [hq] at h; simp at h
   | some q =>
    rw [hq] at h
    simp only at h
    obtain ⟨ds, hds, h⟩ := Option.bind_eq_some_iff.1 h
    obtain ⟨r, hr, he⟩ := Option.map_eq_some_iff.1 h
    simp only [Prod.mk.injEq] at he
    obtain ⟨rfl, rfl⟩ := he
    simp only [evL, hc]
    have hb : ∀ d, zMh Hint.nil d = false := fun d => by simp [zMh, Hint.nil]
    have hs : ∀ d, Hint.nil.rowSites.contains d = false := fun d => by simp [Hint.nil]
    generalize hfv : evA E st.tm f = fv at hq
    cases fv with
    | yld k => simp [zX] at hq
    | _ =>
     simp only [hq, hds]
     cases o.dst with
     | none => simp only [hr, Option.map_some]
     | some d => simp only [hs, hb, Bool.false_eq_true, if_false, hr, Option.map_some]
  | invoke r m => rw [hc] at h; simp at h
 | _ => rw [hop] at h; simp at h
theorem zEu {fid : Nat} {ops : Array Oper} {h : zub} {i s : Nat} {o : Oper} (hs : aget i h.soft = some s) (hw : wide s o.op = true) {st st' : St} (he : zCb E rec fid ops h i st o = some st') :
  ∃ x fs', st' = ⟨tput st.tm o.dst x, fs', st.lp⟩ ∧ fs'.lv = st.fs.lv ∧ (∀ op', zai o.op op' = true → ∀ tm2 : TM, (∀ t, t ∈ zsb ops o → tget st.tm t = tget tm2 t) → ∀ cp, evQ E cp (evA E tm2) fs'.get op' = evQ E cp (evA E tm2) st.fs.get op') ∧
   ∀ st2 : St, (∀ t, t ∈ zsb ops o → tget st.tm t = tget st2.tm t) → st.fs = st2.fs → st.lp = st2.lp → zCb E rec fid ops h i st2 o = some ⟨tput st2.tm o.dst x, fs', st2.lp⟩ := by
 cases hq : zDf o.op with
 | some q =>
  obtain ⟨x, fs', b1, b2, b3, b4, b5, b6⟩ := ztz hs hq he
  refine ⟨x, fs', b2, b5, fun op' hop' tm2 h2 cp => ?_, fun st2 h1 h2 _ => b6 st2 h1 h2⟩
  simp only [zai, hq] at hop'
  rw [h2 _ b3, h2 _ b4] at b1
  exact zZy hop' b1 cp
 | none =>
  have hwa : z6j s = true := by simpa [wide, hq] using hw
  unfold zCb at he
  split at he
  ·simp at he
  ·rename_i hf
   have hf : zYe E h i st o.op = false := by simpa using hf
   have blindly : ∀ op', zai o.op op' = true → ∀ (cp : Nat → List D → Option D) (ρ : Operand → X) (φ φ' : Get), evQ E cp ρ φ op' = evQ E cp ρ φ' op' := by
    intro op' hop' cp ρ φ φ'
    simp only [zai, hq] at hop'
    unfold zBy at hop'
    split at hop'
    ·rfl
    ·rfl
    ·simp at hop'
   split at he
   ·rename_i q hq2
    split at he
    ·rename_i hg
     simp only [Option.some.injEq] at he
     subst he
     have hd : o.dst = some q.1 := by
      unfold zwb at hq2
      split at hq2
      ·rename_i T d h1 h2
       simp only [Option.some.injEq] at hq2
       subst hq2
       exact h2
      ·simp at hq2
     refine ⟨.ptr st.fs.lv q.1 0, st.fs, by rw [hd], rfl, fun op' hop' tm2 _ cp => rfl, fun st2 h1 h2 h3 => ?_⟩
     unfold zCb
     rw [← zxd h1 (by rw [h2]), hf]
     simp only [Bool.false_eq_true, if_false, hq2]
     rw [if_pos hg, hd, h2]
    ·simp at he
   ·rename_i hq2
    rw [hs] at he
    simp only [hwa, if_true] at he
    split at he
    ·rename_i hg
     have hg0 := hg
     rw [Bool.and_eq_true] at hg
     obtain ⟨hg1, hg2⟩ := hg
     unfold zhf at he
     obtain ⟨⟨x, fs'⟩, hx, he⟩ := Option.map_eq_some_iff.1 he
     subst he
     cases hop : o.op with
     | store T a y =>
      rw [hop] at hx hg2
      simp only [zFd] at hx
      obtain ⟨f, hfx, hx⟩ := Option.map_eq_some_iff.1 hx
      simp only [Prod.mk.injEq] at hx
      obtain ⟨rfl, rfl⟩ := hx
      have hlv : f.lv = st.fs.lv := by
       unfold zqg at hg2
       simp only at hg2
       cases ha : evA E st.tm a with
       | rp l s' k i2 off =>
        rw [ha] at hfx
        unfold stX at hfx
        split at hfx
        ·split at hfx
         ·simp only at hfx
          split at hfx
          ·split at hfx
           ·obtain ⟨e, _, hfx⟩ := Option.bind_eq_some_iff.1 hfx
            obtain ⟨ds, _, hfx⟩ := Option.bind_eq_some_iff.1 hfx
            split at hfx
            ·simp only [Option.some.injEq] at hfx
             rw [← hfx]; exact FS.lo_set ..
            ·simp at hfx
           ·simp at hfx
          ·simp at hfx
         ·simp at hfx
        ·simp at hfx
       | _ => rw [ha] at hg2; simp at hg2
      refine ⟨.d (.tup []), f, rfl, hlv, fun op' hop' tm2 _ cp => blindly op' (by rw [hop]; exact hop') _ _ _ _, fun st2 h1 h2 h3 => ?_⟩
      have a1 := zrb (E := E) h1 a (by rw [hop]; simp [Op.operands])
      have a2 := zrb (E := E) h1 y (by rw [hop]; simp [Op.operands])
      unfold zCb
      rw [← zxd h1 (by rw [h2]), hf]
      simp only [Bool.false_eq_true, if_false, hq2, hs, hwa, if_true]
      have hg3 : zqg E st2 o.op = true := by
       rw [hop]
       unfold zqg at hg2 ⊢
       simp only at hg2 ⊢
       rw [← a1]; exact hg2
      rw [if_pos (by rw [hg1, hg3]; rfl)]
      simp only [zhf, zFd, hop]
      rw [← a1, ← a2, ← h2, ← h3, hfx]
      rfl
     | _ => rw [hop] at hg2; simp [zqg] at hg2
    ·simp at he
end
end Go.AM
set_option linter.unusedSimpArgs false
set_option linter.unusedVariables false
namespace Go.AM
open Go Go.RowKit
structure zAv (ops : Array Oper) (h : zub) (j : Nat) (oj : Oper) (i : Nat) (oi : Oper) : Prop where
 dd : ∀ d, oj.dst = some d → oi.dst ≠ some d
 ji : ∀ d, oj.dst = some d → d ∉ zsb ops oi
 ij : ∀ d, oi.dst = some d → d ∉ zsb ops oj
 spj : h.sp.contains j = false
 spi : h.sp.contains i = false
 softj : ∀ s, aget j h.soft = some s → wide s oj.op = false → zwb oj = none ∧ zfj h i s = true ∧ aget i h.soft ≠ some s
 softi : ∀ s, aget i h.soft = some s → wide s oi.op = false → zwb oi = none ∧ zfj h j s = true ∧ aget j h.soft ≠ some s
 entj : ∀ s, aget j h.soft = some s → wide s oj.op = true → zai oj.op oi.op = true ∧ aget i h.soft = none
 enti : ∀ s, aget i h.soft = some s → wide s oi.op = true → zai oi.op oj.op = true ∧ aget j h.soft = none
section
variable {E : Env} {rec : Rec} {fid : Nat} {ops : Array Oper} {h : zub}
theorem zxc {tm : TM} {d : Option Nat} {x : X} {l : List Nat} (hd : ∀ k, d = some k → k ∉ l) (t : Nat) (ht : t ∈ l) : tget (tput tm d x) t = tget tm t := by
 rw [zgi, if_neg]
 intro e
 exact hd t e ht
theorem zji {tm : TM} {d d' : Option Nat} {x x' : X} (hd : ∀ k, d = some k → d' ≠ some k) (t : Nat) : tget (tput (tput tm d x) d' x') t = tget (tput (tput tm d' x') d x) t := by
 simp only [zgi]
 by_cases e : d = some t
 ·simp [e, hd t e]
 ·simp [e]
theorem zav (fs : FS) (s : Nat) (o : O) (hs : (fs.get fs.lv s).isSome = true) : Off fs.lv s fs.get (fs.set fs.lv s o).get := fun l s' e => by rw [FS.get_set _ _ _ _ hs, if_neg e]
theorem Off.symm {l s : Nat} {φ φ' : Get} (h : Off l s φ φ') : Off l s φ' φ := fun a b e => (h a b e).symm
theorem zBm (fs : FS) (l s : Nat) (o : O) : (fs.set l s o).lv = fs.lv := FS.lo_set ..
theorem zSs {ops : Array Oper} {o : Oper} {tm tm' : TM} (h : ∀ t, t ∈ zsb ops o → tget tm t = tget tm' t) (cp : Nat → List D → Option D) (φ : Get) : evQ E cp (evA E tm) φ o.op = evQ E cp (evA E tm') φ o.op :=
 zbq (ρ := evA E tm) φ o.op (fun a ha => zrb h a ha)
theorem swap {j i : Nat} {oj oi : Oper} (ha : zAv ops h j oj i oi) {st s1 s2 : St} (h1 : zCb E rec fid ops h j st oj = some s1) (h2 : zCb E rec fid ops h i s1 oi = some s2) :
  ∃ s1' s2', zCb E rec fid ops h i st oi = some s1' ∧ zCb E rec fid ops h j s1' oj = some s2' ∧ Same s2 s2' := by
 cases hj : aget j h.soft with
 | none =>
  obtain ⟨xj, rfl, hjk⟩ := zln hj ha.spj h1
  cases hi : aget i h.soft with
  | none =>
   obtain ⟨xi, rfl, hik⟩ := zln hi ha.spi h2
   have e1 := hik st (fun t ht => zxc ha.ji t ht) rfl (.inl rfl)
   have e2 := hjk ⟨tput st.tm oi.dst xi, st.fs, st.lp⟩ (fun t ht => (zxc ha.ij t ht).symm) rfl (.inl rfl)
   exact ⟨_, _, e1, e2, fun t => zji ha.dd t, rfl, rfl⟩
  | some s =>
   cases hqi : wide s oi.op with
   | true =>
    obtain ⟨a1, _⟩ := ha.enti s hi hqi
    obtain ⟨x', fs', rfl, b4, b1, b5⟩ := zEu hi hqi h2
    have rd : ∀ t, t ∈ zsb ops oi → tget (tput st.tm oj.dst xj) t = tget st.tm t := fun t ht => zxc ha.ji t ht
    simp only at b1 b4
    have e1 := b5 st rd rfl rfl
    have e2 := hjk ⟨tput st.tm oi.dst x', fs', st.lp⟩ (fun t ht => (zxc ha.ij t ht).symm) b4.symm (.inr (.inr fun cp => b1 _ a1 _ rd cp))
    exact ⟨_, _, e1, e2, fun t => zji ha.dd t, rfl, rfl⟩
   | false =>
   obtain ⟨a1, a2, a3⟩ := ha.softi s hi hqi
   rcases zkq hi hqi h2 with hc | ⟨o', x', b1, rfl, b2⟩
   ·rw [a1] at hc; simp at hc
   ·have e1 := b2 st (fun t ht => zxc ha.ji t ht) rfl rfl rfl
    have e2 := hjk ⟨tput st.tm oi.dst x', st.fs.set st.fs.lv s o', st.lp⟩ (fun t ht => (zxc ha.ij t ht).symm) (zBm ..).symm (.inr (.inl ⟨s, a2, zav st.fs s o' b1⟩))
    exact ⟨_, _, e1, e2, fun t => zji ha.dd t, rfl, rfl⟩
 | some s =>
  cases hqj : wide s oj.op with
  | true =>
   obtain ⟨a1, hi⟩ := ha.entj s hj hqj
   obtain ⟨x', fs', rfl, b4, b1, b5⟩ := zEu hj hqj h1
   obtain ⟨xi, rfl, hik⟩ := zln hi ha.spi h2
   have e1 := hik st (fun t ht => zxc ha.ji t ht) b4 (.inr (.inr fun cp => by
    have rd : ∀ t, t ∈ zsb ops oi → tget (tput st.tm oj.dst x') t = tget st.tm t := fun t ht => zxc ha.ji t ht
    show evQ E cp (evA E (tput st.tm oj.dst x')) st.fs.get oi.op = evQ E cp (evA E (tput st.tm oj.dst x')) fs'.get oi.op
    rw [zSs rd cp st.fs.get, zSs rd cp fs'.get]
    exact (b1 _ a1 st.tm (fun _ _ => rfl) cp).symm))
   have e2 := b5 ⟨tput st.tm oi.dst xi, st.fs, st.lp⟩ (fun t ht => (zxc ha.ij t ht).symm) rfl rfl
   exact ⟨_, _, e1, e2, fun t => zji ha.dd t, rfl, rfl⟩
  | false =>
  obtain ⟨a1, a2, a3⟩ := ha.softj s hj hqj
  rcases zkq hj hqj h1 with hc | ⟨o', x', b1, rfl, b2⟩
  ·rw [a1] at hc; simp at hc
  ·cases hi : aget i h.soft with
   | none =>
    obtain ⟨xi, rfl, hik⟩ := zln hi ha.spi h2
    have e1 := hik st (fun t ht => zxc ha.ji t ht) (zBm ..) (.inr (.inl ⟨s, a2, by
     have := (zav st.fs s o' b1).symm
     rw [zBm]
     exact this⟩))
    have e2 := b2 ⟨tput st.tm oi.dst xi, st.fs, st.lp⟩ (fun t ht => (zxc ha.ij t ht).symm) rfl rfl rfl
    exact ⟨_, _, e1, e2, fun t => zji ha.dd t, rfl, rfl⟩
   | some s' =>
    have hqi : wide s' oi.op = false := by
     cases hqi : wide s' oi.op with
     | false => rfl
     | true =>
      have := (ha.enti s' hi hqi).2
      rw [hj] at this
      cases this
    obtain ⟨c1, c2, c3⟩ := ha.softi s' hi hqi
    have hne : s ≠ s' := fun e => a3 (by rw [hi, e])
    rcases zkq hi hqi h2 with hc | ⟨o2, x2, d1, rfl, d2⟩
    ·rw [c1] at hc; simp at hc
    ·simp only at d1 d2
     rw [zBm] at d1 d2
     have g1 : ∀ s0, s0 ≠ s → (st.fs.set st.fs.lv s o').get st.fs.lv s0 = st.fs.get st.fs.lv s0 := fun s0 hs0 => by
      rw [FS.get_set _ _ _ _ b1, if_neg (fun e => hs0 e.2)]
     rw [g1 s' (Ne.symm hne)] at d1
     have e1 := d2 st (fun t ht => zxc ha.ji t ht) rfl rfl (g1 s' (Ne.symm hne))
     have e2 := b2 ⟨tput st.tm oi.dst x2, st.fs.set st.fs.lv s' o2, st.lp⟩ (fun t ht => (zxc ha.ij t ht).symm) (zBm ..).symm rfl (by
      show _ = (st.fs.set st.fs.lv s' o2).get (st.fs.lv) s
      rw [FS.get_set _ _ _ _ d1, if_neg (fun e => hne e.2)])
     refine ⟨_, _, e1, e2, fun t => zji ha.dd t, ?_, rfl⟩
     simp only [zBm]
     exact FS.set_comm st.fs hne o' o2 b1 d1
def zxg (E : Env) (rec : Rec) (fid : Nat) (ops : Array Oper) (h : zub) : List (Nat × Oper) → St → Option St
 | [], st => some st
 | p :: t, st => (zCb E rec fid ops h p.1 st p.2).bind (zxg E rec fid ops h t)
theorem zwr : ∀ (l : List (Nat × Oper)) {s s' s1 : St}, Same s s' → zxg E rec fid ops h l s = some s1 → ∃ s1', zxg E rec fid ops h l s' = some s1' ∧ Same s1 s1'
 | [], s, s', s1, hs, he => by
  simp only [zxg, Option.some.injEq] at he
  subst he
  exact ⟨s', rfl, hs⟩
 | p :: l, s, s', s1, hs, he => by
  simp only [zxg] at he ⊢
  obtain ⟨a, ha, hb⟩ := Option.bind_eq_some_iff.1 he
  obtain ⟨a', ha', hs'⟩ := zDv hs ha
  obtain ⟨b', hb', hs2⟩ := zwr l hs' hb
  exact ⟨b', by rw [ha']; exact hb', hs2⟩
theorem zPp {p : Nat × Oper} {post : List (Nat × Oper)} : ∀ (pre : List (Nat × Oper)) {s s1 : St}, (∀ q, q ∈ pre → zAv ops h q.1 q.2 p.1 p.2) → zxg E rec fid ops h (pre ++ p :: post) s = some s1 →
  ∃ a s1', zCb E rec fid ops h p.1 s p.2 = some a ∧ zxg E rec fid ops h (pre ++ post) a = some s1' ∧ Same s1 s1'
 | [], s, s1, _, he => by
  simp only [List.nil_append, zxg] at he
  obtain ⟨a, ha, hb⟩ := Option.bind_eq_some_iff.1 he
  exact ⟨a, s1, ha, hb, .refl s1⟩
 | q :: pre, s, s1, hq, he => by
  simp only [List.cons_append, zxg] at he
  obtain ⟨a, ha, hb⟩ := Option.bind_eq_some_iff.1 he
  obtain ⟨b, s2, hb1, hb2, hs⟩ := zPp pre (fun r hr => hq r (by simp [hr])) hb
  obtain ⟨c, d, hc, hd, hs2⟩ := swap (hq q (by simp)) ha hb1
  obtain ⟨s3, hs3, hs4⟩ := zwr (pre ++ post) hs2 hb2
  refine ⟨c, s3, hc, ?_, hs.trans hs4⟩
  simp only [List.cons_append, zxg, hd]
  exact hs3
def zsj (f : Nat → Nat) (es : List Edge) (s : Nat) : Nat := es.foldl (fun s e => if Region.binds .any e then s ||| 2 ^ e.on ||| f e.on else s) s
theorem zEp {f g : Nat → Nat} : ∀ (es : List Edge) (s : Nat), (∀ e, e ∈ es → Region.binds .any e = true → f e.on = g e.on) → zsj f es s = zsj g es s
 | [], s, _ => rfl
 | e :: es, s, h => by
  unfold zsj
  simp only [List.foldl_cons]
  have hs : (if Region.binds .any e then s ||| 2 ^ e.on ||| f e.on else s) = if Region.binds .any e then s ||| 2 ^ e.on ||| g e.on else s := by
   by_cases hb : Region.binds .any e = true
   ·rw [if_pos hb, if_pos hb, h e (by simp) hb]
   ·rw [if_neg hb, if_neg hb]
  rw [hs]
  exact zEp es _ fun e' h' => h e' (by simp [h'])
def zag (acc : Array Nat) (o : Oper) : Array Nat := acc.push (zsj (fun k => acc.getD k 0) o.after.toList 0)
theorem zVs (ops : Array Oper) : Region.before ops = ops.toList.foldl zag #[] := by
 unfold Region.before
 rw [← Array.foldl_toList]
 congr 1
 funext acc o
 unfold zag zsj
 rw [Array.foldl_toList]
theorem zTr : ∀ (l : List Oper) (acc : Array Nat), (l.foldl zag acc).size = acc.size + l.length
 | [], acc => by simp
 | o :: l, acc => by
  simp only [List.foldl_cons, zTr l, List.length_cons]
  simp [zag]
  omega
theorem zsn : ∀ (l : List Oper) (acc : Array Nat) (i : Nat), i < acc.size → (l.foldl zag acc).getD i 0 = acc.getD i 0
 | [], acc, i, _ => rfl
 | o :: l, acc, i, h => by
  simp only [List.foldl_cons]
  rw [zsn l _ i (by simp [zag]; omega)]
  rw [Array.getD_eq_getD_getElem?, Array.getD_eq_getD_getElem?, zag, Array.getElem?_push, if_neg (by omega)]
theorem zgu : ∀ (l : List Oper) (acc : Array Nat) (j : Nat) (o : Oper), l[j]? = some o → (∀ e, e ∈ o.after.toList → Region.binds .any e = true → e.on < acc.size + j) → (l.foldl zag acc).getD (acc.size + j) 0 = zsj (fun k => (l.foldl zag acc).getD k 0) o.after.toList 0
 | [], acc, j, o, h, _ => by simp at h
 | p :: l, acc, 0, o, h, he => by
  simp only [List.getElem?_cons_zero, Option.some.injEq] at h
  subst h
  simp only [List.foldl_cons, Nat.add_zero] at he ⊢
  rw [zsn l _ _ (by simp [zag])]
  have : (zag acc p).getD acc.size 0 = zsj (fun k => acc.getD k 0) p.after.toList 0 := by
   rw [Array.getD_eq_getD_getElem?, zag, Array.getElem?_push, if_pos rfl]
   rfl
  rw [this]
  exact zEp _ _ fun e hm hb => (zsn (p :: l) acc e.on (he e hm hb)).symm
 | p :: l, acc, j + 1, o, h, he => by
  simp only [List.foldl_cons]
  have hs : (zag acc p).size = acc.size + 1 := by simp [zag]
  have := zgu l (zag acc p) j o (by simpa using h) (fun e hm hb => by have := he e hm hb; omega)
  rw [hs] at this
  rw [show acc.size + (j + 1) = acc.size + 1 + j by omega]
  exact this
theorem zLu (ops : Array Oper) : (Region.before ops).size = ops.size := by
 rw [zVs, zTr]
 simp
theorem zvw {ops : Array Oper} (hok : ∀ (j : Nat) o, ops[j]? = some o → ∀ e, e ∈ o.after → Region.binds .any e = true → e.on < j) (j : Nat) (o : Oper) (hj : ops[j]? = some o) : (Region.before ops).getD j 0 = zsj (fun k => (Region.before ops).getD k 0) o.after.toList 0 := by
 rw [zVs]
 have := zgu ops.toList #[] j o (by simpa using hj) (fun e he hb => by simpa using hok j o hj e (Array.mem_toList_iff.1 he) hb)
 simpa using this
theorem zLt {ops : Array Oper} (hok : ∀ (j : Nat) o, ops[j]? = some o → ∀ e, e ∈ o.after → Region.binds .any e = true → e.on < j) {i j : Nat} {o : Oper} (hj : ops[j]? = some o) (h : zgc (Region.before ops) i j = true) : ∃ e, e ∈ o.after ∧ Region.binds .any e = true ∧ (e.on = i ∨ zgc (Region.before ops) i e.on = true) := by
 unfold zgc at h
 rw [zvw hok j o hj] at h
 unfold zgc
 have gen : ∀ (es : List Edge) (s : Nat), (zsj (fun k => (Region.before ops).getD k 0) es s).testBit i = true → s.testBit i = true ∨ ∃ e, e ∈ es ∧ Region.binds .any e = true ∧ (e.on = i ∨ ((Region.before ops).getD e.on 0).testBit i = true) := by
  intro es
  induction es with
  | nil => intro s h; exact .inl h
  | cons e es ih =>
   intro s h
   unfold zsj at h
   simp only [List.foldl_cons] at h
   rcases ih _ h with h | ⟨e', h1, h2⟩
   ·split at h
    ·rename_i hb
     rw [Nat.testBit_or, Nat.testBit_or, Bool.or_eq_true, Bool.or_eq_true, Nat.testBit_two_pow] at h
     rcases h with (h | h) | h
     ·exact .inl h
     ·exact .inr ⟨e, by simp, hb, .inl (by simpa using h)⟩
     ·exact .inr ⟨e, by simp, hb, .inr h⟩
    ·exact .inl h
   ·exact .inr ⟨e', by simp [h1], h2⟩
 rcases gen _ 0 h with h | ⟨e, h1, h2⟩
 ·simp at h
 ·exact ⟨e, Array.mem_toList_iff.1 h1, h2⟩
theorem zPz {ops : Array Oper} (hok : ∀ (j : Nat) o, ops[j]? = some o → ∀ e, e ∈ o.after → Region.binds .any e = true → e.on < j) : ∀ (j i : Nat), zgc (Region.before ops) i j = true → i < j := by
 intro j
 induction j using Nat.strongRecOn with
 | _ j ih =>
  intro i h
  cases hj : ops[j]? with
  | none =>
   exfalso
   have hb := zLu ops
   have : (Region.before ops).getD j 0 = 0 := by
    rw [Array.getD_eq_getD_getElem?, Array.getElem?_eq_none (by rw [hb]; exact Array.getElem?_eq_none_iff.1 hj)]
    rfl
   unfold zgc at h
   rw [this] at h
   simp at h
  | some o =>
   obtain ⟨e, h1, h2, h3⟩ := zLt hok hj h
   have hlt := hok j o hj e h1 h2
   rcases h3 with h3 | h3
   ·omega
   ·have := ih e.on hlt i h3
    omega
end
end Go.AM
set_option linter.unusedSimpArgs false
set_option linter.unusedVariables false
namespace Go.AM
open Go Go.RowKit
section
variable {E : Env} {m : Imm} {n0 : Nat} {w0 : Base} {R : RM} {L : LM} {B N : Nat} {ro : Option Nat} {w : World}
theorem At.same {st st' : St} {a : Act} (h : At E n0 w0 L B N ro m R st a w) (hs : Same st st') : At E n0 w0 L B N ro m R st' a w := by
 obtain ⟨tm, fs, lp⟩ := st
 obtain ⟨tm', fs', lp'⟩ := st'
 obtain ⟨h1, h2, h3⟩ := hs
 simp only at h1 h2 h3
 subst h2; subst h3
 exact { h with tr := fun t => by rw [← h1]; exact h.tr t }
structure Pend (E : Env) (h : zub) (R : RM) (fs : FS) (rest : List (Nat × Oper)) : Prop where
 al : ∀ p, p ∈ rest → ∀ q, zwb p.2 = some q → R fs.lo.length q.1 = none ∧ ∃ zs, zcT E.P q.2 = some zs ∧ fs.get fs.lo.length q.1 = some (.cells (zs.map .d))
 ap : rest.Pairwise fun p p' => ∀ q q', zwb p.2 = some q → zwb p'.2 = some q' → q.1 ≠ q'.1
 rl : ∀ p, p ∈ rest → ∀ s, rowD h p.1 p.2 = some s → R fs.lo.length s = none ∧ fs.get fs.lo.length s = some .nrow
 rp : rest.Pairwise fun p p' => ∀ s s', rowD h p.1 p.2 = some s → rowD h p'.1 p'.2 = some s' → s ≠ s'
theorem Pend.sub {h : zub} {fs : FS} {rest rest' : List (Nat × Oper)} (hp : Pend E h R fs rest) (hs : rest'.Sublist rest) : Pend E h R fs rest' :=
 ⟨fun p hq => hp.al p (hs.subset hq), hp.ap.sublist hs, fun p hq => hp.rl p (hs.subset hq), hp.rp.sublist hs⟩
theorem Pend.other {h : zub} {fs fs' : FS} {R' : RM} {rest : List (Nat × Oper)} (hp : Pend E h R fs rest) {s : Nat} (hl : fs'.lo.length = fs.lo.length) (hg : ∀ s', s' ≠ s → fs'.get fs.lo.length s' = fs.get fs.lo.length s') (hR : ∀ s', s' ≠ s → R' fs.lo.length s' = R fs.lo.length s')
  (h1 : ∀ p, p ∈ rest → ∀ q, zwb p.2 = some q → q.1 ≠ s) (h2 : ∀ p, p ∈ rest → ∀ s', rowD h p.1 p.2 = some s' → s' ≠ s) : Pend E h R' fs' rest := by
 refine ⟨fun p hq q e => ?_, hp.ap, fun p hq s' e => ?_, hp.rp⟩
 ·obtain ⟨a, zs, b, c⟩ := hp.al p hq q e
  have hn := h1 p hq q e
  rw [hl, hR _ hn]
  exact ⟨a, zs, b, by rw [hg _ hn]; exact c⟩
 ·obtain ⟨a, b⟩ := hp.rl p hq s' e
  have hn := h2 p hq s' e
  rw [hl, hR _ hn]
  exact ⟨a, by rw [hg _ hn]; exact b⟩
theorem zHu {α : Type} {P : α → α → Prop} {pre post : List α} {p : α} (h : (pre ++ p :: post).Pairwise P) {q : α} (hq : q ∈ pre ++ post) : P q p ∨ P p q := by
 rw [List.pairwise_append] at h
 obtain ⟨e1, e2, e3⟩ := h
 rcases List.mem_append.1 hq with hm | hm
 ·exact .inl (e3 q hm p (by simp))
 ·exact .inr ((List.pairwise_cons.1 e2).1 q hm)
theorem zZn : ∀ {rest : List (Nat × Oper)}, (∀ p, p ∈ rest → zwb p.2 = none) → rest.Pairwise fun p p' => ∀ q q', zwb p.2 = some q → zwb p'.2 = some q' → q.1 ≠ q'.1
 | [], _ => .nil
 | p :: t, h => .cons (fun p' _ q q' hq _ => by rw [h p (by simp)] at hq; simp at hq) (zZn fun p' hp' => h p' (by simp [hp']))
theorem z9m {h : zub} : ∀ {rest : List (Nat × Oper)}, (∀ p, p ∈ rest → rowD h p.1 p.2 = none) → rest.Pairwise fun p p' => ∀ s s', rowD h p.1 p.2 = some s → rowD h p'.1 p'.2 = some s' → s ≠ s'
 | [], _ => .nil
 | p :: t, h => .cons (fun p' _ q q' hq _ => by rw [h p (by simp)] at hq; simp at hq) (z9m fun p' hp' => h p' (by simp [hp']))
theorem Pend.nil_of {h : zub} {fs' : FS} {R' : RM} {rest : List (Nat × Oper)} (h1 : ∀ p, p ∈ rest → zwb p.2 = none) (h2 : ∀ p, p ∈ rest → rowD h p.1 p.2 = none) : Pend E h R' fs' rest :=
 ⟨fun p hp q hq => by rw [h1 p hp] at hq; simp at hq, zZn h1, fun p hp q hq => by rw [h2 p hp] at hq; simp at hq, z9m h2⟩
theorem zCu {fs fs' : FS} {T : TypeId} {m k x : X} (hm : zoh E.P fs T m k = some (x, fs')) {l s : Nat} {o : O} (ho : fs.get l s = some o) (hn : ∀ es, o ≠ .map es) : fs'.get l s = some o := by
 unfold zoh at hm
 split at hm
 ·split at hm
  ·split at hm
   ·rename_i q l' s' kd _ _ _ _ z es hz hes
    obtain ⟨r, _, hx⟩ := Option.map_eq_some_iff.1 hm
    simp only [Prod.mk.injEq] at hx
    rw [← hx.2, FS.get_set _ _ _ _ (by rw [hes]; rfl)]
    split
    ·rename_i e
     obtain ⟨rfl, rfl⟩ := e
     rw [hes] at ho
     simp only [Option.some.injEq] at ho
     exact absurd ho.symm (hn es)
    ·exact ho
   ·simp at hm
  ·simp at hm
 ·simp at hm
theorem z7x {rec : Rec} (hrec : zPk E rec) (hdep : 30 ≤ E.P.depth) {fid : Nat} {ops : Array Oper} {h : zub} {st st1 : St} {a : Act} (hA : At E n0 w0 L B N ro m R st a w) {p : Nat × Oper} {pre post : List (Nat × Oper)} (hpd : Pend E h R st.fs (pre ++ p :: post))
  (hd : ∀ d, p.2.dst = some d → d < N) (hsp : h.sp.contains p.1 = true ∨ ((aget p.1 h.soft).isSome = true ∧ zjj h p.1 p.2 = true) → ∀ q, q ∈ pre ++ post → zwb q.2 = none ∧ rowD h q.1 q.2 = none) (hev : zCb E rec fid ops h p.1 st p.2 = some st1)
  {next : Act → World → Prop} {Q : Exit → Act → World → Prop} (K : ∀ a' w' m' R', SC E n0 w0 L none [] m R st.fs st.lp w m' R' st1.fs st1.lp w' → At E n0 w0 L B N ro m' R' st1 a' w' → Pend E h R' st1.fs (pre ++ post) → next a' w') :
  if Region.wanted p.2 (yielded ops a.tmps) then p.2.wpIn (FW ro) 0 E.P a w next Q else (∀ f, p.2.about E.P w a.eval = some f → (FW ro).fn f) ∧ next (a.put p.2.dst undef) w := by
 have hsub : (pre ++ post).Sublist (pre ++ p :: post) := List.Sublist.append (List.Sublist.refl _) (List.sublist_cons_self _ _)
 have hpd' := hpd.sub hsub
 unfold zCb at hev
 split at hev
 ·simp at hev
 ·split at hev
  ·
   rename_i q hq
   split at hev
   ·rename_i hg
    simp only [Option.some.injEq] at hev
    subst hev
    have hop : p.2.op = .alloc q.2 ∧ p.2.dst = some q.1 := by
     unfold zwb at hq
     split at hq
     ·rename_i T d h1 h2
      simp only [Option.some.injEq] at hq
      subst hq
      exact ⟨h1, h2⟩
     ·simp at hq
    obtain ⟨hr, zs, hz, hget⟩ := hpd.al p (by simp) q hq
    have hw : Region.wanted p.2 (yielded ops a.tmps) = true := by
     unfold Region.wanted
     rw [Option.isNone_iff_eq_none.1 hg]
    rw [hw]
    simp only [if_true]
    refine ⟨fun _ _ => trivial, ?_⟩
    obtain ⟨i, z, z1, z2, z3, z4, z5⟩ := z2o hz
    have hrun : (p.2.semAt ro a.eval).run E.P w = .ok (.value (.pointer (some ⟨w.heap.size, 0, none⟩))) (w.alloc (.cells z.cells q.2)) := by
     rw [Oper.semAt_eq ro _ p.2 (fun c e => by rw [hop.1] at e; simp at e)]
     simp only [execOp, hop.1, Instr.alloc, Sem.run_bind, zkj z1 z2, Result.andThen_ok, newVar, newRow, run_newObj_alloc, Sem.run_pure]
    refine zdd hrun ?_
    have hbel : Below w.heap.size w (w.alloc (.cells z.cells q.2)) := (Below.refl _ _).alloc (Nat.le_refl _) _
    obtain ⟨c1, c2, c3, c4⟩ := WR.slotCore (t := none) (s := q.1) (o := .cells (zs.map .d)) (fs' := st.fs) (ro := .blk w.heap.size) (m' := m) (w' := w.alloc (.cells z.cells q.2)) hA.wr rfl (fun l' s' => by
      split
      ·rename_i e; obtain ⟨rfl, rfl⟩ := e; exact hget
      ·rfl) (.inl hr) (Imm.le.refl m) (fun _ _ _ h => .inl h) rfl hbel (fun β e => by
      simp only [RO.block, Option.some.injEq] at e
      subst e
      exact ⟨hA.wr.n0le, fun l' s' ro' hr hb => by have := (hA.wr.kind hr hb).2.2.1; omega⟩)
     (fun _ => ⟨z.cells, q.2, zzb w _, by simpa using z3, fun x hx => by
      obtain ⟨y, hy, rfl⟩ := List.mem_map.1 hx
      exact z4 y hy, fun j x hx => by
      rw [List.getElem?_map] at hx
      obtain ⟨y, hy, rfl⟩ := Option.map_eq_some_iff.1 hx
      exact .d (z5 m j y hy), fun o => hA.wr.fresh (Nat.le_refl _) o⟩)
    have hs : SC E n0 w0 L none st.tm m R st.fs st.lp w m (R.put st.fs.lo.length q.1 (.blk w.heap.size)) st.fs st.lp (w.alloc (.cells z.cells q.2)) := ⟨Imm.le.refl m, c1, c3, c2, zpc.refl _, .of_below hbel, c4⟩
    have hsd : SC E n0 w0 L (some q.1) st.tm m R st.fs st.lp w m (R.put st.fs.lo.length q.1 (.blk w.heap.size)) st.fs st.lp (w.alloc (.cells z.cells q.2)) :=
     ⟨Imm.le.refl m, c1, c3, c2, zpc.refl _, .of_below hbel, fun arr hh t' ht' => (hh t' ht').put (Imm.le.refl m) (.inl hr)⟩
    rw [hop.2]
    refine K _ _ m _ hs.bare (hA.next (t := some q.1) (fun d e => hd d (by rw [hop.2]; exact e)) hsd (.ptr (RM.put_at ..))) ?_
    refine hpd'.other (s := q.1) rfl (fun s' _ => rfl) (fun s' hs' => RM.put_ne _ _ (fun e => hs' e.2)) (fun p' hp' q' hq' => ?_) (fun p' hp' s' hs' e => ?_)
    ·rcases zHu hpd.ap hp' with hh | hh
     ·exact hh q' q hq' hq
     ·exact (hh q q' hq hq').symm
    ·have := (hpd'.rl p' hp' s' hs').2
     rw [e, hget] at this
     simp at this
   ·simp at hev
  ·have storing : ∀ (T : TypeId) (y z : Operand) (l s' k i f : Nat), p.2.op = .store T y z → evA E st.tm y = .rp l s' k i f → p.2.guard.isNone = true → zhf E rec st p.2 = some st1 →
     if Region.wanted p.2 (yielded ops a.tmps) then p.2.wpIn (FW ro) 0 E.P a w next Q else (∀ f, p.2.about E.P w a.eval = some f → (FW ro).fn f) ∧ next (a.put p.2.dst undef) w := by
    intro T y z l s' k i f hop hrp hg hts
    have hw : Region.wanted p.2 (yielded ops a.tmps) = true := by
     unfold Region.wanted
     rw [Option.isNone_iff_eq_none.1 hg]
    rw [hw]
    simp only [if_true]
    refine ⟨fun _ _ => trivial, ?_⟩
    unfold zhf at hts
    rw [hop] at hts
    simp only [zFd] at hts
    obtain ⟨x, hx, hts⟩ := Option.map_eq_some_iff.1 hts
    obtain ⟨fs', hf, hx⟩ := Option.map_eq_some_iff.1 hx
    subst hx
    subst hts
    obtain ⟨w', r1, r2⟩ := z7o (t := p.2.dst) (tm := st.tm) hA.wr (zid hA.wr hA.tr y) (zid hA.wr hA.tr z) hf
    refine z1r (w' := w') ?_ ?_
    ·rw [Oper.semAt_eq ro _ p.2 (fun c e => by rw [hop] at e; simp at e)]
     simp only [execOp, hop, Sem.run_bind, r1, Result.andThen_ok, Sem.run_pure]
    ·have hlo : fs'.lo.length = st.fs.lo.length := r2.lv
     have hkeep : ∀ l2 s2 o2, st.fs.get l2 s2 = some o2 → (∀ z es w, o2 ≠ .row z es w) → fs'.get l2 s2 = some o2 := by
      intro l2 s2 o2 ho2 hne
      rw [hrp] at hf
      unfold stX at hf
      split at hf
      ·split at hf
       ·simp only at hf
        split at hf
        ·rename_i zz es hes
         split at hf
         ·obtain ⟨e, _, hf⟩ := Option.bind_eq_some_iff.1 hf
          obtain ⟨ds, _, hf⟩ := Option.bind_eq_some_iff.1 hf
          split at hf
          ·simp only [Option.some.injEq] at hf
           rw [← hf, FS.get_set _ _ _ _ (by rw [hes]; rfl), if_neg]
           ·exact ho2
           ·rintro ⟨rfl, rfl⟩
            rw [hes] at ho2
            simp only [Option.some.injEq] at ho2
            exact hne _ _ _ ho2.symm
          ·simp at hf
         ·simp at hf
        ·simp at hf
       ·simp at hf
      ·simp at hf
     exact K _ _ m R r2.bare (hA.next hd r2 z7j) ⟨fun p' hp' q' hq' => by
      obtain ⟨d1, zs, d2, d3⟩ := hpd'.al p' hp' q' hq'
      exact ⟨by rw [hlo]; exact d1, zs, d2, by rw [hlo]; exact hkeep _ _ _ d3 (fun _ _ _ e => by simp at e)⟩, hpd'.ap, fun p' hp' s' hs' => by
      obtain ⟨d1, d2⟩ := hpd'.rl p' hp' s' hs'
      exact ⟨by rw [hlo]; exact d1, by rw [hlo]; exact hkeep _ _ _ d2 (fun _ _ _ e => by simp at e)⟩, hpd'.rp⟩
   split at hev
   ·
    rename_i s hs
    split at hev
    ·split at hev
     ·rename_i hg
      rw [Bool.and_eq_true] at hg
      cases hop : p.2.op with
      | store T y z =>
       have h2 := hg.2
       rw [hop] at h2
       unfold zqg at h2
       simp only at h2
       cases hy : evA E st.tm y with
       | rp l s' k i f => exact storing T y z l s' k i f hop hy hg.1 hev
       | _ => rw [hy] at h2; simp at h2
      | _ => have h2 := hg.2; rw [hop] at h2; simp [zqg] at h2
     ·simp at hev
    split at hev
    ·rename_i htn
     obtain ⟨htn, hrd⟩ := Bool.and_eq_true_iff.1 htn
     split at hev
     ·rename_i hg
      have other : zjj h p.1 p.2 = true → if Region.wanted p.2 (yielded ops a.tmps) then p.2.wpIn (FW ro) 0 E.P a w next Q else (∀ f, p.2.about E.P w a.eval = some f → (FW ro).fn f) ∧ next (a.put p.2.dst undef) w := by
       intro hmt
       have hno := hsp (.inr ⟨by rw [hs]; rfl, hmt⟩)
       have hw : Region.wanted p.2 (yielded ops a.tmps) = true := by
        unfold Region.wanted
        rw [Option.isNone_iff_eq_none.1 hg]
       rw [hw]
       simp only [if_true]
       refine ⟨fun _ _ => trivial, ?_⟩
       unfold zhf at hev
       obtain ⟨x, hx, hev⟩ := Option.map_eq_some_iff.1 hev
       subst hev
       refine l_up hrec hA.wr hA.tr (zBx hx) ro fun v w' m' R' h1 h2 => ?_
       exact K _ _ m' R' h1.bare (hA.next hd h1 h2) (Pend.nil_of (fun p hp => (hno p hp).1) (fun p hp => (hno p hp).2))
      cases hop : p.2.op with
      | store T y z =>
       have h2 := htn
       rw [hop] at h2
       unfold zPe at h2
       simp only [Bool.and_eq_true] at h2
       cases hy : evA E st.tm y with
       | rp l s' k i f => exact storing T y z l s' k i f hop hy hg hev
       | _ => rw [hy] at h2; simp at h2
      | slice T y lo hi mx => exact other (by simp [zjj, hop, rowD, zgg])
      | mapUpdate T m k v => exact other (by simp [zjj, hop, rowD, zgg])
      | call c => exact other (by simp only [zjj, hop, hrd, Bool.and_self])
      | _ => rw [hop] at htn; simp [zPe] at htn
     ·simp at hev
    split at hev
    ·rename_i q hst
     split at hev
     ·rename_i hg
      have hop : p.2.op = .store q.1 q.2.1 q.2.2 := by
       unfold zSk at hst
       split at hst
       ·rename_i T x y hop
        simp only [Option.some.injEq] at hst
        subst hst
        exact hop
       ·simp at hst
      have hw : Region.wanted p.2 (yielded ops a.tmps) = true := by
       unfold Region.wanted
       rw [Option.isNone_iff_eq_none.1 hg]
      rw [hw]
      simp only [if_true]
      refine ⟨fun _ _ => trivial, ?_⟩
      unfold zvj at hev
      split at hev
      ·rename_i l s' off hp
       split at hev
       ·rename_i hc
        obtain ⟨rfl, rfl⟩ := hc
        obtain ⟨f, hf, hev⟩ := Option.map_eq_some_iff.1 hev
        subst hev
        have hpv := zid hA.wr hA.tr q.2.1
        rw [hp] at hpv
        have hRs : ∃ ro', R st.fs.lo.length s' = some ro' := by
         generalize a.eval q.2.1 = u at hpv
         cases hpv with
         | ptr hb => exact ⟨_, hb⟩
        obtain ⟨w', r1, r2⟩ := z7o (t := p.2.dst) (tm := st.tm) hA.wr hpv (zid hA.wr hA.tr q.2.2) hf
        refine z1r (w' := w') ?_ ?_
        ·rw [Oper.semAt_eq ro _ p.2 (fun c e => by rw [hop] at e; simp at e)]
         simp only [execOp, hop, Sem.run_bind, r1, Result.andThen_ok, Sem.run_pure]
        ·have hlo : f.lo.length = st.fs.lo.length := r2.lv
         obtain ⟨ro', hro'⟩ := hRs
         refine K _ _ m R r2.bare (hA.next hd r2 z7j) (hpd'.other (s := s') hlo (fun s2 hne => ?_) (fun _ _ => rfl) (fun p' hp' q' hq' e => ?_) (fun p' hp' s2 hs2 e => ?_))
         case refine_2 =>
          have d1 := (hpd'.al p' hp' q' hq').1
          rw [e, hro'] at d1; simp at d1
         case refine_3 =>
          have d1 := (hpd'.rl p' hp' s2 hs2).1
          rw [e, hro'] at d1; simp at d1
         show f.get st.fs.lo.length s2 = st.fs.get st.fs.lo.length s2
         unfold stX at hf
         split at hf
         ·split at hf
          ·simp only at hf
           split at hf
           ·rename_i cs hcs
            split at hf
            ·simp only [Option.some.injEq] at hf
             rw [← hf, FS.get_set _ _ _ _ (by rw [hcs]; rfl), if_neg (fun e => hne e.2)]
            ·simp at hf
           ·simp at hf
          ·simp at hf
         ·simp at hf
       ·simp at hev
      ·simp at hev
     ·simp at hev
    ·
     rename_i hst
     split at hev
     ·rename_i q hap
      split at hev
      ·rename_i hg
       obtain ⟨hg1, hg2⟩ := hg
       have hrd : rowD h p.1 p.2 = some s := by unfold rowD; rw [hs, hap, hg2]; simp
       obtain ⟨hr, hget⟩ := hpd.rl p (by simp) s hrd
       have hw : Region.wanted p.2 (yielded ops a.tmps) = true := by
        unfold Region.wanted
        rw [Option.isNone_iff_eq_none.1 hg1]
       rw [hw]
       simp only [if_true]
       refine ⟨fun _ _ => trivial, ?_⟩
       have hap0 := hap
       unfold zgg at hap
       split at hap
       ·rename_i c hop
        split at hap
        ·rename_i hb
         split at hap
         ·rename_i T U ts ea ex hTs hxs
          split at hap
          ·rename_i hTU
           subst hTU
           simp only [Option.some.injEq] at hap
           subst hap
           have e1 : c.argTypes[0]? = some T := by rw [← Array.getElem?_toList, hTs]; rfl
           have e2 : c.argTypes[1]? = some T := by rw [← Array.getElem?_toList, hTs]; rfl
           have e3 : (c.args.map a.eval)[0]? = some (a.eval ea) := by rw [Array.getElem?_map, ← Array.getElem?_toList, hxs]; rfl
           have e4 : (c.args.map a.eval)[1]? = some (a.eval ex) := by rw [Array.getElem?_map, ← Array.getElem?_toList, hxs]; rfl
           unfold zJk at hev
           split at hev
           ·rename_i pq es cc ss xs cc' g1 g2 g3 g4 g5
            split at hev
            ·rename_i hne
             simp only [Option.some.injEq] at hev
             subst hev
             have v1 := zid hA.wr hA.tr ea
             have v2 := zid hA.wr hA.tr ex
             simp only at g2 g3 g4
             rw [g3] at v1 g2
             rw [g4] at v2 g2
             have hlaid : Laid R st (some s) s (.row pq.1 es true) (st.fs.set st.fs.lv s (.row pq.1 es true)) :=
              ⟨by rw [FS.set_top], fun l' s' => by rw [FS.get_set _ _ _ _ (by rw [g5]; rfl)]; rfl, .inl hr⟩
             obtain ⟨r, w', m', ro', r1, r2, r3⟩ := zjo hA.wr p.2.type v1 v2 e1 e2 e3 e4 g1 g2 hne hlaid
             obtain ⟨cs, hcs⟩ := z9h (E := E) ro a.eval p.2 hop hb w
             have hlo : (st.fs.set st.fs.lv s (.row pq.1 es true)).lo.length = st.fs.lo.length := by rw [FS.lo_set]
             refine zdd (v := r) (w' := w') ?_ ?_
             ·rw [hcs]
              show (do let r ← Builtin.append_ c.argTypes p.2.type (c.args.map a.eval); pure (Next.value r) : Sem Next).run E.P w = _
              rw [Sem.run_bind, r1]
              simp
             ·rw [hg2]
              refine K _ _ m' _ r2.bare (hA.next (t := some s) (fun d e => hd d (by rw [hg2]; exact e)) r2 r3) ?_
              refine hpd'.other (s := s) hlo (fun s' hs' => ?_) (fun s' hs' => RM.put_ne _ _ (fun e => hs' e.2)) (fun p' hp' q' hq' e => ?_) (fun p' hp' s' hs' => ?_)
              ·show (st.fs.set st.fs.lv s _).get _ _ = _
               rw [FS.get_set _ _ _ _ (by rw [g5]; rfl), if_neg (fun e => hs' e.2)]
              ·obtain ⟨_, zs, _, d3⟩ := hpd'.al p' hp' q' hq'
               rw [e, hget] at d3
               simp at d3
              ·rcases zHu hpd.rp hp' with hh | hh
               ·exact hh s' s hs' hrd
               ·exact (hh s s' hrd hs').symm
            ·simp at hev
           ·simp at hev
          ·simp at hap
         ·simp at hap
        ·simp at hap
       ·simp at hap
      ·simp at hev
     ·
      split at hev
      ·rename_i q hq
       split at hev
       ·rename_i hg
        obtain ⟨⟨x, fs'⟩, hm, hev⟩ := Option.map_eq_some_iff.1 hev
        subst hev
        have hop : p.2.op = .mapEntry q.1 (.tmp q.2.1) (.tmp q.2.2) := by
         unfold zDf at hq
         split at hq
         ·rename_i T m k hop
          simp only [Option.some.injEq] at hq
          subst hq
          exact hop
         ·simp at hq
        have hw : Region.wanted p.2 (yielded ops a.tmps) = true := by
         unfold Region.wanted
         rw [Option.isNone_iff_eq_none.1 hg]
        rw [hw]
        simp only [if_true]
        refine ⟨fun _ _ => trivial, ?_⟩
        obtain ⟨u, w', r1, r2, r3⟩ := zov (t := p.2.dst) (tm := st.tm) hA.wr (zid hA.wr hA.tr (.tmp q.2.1)) (zid hA.wr hA.tr (.tmp q.2.2)) hm
        have hrun : (p.2.semAt ro a.eval).run E.P w = .ok (.value u) w' := by
         rw [Oper.semAt_eq ro _ p.2 (fun c e => by rw [hop] at e; simp at e)]
         simp only [execOp, hop, Sem.run_bind, r1, Result.andThen_ok, Sem.run_pure]
        refine zdd hrun ?_
        have hlo : fs'.lo.length = st.fs.lo.length := r2.lv
        exact K _ _ m R r2.bare (hA.next hd r2 (r3 _)) ⟨fun p' hp' q' hq' => by
         obtain ⟨d1, zs, d2, d3⟩ := hpd'.al p' hp' q' hq'
         exact ⟨by rw [hlo]; exact d1, zs, d2, by rw [hlo]; exact zCu hm d3 (fun es e => by simp at e)⟩, hpd'.ap, fun p' hp' s' hs' => by
         obtain ⟨d1, d2⟩ := hpd'.rl p' hp' s' hs'
         exact ⟨by rw [hlo]; exact d1, by rw [hlo]; exact zCu hm d2 (fun es e => by simp at e)⟩, hpd'.rp⟩
       ·simp at hev
      ·simp at hev
   ·
    cases hspb : h.sp.contains p.1 with
    | true =>
     have hno := hsp (.inl hspb)
     refine zXu hrec hdep hA hd hev fun a' w' hr => ?_
     obtain ⟨m', R', k1, k2⟩ := hr
     exact K a' w' m' R' k1 k2 (Pend.nil_of (fun p hp => (hno p hp).1) (fun p hp => (hno p hp).2))
    | false =>
     rw [hspb] at hev
     unfold evOp at hev
     split at hev
     ·simp at hev
     ·rename_i hw
      rw [zOk hA.tr hw]
      simp only [Option.some.injEq] at hev
      subst hev
      simp only [Bool.false_eq_true, if_false]
      have hs : SC E n0 w0 L p.2.dst st.tm m R st.fs st.lp w m R st.fs st.lp w := .grow (Imm.le.refl m) (RLe.refl R) hA.wr rfl (.refl w)
      exact ⟨fun _ _ => trivial, K _ _ m R hs.bare (hA.next hd hs z7j) hpd'⟩
     ·rename_i hw
      rw [zOk hA.tr hw]
      simp only [if_true]
      refine ⟨fun _ _ => trivial, ?_⟩
      simp only [Bool.false_and, Bool.not_false, Bool.true_and, Bool.false_eq_true, if_false] at hev
      split at hev
      ·obtain ⟨x, hx, hev⟩ := Option.map_eq_some_iff.1 hev
       subst hev
       refine q_up hrec.pure hdep hA.wr (fun y => zid hA.wr hA.tr y) hx ro fun v w' m' h1 h2 h3 h4 => ?_
       have hs : SC E n0 w0 L p.2.dst st.tm m R st.fs st.lp w m' R st.fs st.lp w' := .grow h1 (RLe.refl R) h2 rfl (.of_below h3)
       exact K _ _ m' R hs.bare (hA.next hd hs h4) hpd'
      ·simp at hev
structure zmx (ops : Array Oper) (h : zub) : Prop where
 after : ∀ (j : Nat) o, ops[j]? = some o → ∀ e, e ∈ o.after → Region.binds .any e = true → e.on < j
 apart : ∀ (j i : Nat) oj oi, ops[j]? = some oj → ops[i]? = some oi → j < i → zgc (Region.before ops) j i = false → zAv ops h j oj i oi
 allocs : ∀ (j i : Nat) oi, h.sp.contains j = true → j < i → ops[i]? = some oi → zwb oi = none ∧ rowD h i oi = none
 sps : ∀ (j i : Nat), h.sp.contains j = true → i < j → j < ops.size → zgc (Region.before ops) i j = true
 trn : ∀ (j i : Nat) oj oi, (aget j h.soft).isSome = true → ops[j]? = some oj → zjj h j oj = true → ops[i]? = some oi → zwb oi = none ∧ rowD h i oi = none
theorem z3d {ops : Array Oper} {j : Nat} {o : Oper} (h : ops[j]? = some o) : ops.getD j default = o := by
 rw [Array.getD_eq_getD_getElem?, h]; rfl
theorem zSu {ops : Array Oper} {h : zub} (hok : zOo ops h = true) : zmx ops h := by
 unfold zOo at hok
 simp only [Bool.and_eq_true] at hok
 obtain ⟨⟨⟨⟨⟨k1, k2⟩, k3⟩, k4⟩, k5⟩, k6⟩ := hok
 simp only [List.all_eq_true, List.mem_range] at k1 k2 k3 k4 k5 k6
 have lt : ∀ {j : Nat} {o : Oper}, ops[j]? = some o → j < ops.size := fun hj => (Array.getElem?_eq_some_iff.1 hj).1
 have after : ∀ (j : Nat) o, ops[j]? = some o → ∀ e, e ∈ o.after → Region.binds .any e = true → e.on < j := by
  intro j o hj e he hb
  have := k1 j (lt hj)
  rw [z3d hj] at this
  have := this e (Array.mem_toList_iff.2 he)
  rw [hb] at this
  simpa using this
 have indep : ∀ (j i : Nat) oj oi, ops[j]? = some oj → ops[i]? = some oi → j < i → zgc (Region.before ops) j i = false → zaq ops oj oi = true := by
  intro j i oj oi hj hi hlt ha
  have := k2 i (lt hi) j hlt
  rw [ha, z3d hj, z3d hi] at this
  simpa using this
 have spf : ∀ (j i : Nat), h.sp.contains j = true → i < ops.size → i = j ∨ (if i < j then zgc (Region.before ops) i j else zgc (Region.before ops) j i) = true := by
  intro j i hj hi
  have := k3 j (by simpa using hj) i hi
  simpa using this
 have ent : ∀ (i s j : Nat) oi oj, aget i h.soft = some s → ops[i]? = some oi → ops[j]? = some oj → j ≠ i → zgc (Region.before ops) j i = false → zgc (Region.before ops) i j = false → wide s oi.op = true → zai oi.op oj.op = true ∧ aget j h.soft = none := by
  intro i s j oi oj hs hi hj hne h1 h2 hq
  have := k4 (i, s) (z8g hs)
  simp only [Bool.and_eq_true, List.all_eq_true, List.mem_range] at this
  obtain ⟨⟨_, t1⟩, t2⟩ := this
  have t2 := t2 j (lt hj)
  rw [z3d hi, z3d hj] at t2
  simp only [h1, h2, hq, if_true, Bool.or_false, Bool.or_eq_true, decide_eq_true_eq, Bool.and_eq_true] at t2
  rcases t2 with t2 | t2
  ·exact absurd t2 hne
  ·exact ⟨t2.1, Option.isNone_iff_eq_none.1 t2.2⟩
 have soft : ∀ (i s j : Nat) oi oj, aget i h.soft = some s → ops[i]? = some oi → ops[j]? = some oj → j ≠ i → zgc (Region.before ops) j i = false → zgc (Region.before ops) i j = false → wide s oi.op = false → zwb oi = none ∧ zfj h j s = true ∧ aget j h.soft ≠ some s := by
  intro i s j oi oj hs hi hj hne h1 h2 hq
  have := k4 (i, s) (z8g hs)
  simp only [Bool.and_eq_true, List.all_eq_true, List.mem_range] at this
  obtain ⟨⟨_, t1⟩, t2⟩ := this
  have t2 := t2 j (lt hj)
  rw [z3d hi] at t2
  simp only [h1, h2, hq, Bool.false_eq_true, if_false, Bool.or_false, Bool.or_eq_true, decide_eq_true_eq, Bool.and_eq_true] at t2
  rcases t2 with t2 | t2
  ·exact absurd t2 hne
  ·refine ⟨?_, t2.1, fun e => ?_⟩
   ·rw [z3d hi] at t1
    unfold zZw at t1
    unfold zwb
    split
    ·rename_i e1 e2
     rw [e1] at t1
     simp at t1
    ·rfl
   ·have := t2.2
    rw [e] at this
    simp at this
 refine ⟨after, fun j i oj oi hj hi hlt ha => ?_, fun j i oi hj hlt hi => ?_, fun j i hj hlt hjl => ?_, fun j i oj oi hs hj hm hi => ?_⟩
 ·have hnot : zgc (Region.before ops) i j = false := by
   cases hb : zgc (Region.before ops) i j with
   | false => rfl
   | true => have := zPz after j i hb; omega
  have hin := indep j i oj oi hj hi hlt ha
  unfold zaq at hin
  simp only [Bool.and_eq_true] at hin
  obtain ⟨i1, i2⟩ := hin
  refine ⟨fun d hd => ?_, fun d hd => ?_, fun d hd => ?_, ?_, ?_, fun s hs hq => ?_, fun s hs hq => ?_, fun s hs hq => ?_, fun s hs hq => ?_⟩
  ·rw [hd] at i1
   simp only [Bool.and_eq_true, bne_iff_ne, ne_eq] at i1
   exact i1.1
  ·rw [hd] at i1
   simp only [Bool.and_eq_true, Bool.not_eq_true', List.contains_eq_mem, decide_eq_false_iff_not] at i1
   exact i1.2
  ·rw [hd] at i2
   simp only [Bool.not_eq_true', List.contains_eq_mem, decide_eq_false_iff_not] at i2
   exact i2
  ·cases hb : h.sp.contains j with
   | false => rfl
   | true =>
    rcases spf j i hb (lt hi) with e | e
    ·omega
    ·rw [if_neg (by omega), ha] at e; simp at e
  ·cases hb : h.sp.contains i with
   | false => rfl
   | true =>
    rcases spf i j hb (lt hj) with e | e
    ·omega
    ·rw [if_pos hlt, ha] at e; simp at e
  ·exact soft j s i oj oi hs hj hi (by omega) hnot ha hq
  ·exact soft i s j oi oj hs hi hj (by omega) ha hnot hq
  ·exact ent j s i oj oi hs hj hi (by omega) hnot ha hq
  ·exact ent i s j oi oj hs hi hj (by omega) ha hnot hq
 ·have := k5 i (lt hi)
  simp only [Bool.or_eq_true, List.all_eq_true, List.mem_range, Bool.not_eq_true', Option.isNone_iff_eq_none] at this
  rw [z3d hi] at this
  simp only [Bool.and_eq_true, Option.isNone_iff_eq_none] at this
  rcases this with e | e
  ·exact e
  ·have := e j hlt
   rw [hj] at this
   simp at this
 ·rcases spf j i hj (by omega) with e | e
  ·omega
  ·rwa [if_pos hlt] at e
 ·obtain ⟨s, hs⟩ := Option.isSome_iff_exists.1 hs
  have := k6 (j, s) (z8g hs)
  rw [z3d hj, hm] at this
  simp only [Bool.not_true, Bool.false_or, List.all_eq_true, List.mem_range, Bool.and_eq_true, Option.isNone_iff_eq_none] at this
  have := this i (lt hi)
  rwa [z3d hi] at this
end
end Go.AM
set_option linter.unusedSimpArgs false
set_option linter.unusedVariables false
namespace Go.AM
open Go Go.RowKit
section
variable {E : Env} {m : Imm} {n0 : Nat} {w0 : Base} {R : RM} {L : LM} {B N : Nat} {ro : Option Nat} {w : World}
theorem z2r {l : Array Bool} {i : Nat} (h : i < l.size) : l.getD i true = l.getD i false := by
 simp [Array.getD, h]
theorem zVx {rec : Rec} (hrec : zPk E rec) (hdep : 30 ≤ E.P.depth) {fid : Nat} {ops : Array Oper} {h : zub} (D : zmx ops h) (hdst : ∀ (j : Nat) o, ops[j]? = some o → ∀ d, o.dst = some d → d < N) {Q : Exit → Act → World → Prop} :
  ∀ (fuel : Nat) (listed : Array Bool) (rest : List (Nat × Oper)) (st stf : St) (a : Act) (w : World) (m : Imm) (R : RM), listed.size = ops.size → rest.length = fuel → rest.Pairwise (fun p q => p.1 < q.1) →
   (∀ i, i < ops.size → (listed.getD i false = false ↔ ∃ o, (i, o) ∈ rest)) → (∀ p, p ∈ rest → ops[p.1]? = some p.2) → (∀ k j, listed.getD k false = true → zgc (Region.before ops) j k = true → listed.getD j false = true) →
   At E n0 w0 L B N ro m R st a w → Pend E h R st.fs rest → zxg E rec fid ops h rest st = some stf →
   (∀ a' w' m' R', SC E n0 w0 L none [] m R st.fs st.lp w m' R' stf.fs stf.lp w' → At E n0 w0 L B N ro m' R' stf a' w' → Q .normal a' w') → wpAnyIn (FW ro) 0 E.P .any ops Q fuel listed a w := by
 intro fuel
 induction fuel with
 | zero =>
  intro listed rest st stf a w m R hsz hlen hsort hmem hat hcl hA hpd hev K
  obtain rfl := List.eq_nil_of_length_eq_zero hlen
  simp only [zxg, Option.some.injEq] at hev
  subst hev
  refine ⟨?_, K a w m R (.grow (Imm.le.refl m) (RLe.refl R) hA.wr rfl (.refl w)) hA⟩
  rw [List.eq_nil_iff_forall_not_mem]
  intro j hj
  obtain ⟨h1, o, h2, _⟩ := mem_ready.1 hj
  have hlt := (Array.getElem?_eq_some_iff.1 h2).1
  rw [z2r (by rw [hsz]; exact hlt)] at h1
  obtain ⟨o', ho'⟩ := (hmem j hlt).1 h1
  simp at ho'
 | succ fuel ih =>
  intro listed rest st stf a w m R hsz hlen hsort hmem hat hcl hA hpd hev K
  refine ⟨fun hnil => ?_, fun i hi => ?_⟩
  ·
   exfalso
   cases rest with
   | nil => simp at hlen
   | cons p rest =>
    have hp := hat p (by simp)
    have hlt := (Array.getElem?_eq_some_iff.1 hp).1
    have : p.1 ∈ Region.ready .any ops listed := by
     rw [mem_ready]
     refine ⟨?_, p.2, hp, fun e he hbe => ?_⟩
     ·rw [z2r (by rw [hsz]; exact hlt)]
      exact (hmem p.1 hlt).2 ⟨p.2, by simp⟩
     ·have hel := D.after p.1 p.2 hp e he hbe
      cases hb : listed.getD e.on false with
      | true => rfl
      | false =>
       obtain ⟨o', ho'⟩ := (hmem e.on (by omega)).1 hb
       simp only [List.mem_cons] at ho'
       rcases ho' with ho' | ho'
       ·have : e.on = p.1 := by rw [← ho']
        omega
       ·have := (List.pairwise_cons.1 hsort).1 _ ho'
        simp only at this
        omega
    rw [hnil] at this
    simp at this
  ·obtain ⟨h1, oi, h2, h3⟩ := mem_ready.1 hi
   have hlt := (Array.getElem?_eq_some_iff.1 h2).1
   rw [z2r (by rw [hsz]; exact hlt)] at h1
   obtain ⟨o', ho'⟩ := (hmem i hlt).1 h1
   have hoo : o' = oi := by have := hat _ ho'; rw [h2] at this; simpa using this.symm
   subst hoo
   obtain ⟨pre, post, rfl⟩ := List.append_of_mem ho'
   have hanc : ∀ j, zgc (Region.before ops) j i = true → listed.getD j false = true := by
    intro j hj
    obtain ⟨e, e1, e2, e3⟩ := zLt D.after h2 hj
    have he := h3 e e1 e2
    rcases e3 with e3 | e3
    ·rw [← e3]; exact he
    ·exact hcl _ _ he e3
   have hsp := List.pairwise_append.1 hsort
   have hpre : ∀ q, q ∈ pre → q.1 < i ∧ zgc (Region.before ops) q.1 i = false := by
    intro q hq
    refine ⟨hsp.2.2 q hq (i, o') (by simp), ?_⟩
    cases hb : zgc (Region.before ops) q.1 i with
    | false => rfl
    | true =>
     have := hanc _ hb
     have hql := (Array.getElem?_eq_some_iff.1 (hat q (by simp [hq]))).1
     have := (hmem q.1 hql).2 ⟨q.2, by simp [hq]⟩
     simp_all
   obtain ⟨st1, s1', f1, f2, f3⟩ := zPp (p := (i, o')) (post := post) pre (fun q hq => D.apart q.1 i q.2 o' (hat q (by simp [hq])) h2 (hpre q hq).1 (hpre q hq).2) hev
   unfold wpOpIn
   simp only [h2]
   refine z7x hrec hdep (p := (i, o')) hA hpd (hdst i o' h2) (fun hs q hq => ?_) f1 fun a' w' m' R' k1 k2 k3 => ?_
   ·rcases hs with hs | ⟨hs1, hs2⟩
    ·rcases List.mem_append.1 hq with hq | hq
     ·have := D.sps i q.1 hs (hpre q hq).1 hlt
      rw [(hpre q hq).2] at this
      simp at this
     ·have : i < q.1 := (List.pairwise_cons.1 hsp.2.1).1 q hq
      exact D.allocs i q.1 q.2 hs this (hat q (by simp [hq]))
    ·exact D.trn i q.1 o' q.2 hs1 h2 hs2 (hat q (by
      rcases List.mem_append.1 hq with hq | hq
      ·simp [hq]
      ·simp [hq]))
   ·have hset : ∀ j, (listed.setIfInBounds i true).getD j false = if j = i then true else listed.getD j false := by
     intro j
     by_cases e : j = i
     ·subst e
      rw [if_pos rfl, Array.getD_eq_getD_getElem?, Array.getElem?_setIfInBounds_self_of_lt (by rw [hsz]; exact hlt)]
      rfl
     ·rw [if_neg e, Array.getD_eq_getD_getElem?, Array.getElem?_setIfInBounds_ne (Ne.symm e), ← Array.getD_eq_getD_getElem?]
    refine ih (listed.setIfInBounds i true) (pre ++ post) st1 s1' a' w' m' R' (by simpa using hsz) (by simp at hlen ⊢; omega) ?_ (fun j hj => ?_) (fun p hp => hat p (by
      rcases List.mem_append.1 hp with h | h
      ·simp [h]
      ·simp [h])) (fun k j hk hj => ?_) k2 k3 f2 fun a2 w2 m2 R2 l1 l2 => ?_
    ·exact List.pairwise_append.2 ⟨hsp.1, (List.pairwise_cons.1 hsp.2.1).2, fun p hp q hq => hsp.2.2 p hp q (by simp [hq])⟩
    ·rw [hset]
     by_cases e : j = i
     ·subst e
      simp only [if_true, Bool.true_eq_false, false_iff]
      rintro ⟨o2, ho2⟩
      rcases List.mem_append.1 ho2 with hq | hq
      ·have := (hpre _ hq).1; simp at this
      ·have := (List.pairwise_cons.1 hsp.2.1).1 _ hq; simp at this
     ·rw [if_neg e, hmem j hj]
      constructor
      ·rintro ⟨o2, ho2⟩
       refine ⟨o2, ?_⟩
       simp only [List.mem_append, List.mem_cons, Prod.mk.injEq] at ho2 ⊢
       rcases ho2 with ho2 | ho2 | ho2
       ·exact .inl ho2
       ·exact absurd ho2.1 e
       ·exact .inr ho2
      ·rintro ⟨o2, ho2⟩
       refine ⟨o2, ?_⟩
       simp only [List.mem_append, List.mem_cons] at ho2 ⊢
       rcases ho2 with ho2 | ho2
       ·exact .inl ho2
       ·exact .inr (.inr ho2)
    ·rw [hset] at hk ⊢
     split
     ·rfl
     ·by_cases e : k = i
      ·subst e; exact hanc j hj
      ·rw [if_neg e] at hk; exact hcl k j hk hj
    ·have hsc := k1.trans l1
     rw [← f3.2.1, ← f3.2.2] at hsc
     exact K a2 w2 m2 R2 hsc (l2.same f3.symm)
def idxs (k : Nat) : List Oper → List (Nat × Oper)
 | [] => []
 | o :: t => (k, o) :: idxs (k + 1) t
theorem zGr {rec : Rec} {fid : Nat} {ops : Array Oper} {h : zub} : ∀ (os : List Oper) (k : Nat) (st : St), zYm E rec fid ops h k os st = zxg E rec fid ops h (idxs k os) st
 | [], k, st => rfl
 | o :: os, k, st => by
  simp only [zYm, idxs, zxg]
  congr 1
  funext s
  exact zGr os (k + 1) s
theorem znu : ∀ (os : List Oper) (k : Nat), (idxs k os).length = os.length
 | [], k => rfl
 | o :: os, k => by simp [idxs, znu os]
theorem zFn : ∀ (os : List Oper) (k i : Nat) (o : Oper), (i, o) ∈ idxs k os ↔ k ≤ i ∧ os[i - k]? = some o
 | [], k, i, o => by simp [idxs]
 | p :: os, k, i, o => by
  simp only [idxs, List.mem_cons, Prod.mk.injEq, zFn os (k + 1) i o]
  by_cases e : i = k
  ·subst e
   constructor
   ·rintro (⟨_, h⟩ | ⟨h, _⟩)
    ·exact ⟨Nat.le_refl _, by simp [h]⟩
    ·omega
   ·rintro ⟨_, h⟩
    exact .inl ⟨rfl, by simpa using h.symm⟩
  ·constructor
   ·rintro (⟨e', _⟩ | ⟨h1, h2⟩)
    ·exact absurd e' e
    ·refine ⟨by omega, ?_⟩
     rw [show i - k = (i - (k + 1)) + 1 by omega]
     simpa using h2
   ·rintro ⟨h1, h2⟩
    right
    refine ⟨by omega, ?_⟩
    rw [show i - k = (i - (k + 1)) + 1 by omega] at h2
    simpa using h2
theorem zDs : ∀ (os : List Oper) (k : Nat), (idxs k os).Pairwise (fun p q => p.1 < q.1)
 | [], k => .nil
 | o :: os, k => .cons (fun p hp => by
   have := (zFn os (k + 1) p.1 p.2).1 hp
   simp only
   omega) (zDs os (k + 1))
theorem zqk {P : Program} : ∀ (os : List Oper) (k : Nat) (fs fs' : FS), z3i P os fs = some fs' → fs'.lo = fs.lo ∧ (∀ k v, aget k fs.fr = some v → aget k fs'.fr = some v) ∧
  (∀ p, p ∈ idxs k os → ∀ q, zwb p.2 = some q → aget q.1 fs.fr = none ∧ ∃ zs, zcT P q.2 = some zs ∧ aget q.1 fs'.fr = some (.cells (zs.map .d))) ∧
  (idxs k os).Pairwise fun p p' => ∀ q q', zwb p.2 = some q → zwb p'.2 = some q' → q.1 ≠ q'.1
 | [], k, fs, fs', h => by
  simp only [z3i, Option.some.injEq] at h
  subst h
  exact ⟨rfl, fun _ _ h => h, fun p hp => by simp [idxs] at hp, .nil⟩
 | o :: os, k, fs, fs', h => by
  simp only [z3i] at h
  split at h
  ·rename_i hq
   obtain ⟨a, b, c, d⟩ := zqk os (k + 1) fs fs' h
   refine ⟨a, b, fun p hp q hpq => ?_, .cons (fun p hp q q' e1 _ => by rw [hq] at e1; simp at e1) d⟩
   simp only [idxs, List.mem_cons] at hp
   rcases hp with rfl | hp
   ·rw [hq] at hpq; simp at hpq
   ·exact c p hp q hpq
  ·rename_i q hq
   split at h
   ·rename_i zs hn hz
    obtain ⟨a, b, c, d⟩ := zqk os (k + 1) _ fs' h
    have hkeep : ∀ k v, aget k fs.fr = some v → aget k (fs.fr ++ [(q.1, O.cells (zs.map .d))]) = some v := fun k v e => by rw [z2d, e]
    have hnew : aget q.1 (fs.fr ++ [(q.1, O.cells (zs.map .d))]) = some (.cells (zs.map .d)) := by rw [z2d, hn]; simp [aget]
    refine ⟨a, fun k v e => b k v (hkeep k v e), fun p hp q' hpq => ?_, .cons (fun p hp q1 q' e1 e2 => ?_) d⟩
    ·simp only [idxs, List.mem_cons] at hp
     rcases hp with rfl | hp
     ·rw [hq] at hpq
      simp only [Option.some.injEq] at hpq
      subst hpq
      exact ⟨hn, zs, hz, b _ _ hnew⟩
     ·obtain ⟨c1, c2⟩ := c p hp q' hpq
      refine ⟨?_, c2⟩
      cases hg : aget q'.1 fs.fr with
      | none => rfl
      | some v => rw [hkeep _ _ hg] at c1; simp at c1
    ·rw [hq] at e1
     simp only [Option.some.injEq] at e1
     subst e1
     obtain ⟨c1, _⟩ := c p hp q' e2
     intro e
     rw [← e, hnew] at c1
     simp at c1
   ·simp at h
theorem z7k {h : zub} : ∀ (os : List Oper) (k : Nat) (fs fs' : FS), zRk h k os fs = some fs' → fs'.lo = fs.lo ∧ (∀ k v, aget k fs.fr = some v → aget k fs'.fr = some v) ∧
  (∀ p, p ∈ idxs k os → ∀ s, rowD h p.1 p.2 = some s → aget s fs.fr = none ∧ aget s fs'.fr = some .nrow) ∧
  (idxs k os).Pairwise fun p p' => ∀ s s', rowD h p.1 p.2 = some s → rowD h p'.1 p'.2 = some s' → s ≠ s'
 | [], k, fs, fs', e => by
  simp only [zRk, Option.some.injEq] at e
  subst e
  exact ⟨rfl, fun _ _ h => h, fun p hp => by simp [idxs] at hp, .nil⟩
 | o :: os, k, fs, fs', e => by
  simp only [zRk] at e
  split at e
  ·rename_i hq
   obtain ⟨a, b, c, d⟩ := z7k os (k + 1) fs fs' e
   refine ⟨a, b, fun p hp q hpq => ?_, .cons (fun p hp q q' e1 _ => by rw [hq] at e1; simp at e1) d⟩
   simp only [idxs, List.mem_cons] at hp
   rcases hp with rfl | hp
   ·rw [hq] at hpq; simp at hpq
   ·exact c p hp q hpq
  ·rename_i s hq
   split at e
   ·rename_i hn
    obtain ⟨a, b, c, d⟩ := z7k os (k + 1) _ fs' e
    have hkeep : ∀ k v, aget k fs.fr = some v → aget k (fs.fr ++ [(s, O.nrow)]) = some v := fun k v e => by rw [z2d, e]
    have hnew : aget s (fs.fr ++ [(s, O.nrow)]) = some .nrow := by rw [z2d, hn]; simp [aget]
    refine ⟨a, fun k v e => b k v (hkeep k v e), fun p hp s' hps => ?_, .cons (fun p hp s1 s' e1 e2 => ?_) d⟩
    ·simp only [idxs, List.mem_cons] at hp
     rcases hp with rfl | hp
     ·rw [hq] at hps
      simp only [Option.some.injEq] at hps
      subst hps
      exact ⟨hn, b _ _ hnew⟩
     ·obtain ⟨c1, c2⟩ := c p hp s' hps
      refine ⟨?_, c2⟩
      cases hg : aget s' fs.fr with
      | none => rfl
      | some v => rw [hkeep _ _ hg] at c1; simp at c1
    ·rw [hq] at e1
     simp only [Option.some.injEq] at e1
     subst e1
     obtain ⟨c1, _⟩ := c p hp s' e2
     intro e
     rw [← e, hnew] at c1
     simp at c1
   ·simp at e
theorem WR.more {fs fs' : FS} {lp : List LRec} (H : WR E m n0 w0 R L fs lp w) (h1 : fs'.lo = fs.lo) (h2 : ∀ k v, aget k fs.fr = some v → aget k fs'.fr = some v) : WR E m n0 w0 R L fs' lp w :=
 { H with
   obj := fun l s ro h => by
     obtain ⟨o, o1, o2⟩ := H.obj l s ro h
     refine ⟨o, ?_, o2⟩
     unfold FS.get at o1 ⊢
     rw [h1]
     split at o1
     · rename_i e
       rw [if_pos e]
       exact h2 _ _ o1
     · rename_i e
       rw [if_neg e]
       exact o1
   loops := fun k r hk => by rw [h1]; exact H.loops k r hk }
theorem zUu (tm : TM) (f : Nat → Bool) (t : Nat) : tget (tm.filter fun p => f p.1) t = if f t then tget tm t else .un := by
 unfold tget
 induction tm with
 | nil => simp [aget]
 | cons p tm ih =>
  rw [List.filter_cons]
  split
  ·rename_i hp
   simp only [aget]
   split
   ·rename_i e
    rw [← e, hp]
    rfl
   ·exact ih
  ·rename_i hp
   rw [ih]
   simp only [aget]
   by_cases e : p.1 = t
   ·rw [if_pos e, ← e, if_neg hp, if_neg hp]
   ·rw [if_neg e]
theorem TR.keep {Lb : LM} {tm : TM} {arr : Array Value} (h : TR m R Lb tm arr) (hh : Hint) : TR m R Lb (zMf hh tm) arr := by
 unfold zMf
 split
 ·rename_i ks hk
  intro t
  rw [zUu tm (fun k => ks.contains k) t]
  split
  ·exact h t
  ·exact .un _
 ·exact h
theorem zOw {rec : Rec} (hrec : zPk E rec) (hdep : 30 ≤ E.P.depth) (hmix : E.P.follows .mixedOrders = true) {fid id : Nat} {ops : Array Oper} {draw : Bool} {st st' : St} {a : Act} (hA : At E n0 w0 L B N ro m R st a w) (hok : z8s N ops = true)
  (hdr : draw = true → ∀ d, znn (E.H fid) id = some d → zOo ops d = true) (hev : zml E rec fid id ops draw st = some st') {Q : Exit → Act → World → Prop}
  (K : ∀ a' w' m' R', SC E n0 w0 L none [] m R st.fs st.lp w m' R' st'.fs st'.lp w' → At E n0 w0 L B N ro m' R' st' a' w' → Q .normal a' w') : (Code.region id ops draw).wpIn (FW ro) 0 E.P Q a w := by
 have hdst : ∀ o, o ∈ ops.toList → ∀ d, o.dst = some d → d < N := by
  intro o ho d hd
  unfold z8s at hok
  rw [List.all_eq_true] at hok
  have := hok o ho
  rw [hd] at this
  simpa using this
 unfold zml at hev
 cases draw with
 | false =>
  simp only [Bool.false_eq_true, if_false] at hev
  refine wpIn_region ?_
  have hA' : At E n0 w0 L B N ro m R { st with tm := zMf (E.H fid) st.tm } a w := { hA with tr := hA.tr.keep _ }
  have := zdu hrec hdep (Q := Q) ops.toList 0 m R _ st' a w rfl hA' hdst hev (fun a' w' hr => by
   obtain ⟨m', R', k1, k2⟩ := hr
   exact K a' w' m' R' k1 k2)
  rw [List.range_eq_range']
  simpa using this
 | true =>
  simp only [if_true] at hev
  split at hev
  ·rename_i h hh
   obtain ⟨fs, hpre, hev⟩ := Option.bind_eq_some_iff.1 hev
   have D := zSu (hdr rfl h hh)
   obtain ⟨fs0, hpre0, hpre1⟩ := Option.bind_eq_some_iff.1 hpre
   obtain ⟨p1', p2', p3', p4⟩ := zqk ops.toList 0 st.fs fs0 hpre0
   obtain ⟨r1, r2, r3, r4⟩ := z7k ops.toList 0 fs0 fs hpre1
   have p1 : fs.lo = st.fs.lo := r1.trans p1'
   have p2 : ∀ k v, aget k st.fs.fr = some v → aget k fs.fr = some v := fun k v e => r2 k v (p2' k v e)
   have p3 : ∀ p, p ∈ idxs 0 ops.toList → ∀ q, zwb p.2 = some q → aget q.1 st.fs.fr = none ∧ ∃ zs, zcT E.P q.2 = some zs ∧ aget q.1 fs.fr = some (.cells (zs.map .d)) := fun p hp q e => by
    obtain ⟨c1, zs, c2, c3⟩ := p3' p hp q e
    exact ⟨c1, zs, c2, r2 _ _ c3⟩
   have p5 : ∀ p, p ∈ idxs 0 ops.toList → ∀ s, rowD h p.1 p.2 = some s → aget s st.fs.fr = none ∧ aget s fs.fr = some .nrow := fun p hp s e => by
    obtain ⟨c1, c2⟩ := r3 p hp s e
    refine ⟨?_, c2⟩
    cases hg : aget s st.fs.fr with
    | none => rfl
    | some v => rw [p2' _ _ hg] at c1; simp at c1
   refine wpIn_region_any hmix ?_
   have hbel : Below w.heap.size w w.drew := (Below.refl _ _).drew
   have hW := hA.wr.new (New.of_below hbel)
   have hW' := hW.more p1 p2
   have hlen : fs.lo.length = st.fs.lo.length := by rw [p1]
   have hs0 : SC E n0 w0 L none [] m R st.fs st.lp w m R fs st.lp w.drew := .grow (Imm.le.refl m) (RLe.refl R) hW' hlen (.of_below hbel)
   have hA' : At E n0 w0 L B N ro m R { st with tm := zMf (E.H fid) st.tm, fs := fs } a w.drew :=
    { wr := hW', tr := by rw [show (FS.lo fs).length = st.fs.lo.length from hlen]; exact hA.tr.keep _, size := hA.size, mks := hA.mks.keep (.of_below hbel), base := hA.base, bw := hA.bw, ro := hA.ro }
   have hRn : ∀ s, aget s st.fs.fr = none → R st.fs.lo.length s = none := fun s hs => by
    cases hq : R st.fs.lo.length s with
    | none => rfl
    | some o =>
     obtain ⟨o', h1, _⟩ := hA.wr.obj _ _ _ hq
     simp only [FS.get, if_true] at h1
     rw [hs] at h1; simp at h1
   refine zVx hrec hdep D (fun j o hj => hdst o (by rw [← Array.getElem?_toList] at hj; exact List.mem_of_getElem? hj)) ops.size _ (idxs 0 ops.toList) _ st' a w.drew m R (by simp) (by rw [znu]; simp) (zDs _ _)
    (fun i hi => ?_) (fun p hp => ?_) (fun k j hk _ => ?_) hA' ⟨fun p hp q hq => ?_, p4, fun p hp s hs => ?_, r4⟩ (by rw [← zGr]; exact hev) fun a' w' m' R' k1 k2 => K a' w' m' R' (hs0.trans k1) k2
   ·simp only [zFn]
    constructor
    ·intro _
     exact ⟨ops[i], by omega, by simp [hi]⟩
    ·intro _
     rw [Array.getD_eq_getD_getElem?, Array.getElem?_replicate, if_pos hi]
     rfl
   ·obtain ⟨_, e2⟩ := (zFn ops.toList 0 p.1 p.2).1 hp
    simpa using e2
   ·exfalso
    rw [Array.getD_eq_getD_getElem?, Array.getElem?_replicate] at hk
    split at hk <;> simp at hk
   ·obtain ⟨c1, zs, c2, c3⟩ := p3 p hp q hq
    show R fs.lo.length q.1 = none ∧ _
    rw [hlen]
    refine ⟨hRn _ c1, zs, c2, ?_⟩
    rw [← hlen]
    simp only [FS.get, if_true]
    exact c3
   ·obtain ⟨c1, c2⟩ := p5 p hp s hs
    show R fs.lo.length s = none ∧ fs.get fs.lo.length s = some .nrow
    refine ⟨by rw [hlen]; exact hRn _ c1, ?_⟩
    simp only [FS.get, if_true]
    exact c2
  ·simp at hev
theorem zNx {rec : Rec} (hrec : zPk E rec) (hdep : 30 ≤ E.P.depth) (hmix : E.P.follows .mixedOrders = true) {fid id : Nat} {ops : Array Oper} {draw : Bool} {st st' : St} {a : Act} (hA : At E n0 w0 L B N ro m R st a w) (hok : z8s N ops = true)
  (hdr : draw = true → ∀ d, znn (E.H fid) id = some d → zOo ops d = true) (hev : z3o E rec fid id ops draw st = some st') {Q : Exit → Act → World → Prop}
  (K : ∀ a' w' m' R', SC E n0 w0 L none [] m R st.fs st.lp w m' R' st'.fs st'.lp w' → At E n0 w0 L B N ro m' R' st' a' w' → Q .normal a' w') : (Code.region id ops draw).wpIn (FW ro) 0 E.P Q a w := by
 unfold z3o at hev
 obtain ⟨s, hs, rfl⟩ := Option.map_eq_some_iff.1 hev
 exact zOw hrec hdep hmix hA hok hdr hs fun a' w' m' R' k1 k2 => K a' w' m' R' k1 { k2 with tr := k2.tr.keep _ }
end
end Go.AM
set_option linter.unusedSimpArgs false
set_option linter.unusedVariables false
namespace Go.AM
open Go Go.RowKit
def exX : Ex → Exit
 | .nor => .normal
 | .exit id => .exit id
 | .ret => .ret
def Post (E : Env) (n0 : Nat) (w0 : Base) (L : LM) (B N : Nat) (ro : Option Nat) (m : Imm) (R : RM) (st : St) (w : World) (e : Ex) (st' : St) : Exit → Act → World → Prop := fun ex a' w' =>
 ex = exX e ∧ ∃ m' R', SC E n0 w0 L none [] m R st.fs st.lp w m' R' st'.fs st'.lp w' ∧ At E n0 w0 L B N ro m' R' st' a' w'
def z9s (E : Env) (n : Nat) : Prop :=
 ∀ (fid : Nat) (c : Code) (st : St) (e : Ex) (st' : St), evN E n fid c st = some (e, st') → ∀ (m : Imm) (n0 : Nat) (w0 : Base) (R : RM) (L : LM) (B N : Nat) (ro : Option Nat) (a : Act) (w : World),
  At E n0 w0 L B N ro m R st a w → zXb (E.H fid) N c = true → c.wpIn (FW ro) 0 E.P (Post E n0 w0 L B N ro m R st w e st') a w
structure zUo (E : Env) : Prop where
 code : zuw E = true
 dep : 30 ≤ E.P.depth
 mix : E.P.follows .mixedOrders = true
section
variable {E : Env} {m : Imm} {n0 : Nat} {w0 : Base} {R : RM} {L : LM} {B N : Nat} {ro : Option Nat} {w : World} {fs : FS} {lp : List LRec}
theorem WR.off (H : WR E m n0 w0 R L fs lp w) {q : Nat} {w' : World} (ho : Only (some q) w w') (hk : ∀ arr T f, w.heap[q]? ≠ some (.cells arr T f)) (hk' : ∀ e c, w.heap[q]? ≠ some (.map e c)) (hl : ∀ k, k < lp.length → L k ≠ some q) (hq : n0 ≤ q) : WR E m n0 w0 R L fs lp w' where
 imm b o v h := by
  have h1 := H.imm b o v h
  refine (zph (ho.block b (World.block_lt_of_cell? w _ h1) fun e => ?_)).trans h1
  ·simp only [Option.some.injEq] at e
   subst e
   unfold World.cell? at h1
   cases hb : w.heap[b]? with
   | none => rw [hb] at h1; simp at h1
   | some ob =>
    rw [hb] at h1
    cases ob with
    | cells arr T f => exact hk _ _ _ hb
    | _ => simp at h1
 immm r e h := by
  obtain ⟨c, hc⟩ := H.immm r e h
  refine ⟨c, ?_⟩
  rw [ho.block r (Array.getElem?_eq_some_iff.1 hc).1 fun e' => ?_]
  ·exact hc
  ·simp only [Option.some.injEq] at e'
   subst e'
   exact hk' _ _ hc
 obj l s ro h := by
  obtain ⟨o, h1, h2⟩ := H.obj l s ro h
  refine ⟨o, h1, h2.mono (Imm.le.refl m) (RLe.refl _) (LLe.refl _) fun β hβ => ⟨?_, fun _ => rfl, rfl⟩⟩
  refine ho.block β (h2.lt hβ) fun e => ?_
  simp only [Option.some.injEq] at e
  subst e
  rcases h2.kind hβ with ⟨a, b, c, k⟩ | ⟨_, a, b, k⟩
  ·exact hk _ _ _ k
  ·exact hk' _ _ k
 disj := H.disj
 base := H.base
 below := ho.below H.below (fun k e => by simp only [Option.some.injEq] at e; omega) H.n0le
 own := H.own
 ownm := H.ownm
 loops k r h := by
  obtain ⟨h1, q', h2, h3, h4⟩ := H.loops k r h
  refine ⟨h1, q', h2, h3, h4.mono (Imm.le.refl m) (RLe.refl _) (LLe.refl _) (ho.block q' h4.lt fun e => ?_)⟩
  simp only [Option.some.injEq] at e
  subst e
  exact hl k (zS h) h2
 linj := H.linj
 glob := H.glob
 n0le := Nat.le_trans H.n0le ho.size
theorem zEh (w : World) (q : Nat) (o : Obj) : Only (some q) w (w.putObj q o) := ⟨rfl, rfl, rfl, by simp, fun k _ hk => World.putObj_heap_other fun e => hk (by rw [e])⟩
theorem WR.setLoop (H : WR E m n0 w0 R L fs lp w) {k q : Nat} {r : LRec} (hk : lp[k]? = some r) (hq : L k = some q) {rr : Loop} (hr : w.heap[q]? = some (.loop rr)) (s : LSt) :
  WR E m n0 w0 R L fs (lp.set k { r with st := s }) (w.putObj q (.loop { rr with state := stv s, pending := pdv s })) := by
 have hsame : zpc lp (lp.set k { r with st := s }) := ⟨by simp, fun i r' hi => by
  rw [List.getElem?_set]
  split
  ·rename_i e
   subst e
   rw [hk] at hi
   simp only [Option.some.injEq] at hi
   subst hi
   rw [if_pos (zS hk)]
   exact ⟨s, rfl⟩
  ·exact ⟨r'.st, hi⟩⟩
 have ho := zEh w q (.loop { rr with state := stv s, pending := pdv s })
 have hkc : ∀ β, (∃ arr T f, w.heap[β]? = some (.cells arr T f)) ∨ (∃ e c, w.heap[β]? = some (.map e c)) → some β ≠ some q := by
  rintro β hh e
  simp only [Option.some.injEq] at e
  subst e
  rcases hh with ⟨a, b, c, h⟩ | ⟨a, b, h⟩ <;> rw [hr] at h <;> simp at h
 have hlt := (Array.getElem?_eq_some_iff.1 hr).1
 have hqn : n0 ≤ q := by
  obtain ⟨_, q', h2, h3, _⟩ := H.loops k r hk
  rw [hq] at h2
  simp only [Option.some.injEq] at h2
  omega
 constructor
 case imm =>
  intro b o v h
  have h1 := H.imm b o v h
  refine (zph (ho.block b (World.block_lt_of_cell? w _ h1) fun e => ?_)).trans h1
  ·refine hkc b (.inl ?_) e
   unfold World.cell? at h1
   cases hb : w.heap[b]? with
   | none => rw [hb] at h1; simp at h1
   | some ob =>
    rw [hb] at h1
    cases ob with
    | cells arr T f => exact ⟨_, _, _, rfl⟩
    | _ => simp at h1
 case immm =>
  intro r' e h
  obtain ⟨c, hc⟩ := H.immm r' e h
  exact ⟨c, by rw [ho.block r' (Array.getElem?_eq_some_iff.1 hc).1 (hkc r' (.inr ⟨_, _, hc⟩))]; exact hc⟩
 case obj =>
  intro l s' ro' h
  obtain ⟨o, h1, h2⟩ := H.obj l s' ro' h
  rw [hsame.below]
  refine ⟨o, h1, h2.mono (Imm.le.refl m) (RLe.refl _) (LLe.refl _) fun β hβ => ⟨ho.block β (h2.lt hβ) (hkc β ?_), fun _ => rfl, rfl⟩⟩
  rcases h2.kind hβ with ⟨a, b, c, k⟩ | ⟨_, a, b, k⟩
  ·exact .inl ⟨_, _, _, k⟩
  ·exact .inr ⟨_, _, k⟩
 case disj => exact H.disj
 case base => exact H.base
 case below => exact ho.below H.below (fun k e => by simp only [Option.some.injEq] at e; omega) H.n0le
 case own => exact H.own
 case ownm => exact H.ownm
 case loops =>
  intro i r' hi
  rw [List.getElem?_set] at hi
  split at hi
  ·rename_i e
   subst e
   rw [if_pos (zS hk)] at hi
   simp only [Option.some.injEq] at hi
   subst hi
   obtain ⟨h1, q', h2, h3, arr, fn, df, h4, h5⟩ := H.loops k r hk
   rw [hq] at h2
   simp only [Option.some.injEq] at h2
   subst h2
   refine ⟨h1, q, hq, h3, arr, fn, df, ?_, ?_⟩
   ·rw [World.putObj_heap_same hlt]
    rw [hr] at h4
    simp only [Option.some.injEq, Obj.loop.injEq] at h4
    subst h4
    rfl
   ·rw [hsame.below]
    exact h5
  ·rename_i hne
   obtain ⟨h1, q', h2, h3, h4⟩ := H.loops i r' hi
   refine ⟨h1, q', h2, h3, ?_⟩
   rw [hsame.below]
   refine h4.mono (Imm.le.refl m) (RLe.refl _) (LLe.refl _) (ho.block q' h4.lt fun e => ?_)
   simp only [Option.some.injEq] at e
   subst e
   exact hne (H.linj k i q' (zS hk) (zS hi) hq h2)
 case linj =>
  intro i j q' hi hj h1 h2
  rw [List.length_set] at hi hj
  exact H.linj i j q' hi hj h1 h2
 case glob => exact H.glob
 case n0le => exact Nat.le_trans H.n0le ho.size
theorem zxu {α β : Type} {P : Program} {w : World} {f : α → Sem β} {g : α → β} : ∀ (l : List α), (∀ a, a ∈ l → (f a).run P w = .ok (g a) w) → (l.mapM f).run P w = .ok (l.map g) w
 | [], _ => by simp
 | a :: l, h => by
  rw [List.mapM_cons]
  simp only [Sem.run_bind, h a (by simp), Result.andThen_ok, zxu l fun b hb => h b (by simp [hb]), Sem.run_pure, List.map_cons]
def zZj (tmps : Array Value) : ResultVar → Sem Value
 | .tmp t => pure (tmps.getD t undef)
 | .cell a t => do loadVar t (← asAddr (tmps.getD a undef))
theorem zmw (fn : Func) (tmps : Array Value) : results fn tmps = (do let vs ← fn.results.mapM (zZj tmps); pure (if h : vs.size = 1 then vs[0] else .tuple vs)) := by
 unfold results
 congr 1
theorem zJu {fn : Func} {tmps : Array Value} {P : Program} {w : World} {g : ResultVar → Value} (h : ∀ r, r ∈ fn.results.toList → (zZj tmps r).run P w = .ok (g r) w) : (results fn tmps).run P w = .ok (resV (fn.results.toList.map g)) w := by
 have hm : (fn.results.mapM (zZj tmps)).run P w = .ok (fn.results.toList.map g).toArray w := by
  have := zxu (P := P) (w := w) fn.results.toList h
  rw [← Array.toList_mapM, map_eq_pure_bind, Sem.run_bind] at this
  cases hr : (fn.results.mapM (zZj tmps)).run P w with
  | ok v w' =>
   rw [hr] at this
   simp only [Result.andThen_ok, Sem.run_pure, Result.ok.injEq] at this
   obtain ⟨h1, rfl⟩ := this
   rw [← h1]
  | halt x w' => rw [hr] at this; simp [Result.andThen] at this
 rw [zmw, Sem.run_bind, hm]
 simp only [Result.andThen_ok, Sem.run_pure]
 congr 1
 generalize fn.results.toList.map g = vs
 match vs with
 | [] => rfl
 | [v] => rfl
 | _ :: _ :: _ => rfl
theorem zJx {st : St} {arr : Array Value} (H : WR E m n0 w0 R L st.fs st.lp w) (hT : TR m R (L.below st.lp st.fs.lo.length) st.tm arr) {r : ResultVar} {x : X} (h : resX E.P st r = some x) :
  ∃ v, (zZj arr r).run E.P w = .ok v w ∧ XR m R (L.below st.lp st.fs.lo.length) x v := by
 cases r with
 | tmp t =>
  simp only [resX, Option.some.injEq] at h
  subst h
  exact ⟨_, by simp [zZj], hT t⟩
 | cell a T =>
  simp only [resX] at h
  have hp := hT a
  obtain ⟨v, h1, h2⟩ := z5u H hp h
  refine ⟨v, ?_, h2⟩
  simp only [zZj]
  generalize arr.getD a undef = u at h1
  cases u with
  | pointer p =>
   cases p with
   | some p => simpa [Instr.loadAt, Instr.sureAddr, asAddr] using h1
   | none => simp [Instr.loadAt, Instr.sureAddr] at h1
  | _ => simp [Instr.loadAt, Instr.sureAddr] at h1
end
end Go.AM
