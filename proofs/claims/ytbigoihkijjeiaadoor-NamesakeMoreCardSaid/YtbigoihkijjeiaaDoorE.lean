/- The statement NamesakeMore holds for every input that its row lets in. Conditions: none. -/
import Derived.KernelRfl
import Derived.Test.YtbigoihkijjeiaaDoorD
set_option linter.all false
set_option linter.unusedVariables false
set_option maxRecDepth 100000
namespace Go.AM
open Go Go.Proofs
theorem zK (k : Nat) (v3 v7 : zt1) (v11 : zt7) (v15 : ((SL Int) × Int)) (r : Bool) (h : zOe k v3 v7 v11 v15 = some r) : ev TE 22 (rgn TE 22 5) ⟨(z7u v3 v7 v11 v15), ⟨[], []⟩, []⟩ = some (.nor, zA v3 v7 v11 v15 r) := by
 unfold zOe at h
 refine zo h (fun h201 g1 => ?_) (fun h201 g1 => ?_)
 ·exact zw (g := fun r => (Ex.nor, zA v3 v7 v11 v15 r)) g1 (zqe [(22, 5, 2, .q (xb true))] [] (ob (o_b h201) ob0) (by kernel_rfl))
 ·refine zo g1 (fun h202 g2 => ?_) (fun h202 g2 => ?_)
  ·exact zw (g := fun r => (Ex.nor, zA v3 v7 v11 v15 r)) g2 (zqe [(22, 5, 2, .q (xb false)), (22, 5, 6, .q (xb true))] [] (ob (o_b h201) (ob (o_b h202) ob0)) (by kernel_rfl))
  ·refine zo g2 (fun h203 g3 => ?_) (fun h203 g3 => ?_)
   ·exact zw (g := fun r => (Ex.nor, zA v3 v7 v11 v15 r)) g3 (zqe [(22, 5, 2, .q (xb false)), (22, 5, 6, .q (xb false)), (22, 5, 10, .q (xb true))] [] (ob (o_b h201) (ob (o_b h202) (ob (o_b h203) ob0))) (by kernel_rfl))
   ·refine zo g3 (fun h204 g4 => ?_) (fun h204 g4 => ?_)
    ·exact zw (g := fun r => (Ex.nor, zA v3 v7 v11 v15 r)) g4 (zqe [(22, 5, 2, .q (xb false)), (22, 5, 6, .q (xb false)), (22, 5, 10, .q (xb false)), (22, 5, 14, .q (xb true))] [] (ob (o_b h201) (ob (o_b h202) (ob (o_b h203) (ob (o_b h204) ob0)))) (by kernel_rfl))
    ·refine zo g4 (fun h205 g5 => ?_) (fun h205 g5 => ?_)
     ·exact zw (g := fun r => (Ex.nor, zA v3 v7 v11 v15 r)) g5 (zqe [(22, 5, 2, .q (xb false)), (22, 5, 6, .q (xb false)), (22, 5, 10, .q (xb false)), (22, 5, 14, .q (xb false)), (22, 5, 18, .q (xb true))] [] (ob (o_b h201) (ob (o_b h202) (ob (o_b h203) (ob (o_b h204) (ob (o_b h205) ob0))))) (by kernel_rfl))
     ·refine zo g5 (fun h206 g6 => ?_) (fun h206 g6 => ?_)
      ·exact zw (g := fun r => (Ex.nor, zA v3 v7 v11 v15 r)) g6 (zqe [(22, 5, 2, .q (xb false)), (22, 5, 6, .q (xb false)), (22, 5, 10, .q (xb false)), (22, 5, 14, .q (xb false)), (22, 5, 18, .q (xb false)), (22, 5, 22, .q (xb true))] [] (ob (o_b h201) (ob (o_b h202) (ob (o_b h203) (ob (o_b h204) (ob (o_b h205) (ob (o_b h206) ob0)))))) (by kernel_rfl))
      ·refine zo g6 (fun h207 g7 => ?_) (fun h207 g7 => ?_)
       ·exact zw (g := fun r => (Ex.nor, zA v3 v7 v11 v15 r)) g7 (zqe [(22, 5, 2, .q (xb false)), (22, 5, 6, .q (xb false)), (22, 5, 10, .q (xb false)), (22, 5, 14, .q (xb false)), (22, 5, 18, .q (xb false)), (22, 5, 22, .q (xb false)), (22, 5, 26, .q (xb true))] [] (ob (o_b h201) (ob (o_b h202) (ob (o_b h203) (ob (o_b h204) (ob (o_b h205) (ob (o_b h206) (ob (o_b h207) ob0))))))) (by kernel_rfl))
       ·refine zk g7 (fun v208 h209 g8 => ?_)
        exact zw (g := fun r => (Ex.nor, zA v3 v7 v11 v15 r)) g8 (zqe [(22, 5, 2, .q (xb false)), (22, 5, 6, .q (xb false)), (22, 5, 10, .q (xb false)), (22, 5, 14, .q (xb false)), (22, 5, 18, .q (xb false)), (22, 5, 22, .q (xb false)), (22, 5, 26, .q (xb false)), (22, 5, 29, .c (db v208))] [] (ob (o_b h201) (ob (o_b h202) (ob (o_b h203) (ob (o_b h204) (ob (o_b h205) (ob (o_b h206) (ob (o_b h207) (ob (zaf k v15.1 ([0, 1, 0, 0, 1], .ex) _ h209) ob0)))))))) (by kernel_rfl))
theorem zuc (k : Nat) (r : Bool) (h : zhb k = some r) : zB TE (ev TE) 22 [] = some (zM r) := by
 unfold zhb at h
 refine zk h (fun v1 h2 g1 => ?_)
 refine zk g1 (fun v3 h4 g2 => ?_)
 refine zk g2 (fun v5 h6 g3 => ?_)
 refine zk g3 (fun v7 h8 g4 => ?_)
 refine zk g4 (fun v9 h10 g5 => ?_)
 refine zk g5 (fun v11 h12 g6 => ?_)
 refine zk g6 (fun v13 h14 g7 => ?_)
 refine zk g7 (fun v15 h16 g8 => ?_)
 refine zk g8 (fun v17 h18 g9 => ?_)
 refine zo g9 (fun h19 g10 => ?_) (fun h19 g10 => ?_)
 ·subst h19
  exact zr (g := zM) g10 (zqc [(22, 1, 0, .c (.agg (zd v1))), (22, 1, 2, .c (.tup [(db v3.1), (di v3.2)])), (22, 2, 0, .c (.agg (zd v5))), (22, 2, 2, .c (.tup [(db v7.1), (di v7.2)])), (22, 3, 0, .c (.agg (zd v9))), (22, 3, 1, .c (.tup [(di v11.1), (di v11.2)])), (22, 4, 0, .c (.agg (zd v13))), (22, 4, 1, .c (.tup [(dl eI v15.1.1 v15.1.2), (di v15.2)]))] [(22, 1000005, (.nor, zA v3 v7 v11 v15 true))] (ob (zj k 3 _ h2) (ob (z6 k v1 ([2, 3], .ex) _ h4) (ob (zj k 3 _ h6) (ob (zS k v5 ([0, 1, 2, 0, 1], .ex) _ h8) (ob (zj k 3 _ h10) (ob (zeb k v9 _ h12) (ob (zj k 3 _ h14) (ob (zX k v13 _ h16) (ob (zK k v3 v7 v11 v15 _ h18) ob0))))))))) (by kernel_rfl))
 ·subst h19
  refine zk g10 (fun v20 h21 g11 => ?_)
  refine zk g11 (fun v22 h23 g12 => ?_)
  refine zk g12 (fun v24 h25 g13 => ?_)
  refine zk g13 (fun v26 h27 g14 => ?_)
  refine zk g14 (fun v28 h29 g15 => ?_)
  refine zk g15 (fun v30 h31 g16 => ?_)
  refine zk g16 (fun v32 h33 g17 => ?_)
  refine zk g17 (fun v34 h35 g18 => ?_)
  refine zk g18 (fun v36 h37 g19 => ?_)
  refine zk g19 (fun v38 h39 g20 => ?_)
  refine zo g20 (fun h40 g21 => ?_) (fun h40 g21 => ?_)
  ·refine zo g21 (fun h41 g22 => ?_) (fun h41 g22 => ?_)
   ·refine zo g22 (fun h42 g23 => ?_) (fun h42 g23 => ?_)
    ·refine zo g23 (fun h43 g24 => ?_) (fun h43 g24 => ?_)
     ·refine zo g24 (fun h44 g25 => ?_) (fun h44 g25 => ?_)
      ·refine zo g25 (fun h45 g26 => ?_) (fun h45 g26 => ?_)
       ·refine zo g26 (fun h46 g27 => ?_) (fun h46 g27 => ?_)
        ·refine zk g27 (fun v47 h48 g28 => ?_)
         refine zo g28 (fun h49 g29 => ?_) (fun h49 g29 => ?_)
         ·refine zo g29 (fun h50 g30 => ?_) (fun h50 g30 => ?_)
          ·refine zo g30 (fun h51 g31 => ?_) (fun h51 g31 => ?_)
           ·refine zk g31 (fun v52 h53 g32 => ?_)
            exact zr (g := zM) g32 (zqc [(22, 1, 0, .c (.agg (zd v1))), (22, 1, 2, .c (.tup [(db v3.1), (di v3.2)])), (22, 2, 0, .c (.agg (zd v5))), (22, 2, 2, .c (.tup [(db v7.1), (di v7.2)])), (22, 3, 0, .c (.agg (zd v9))), (22, 3, 1, .c (.tup [(di v11.1), (di v11.2)])), (22, 4, 0, .c (.agg (zd v13))), (22, 4, 1, .c (.tup [(dl eI v15.1.1 v15.1.2), (di v15.2)])), (22, 7, 0, .c (.agg (zd v20))), (22, 7, 1, .c (.tup [(di v22.1), (di v22.2)])), (22, 8, 0, .c (.agg (zd v24))), (22, 8, 1, .c (.tup [(di v26.1), (di v26.2)])), (22, 9, 0, .c (.agg (zd v28))), (22, 9, 1, .c (.tup [(dl (eL eI) v30.1.1 v30.1.2), (di v30.2)])), (22, 10, 0, .c (.agg (zd v32))), (22, 10, 1, .c (.tup [(di v34.1), (di v34.2.1), (di v34.2.2)])), (22, 11, 0, .c (.agg (zd v36))), (22, 11, 1, .c (.tup [(dl eI v38.1.1 v38.1.2), (di v38.2)])), (22, 12, 2, .q (xb true)), (22, 12, 6, .q (xb true)), (22, 12, 10, .q (xb true)), (22, 12, 14, .q (xb true)), (22, 12, 18, .q (xb true)), (22, 12, 22, .q (xb true)), (22, 12, 26, .q (xb true)), (22, 12, 33, .c (db v47)), (22, 12, 35, .q (xb true)), (22, 12, 39, .q (xb true)), (22, 12, 43, .q (xb true)), (22, 12, 46, .c (db v52))] [(22, 1000005, (.nor, zA v3 v7 v11 v15 false))] (ob (zj k 3 _ h2) (ob (z6 k v1 ([2, 3], .ex) _ h4) (ob (zj k 3 _ h6) (ob (zS k v5 ([0, 1, 2, 0, 1], .ex) _ h8) (ob (zj k 3 _ h10) (ob (zeb k v9 _ h12) (ob (zj k 3 _ h14) (ob (zX k v13 _ h16) (ob (zK k v3 v7 v11 v15 _ h18) (ob (zj k 3 _ h21) (ob (zt k v20 _ h23) (ob (zj k 3 _ h25) (ob (zx k v24 0 3 _ h27) (ob (zj k 3 _ h29) (ob (z9 k v28 _ h31) (ob (zj k 3 _ h33) (ob (zvb k v32 _ h35) (ob (zj k 1 _ h37) (ob (znb k v36 _ h39) (ob (o_b h40) (ob (o_b h41) (ob (o_b h42) (ob (o_b h43) (ob (o_b h44) (ob (o_b h45) (ob (o_b h46) (ob (zIc k v30.1 ([([0, 3], .ex), ([1], .ex), ([2], .ex), ([4], .ex)], .ex) _ h48) (ob (o_b h49) (ob (o_b h50) (ob (o_b h51) (ob (zaf k v38.1 ([1, 4], .ex) _ h53) ob0))))))))))))))))))))))))))))))) (by kernel_rfl))
           ·exact zr (g := zM) g31 (zqc [(22, 1, 0, .c (.agg (zd v1))), (22, 1, 2, .c (.tup [(db v3.1), (di v3.2)])), (22, 2, 0, .c (.agg (zd v5))), (22, 2, 2, .c (.tup [(db v7.1), (di v7.2)])), (22, 3, 0, .c (.agg (zd v9))), (22, 3, 1, .c (.tup [(di v11.1), (di v11.2)])), (22, 4, 0, .c (.agg (zd v13))), (22, 4, 1, .c (.tup [(dl eI v15.1.1 v15.1.2), (di v15.2)])), (22, 7, 0, .c (.agg (zd v20))), (22, 7, 1, .c (.tup [(di v22.1), (di v22.2)])), (22, 8, 0, .c (.agg (zd v24))), (22, 8, 1, .c (.tup [(di v26.1), (di v26.2)])), (22, 9, 0, .c (.agg (zd v28))), (22, 9, 1, .c (.tup [(dl (eL eI) v30.1.1 v30.1.2), (di v30.2)])), (22, 10, 0, .c (.agg (zd v32))), (22, 10, 1, .c (.tup [(di v34.1), (di v34.2.1), (di v34.2.2)])), (22, 11, 0, .c (.agg (zd v36))), (22, 11, 1, .c (.tup [(dl eI v38.1.1 v38.1.2), (di v38.2)])), (22, 12, 2, .q (xb true)), (22, 12, 6, .q (xb true)), (22, 12, 10, .q (xb true)), (22, 12, 14, .q (xb true)), (22, 12, 18, .q (xb true)), (22, 12, 22, .q (xb true)), (22, 12, 26, .q (xb true)), (22, 12, 33, .c (db v47)), (22, 12, 35, .q (xb true)), (22, 12, 39, .q (xb true)), (22, 12, 43, .q (xb false))] [(22, 1000005, (.nor, zA v3 v7 v11 v15 false))] (ob (zj k 3 _ h2) (ob (z6 k v1 ([2, 3], .ex) _ h4) (ob (zj k 3 _ h6) (ob (zS k v5 ([0, 1, 2, 0, 1], .ex) _ h8) (ob (zj k 3 _ h10) (ob (zeb k v9 _ h12) (ob (zj k 3 _ h14) (ob (zX k v13 _ h16) (ob (zK k v3 v7 v11 v15 _ h18) (ob (zj k 3 _ h21) (ob (zt k v20 _ h23) (ob (zj k 3 _ h25) (ob (zx k v24 0 3 _ h27) (ob (zj k 3 _ h29) (ob (z9 k v28 _ h31) (ob (zj k 3 _ h33) (ob (zvb k v32 _ h35) (ob (zj k 1 _ h37) (ob (znb k v36 _ h39) (ob (o_b h40) (ob (o_b h41) (ob (o_b h42) (ob (o_b h43) (ob (o_b h44) (ob (o_b h45) (ob (o_b h46) (ob (zIc k v30.1 ([([0, 3], .ex), ([1], .ex), ([2], .ex), ([4], .ex)], .ex) _ h48) (ob (o_b h49) (ob (o_b h50) (ob (o_b h51) ob0)))))))))))))))))))))))))))))) (by kernel_rfl))
          ·exact zr (g := zM) g30 (zqc [(22, 1, 0, .c (.agg (zd v1))), (22, 1, 2, .c (.tup [(db v3.1), (di v3.2)])), (22, 2, 0, .c (.agg (zd v5))), (22, 2, 2, .c (.tup [(db v7.1), (di v7.2)])), (22, 3, 0, .c (.agg (zd v9))), (22, 3, 1, .c (.tup [(di v11.1), (di v11.2)])), (22, 4, 0, .c (.agg (zd v13))), (22, 4, 1, .c (.tup [(dl eI v15.1.1 v15.1.2), (di v15.2)])), (22, 7, 0, .c (.agg (zd v20))), (22, 7, 1, .c (.tup [(di v22.1), (di v22.2)])), (22, 8, 0, .c (.agg (zd v24))), (22, 8, 1, .c (.tup [(di v26.1), (di v26.2)])), (22, 9, 0, .c (.agg (zd v28))), (22, 9, 1, .c (.tup [(dl (eL eI) v30.1.1 v30.1.2), (di v30.2)])), (22, 10, 0, .c (.agg (zd v32))), (22, 10, 1, .c (.tup [(di v34.1), (di v34.2.1), (di v34.2.2)])), (22, 11, 0, .c (.agg (zd v36))), (22, 11, 1, .c (.tup [(dl eI v38.1.1 v38.1.2), (di v38.2)])), (22, 12, 2, .q (xb true)), (22, 12, 6, .q (xb true)), (22, 12, 10, .q (xb true)), (22, 12, 14, .q (xb true)), (22, 12, 18, .q (xb true)), (22, 12, 22, .q (xb true)), (22, 12, 26, .q (xb true)), (22, 12, 33, .c (db v47)), (22, 12, 35, .q (xb true)), (22, 12, 39, .q (xb false))] [(22, 1000005, (.nor, zA v3 v7 v11 v15 false))] (ob (zj k 3 _ h2) (ob (z6 k v1 ([2, 3], .ex) _ h4) (ob (zj k 3 _ h6) (ob (zS k v5 ([0, 1, 2, 0, 1], .ex) _ h8) (ob (zj k 3 _ h10) (ob (zeb k v9 _ h12) (ob (zj k 3 _ h14) (ob (zX k v13 _ h16) (ob (zK k v3 v7 v11 v15 _ h18) (ob (zj k 3 _ h21) (ob (zt k v20 _ h23) (ob (zj k 3 _ h25) (ob (zx k v24 0 3 _ h27) (ob (zj k 3 _ h29) (ob (z9 k v28 _ h31) (ob (zj k 3 _ h33) (ob (zvb k v32 _ h35) (ob (zj k 1 _ h37) (ob (znb k v36 _ h39) (ob (o_b h40) (ob (o_b h41) (ob (o_b h42) (ob (o_b h43) (ob (o_b h44) (ob (o_b h45) (ob (o_b h46) (ob (zIc k v30.1 ([([0, 3], .ex), ([1], .ex), ([2], .ex), ([4], .ex)], .ex) _ h48) (ob (o_b h49) (ob (o_b h50) ob0))))))))))))))))))))))))))))) (by kernel_rfl))
         ·exact zr (g := zM) g29 (zqc [(22, 1, 0, .c (.agg (zd v1))), (22, 1, 2, .c (.tup [(db v3.1), (di v3.2)])), (22, 2, 0, .c (.agg (zd v5))), (22, 2, 2, .c (.tup [(db v7.1), (di v7.2)])), (22, 3, 0, .c (.agg (zd v9))), (22, 3, 1, .c (.tup [(di v11.1), (di v11.2)])), (22, 4, 0, .c (.agg (zd v13))), (22, 4, 1, .c (.tup [(dl eI v15.1.1 v15.1.2), (di v15.2)])), (22, 7, 0, .c (.agg (zd v20))), (22, 7, 1, .c (.tup [(di v22.1), (di v22.2)])), (22, 8, 0, .c (.agg (zd v24))), (22, 8, 1, .c (.tup [(di v26.1), (di v26.2)])), (22, 9, 0, .c (.agg (zd v28))), (22, 9, 1, .c (.tup [(dl (eL eI) v30.1.1 v30.1.2), (di v30.2)])), (22, 10, 0, .c (.agg (zd v32))), (22, 10, 1, .c (.tup [(di v34.1), (di v34.2.1), (di v34.2.2)])), (22, 11, 0, .c (.agg (zd v36))), (22, 11, 1, .c (.tup [(dl eI v38.1.1 v38.1.2), (di v38.2)])), (22, 12, 2, .q (xb true)), (22, 12, 6, .q (xb true)), (22, 12, 10, .q (xb true)), (22, 12, 14, .q (xb true)), (22, 12, 18, .q (xb true)), (22, 12, 22, .q (xb true)), (22, 12, 26, .q (xb true)), (22, 12, 33, .c (db v47)), (22, 12, 35, .q (xb false))] [(22, 1000005, (.nor, zA v3 v7 v11 v15 false))] (ob (zj k 3 _ h2) (ob (z6 k v1 ([2, 3], .ex) _ h4) (ob (zj k 3 _ h6) (ob (zS k v5 ([0, 1, 2, 0, 1], .ex) _ h8) (ob (zj k 3 _ h10) (ob (zeb k v9 _ h12) (ob (zj k 3 _ h14) (ob (zX k v13 _ h16) (ob (zK k v3 v7 v11 v15 _ h18) (ob (zj k 3 _ h21) (ob (zt k v20 _ h23) (ob (zj k 3 _ h25) (ob (zx k v24 0 3 _ h27) (ob (zj k 3 _ h29) (ob (z9 k v28 _ h31) (ob (zj k 3 _ h33) (ob (zvb k v32 _ h35) (ob (zj k 1 _ h37) (ob (znb k v36 _ h39) (ob (o_b h40) (ob (o_b h41) (ob (o_b h42) (ob (o_b h43) (ob (o_b h44) (ob (o_b h45) (ob (o_b h46) (ob (zIc k v30.1 ([([0, 3], .ex), ([1], .ex), ([2], .ex), ([4], .ex)], .ex) _ h48) (ob (o_b h49) ob0)))))))))))))))))))))))))))) (by kernel_rfl))
        ·exact zr (g := zM) g27 (zqc [(22, 1, 0, .c (.agg (zd v1))), (22, 1, 2, .c (.tup [(db v3.1), (di v3.2)])), (22, 2, 0, .c (.agg (zd v5))), (22, 2, 2, .c (.tup [(db v7.1), (di v7.2)])), (22, 3, 0, .c (.agg (zd v9))), (22, 3, 1, .c (.tup [(di v11.1), (di v11.2)])), (22, 4, 0, .c (.agg (zd v13))), (22, 4, 1, .c (.tup [(dl eI v15.1.1 v15.1.2), (di v15.2)])), (22, 7, 0, .c (.agg (zd v20))), (22, 7, 1, .c (.tup [(di v22.1), (di v22.2)])), (22, 8, 0, .c (.agg (zd v24))), (22, 8, 1, .c (.tup [(di v26.1), (di v26.2)])), (22, 9, 0, .c (.agg (zd v28))), (22, 9, 1, .c (.tup [(dl (eL eI) v30.1.1 v30.1.2), (di v30.2)])), (22, 10, 0, .c (.agg (zd v32))), (22, 10, 1, .c (.tup [(di v34.1), (di v34.2.1), (di v34.2.2)])), (22, 11, 0, .c (.agg (zd v36))), (22, 11, 1, .c (.tup [(dl eI v38.1.1 v38.1.2), (di v38.2)])), (22, 12, 2, .q (xb true)), (22, 12, 6, .q (xb true)), (22, 12, 10, .q (xb true)), (22, 12, 14, .q (xb true)), (22, 12, 18, .q (xb true)), (22, 12, 22, .q (xb true)), (22, 12, 26, .q (xb false))] [(22, 1000005, (.nor, zA v3 v7 v11 v15 false))] (ob (zj k 3 _ h2) (ob (z6 k v1 ([2, 3], .ex) _ h4) (ob (zj k 3 _ h6) (ob (zS k v5 ([0, 1, 2, 0, 1], .ex) _ h8) (ob (zj k 3 _ h10) (ob (zeb k v9 _ h12) (ob (zj k 3 _ h14) (ob (zX k v13 _ h16) (ob (zK k v3 v7 v11 v15 _ h18) (ob (zj k 3 _ h21) (ob (zt k v20 _ h23) (ob (zj k 3 _ h25) (ob (zx k v24 0 3 _ h27) (ob (zj k 3 _ h29) (ob (z9 k v28 _ h31) (ob (zj k 3 _ h33) (ob (zvb k v32 _ h35) (ob (zj k 1 _ h37) (ob (znb k v36 _ h39) (ob (o_b h40) (ob (o_b h41) (ob (o_b h42) (ob (o_b h43) (ob (o_b h44) (ob (o_b h45) (ob (o_b h46) ob0)))))))))))))))))))))))))) (by kernel_rfl))
       ·exact zr (g := zM) g26 (zqc [(22, 1, 0, .c (.agg (zd v1))), (22, 1, 2, .c (.tup [(db v3.1), (di v3.2)])), (22, 2, 0, .c (.agg (zd v5))), (22, 2, 2, .c (.tup [(db v7.1), (di v7.2)])), (22, 3, 0, .c (.agg (zd v9))), (22, 3, 1, .c (.tup [(di v11.1), (di v11.2)])), (22, 4, 0, .c (.agg (zd v13))), (22, 4, 1, .c (.tup [(dl eI v15.1.1 v15.1.2), (di v15.2)])), (22, 7, 0, .c (.agg (zd v20))), (22, 7, 1, .c (.tup [(di v22.1), (di v22.2)])), (22, 8, 0, .c (.agg (zd v24))), (22, 8, 1, .c (.tup [(di v26.1), (di v26.2)])), (22, 9, 0, .c (.agg (zd v28))), (22, 9, 1, .c (.tup [(dl (eL eI) v30.1.1 v30.1.2), (di v30.2)])), (22, 10, 0, .c (.agg (zd v32))), (22, 10, 1, .c (.tup [(di v34.1), (di v34.2.1), (di v34.2.2)])), (22, 11, 0, .c (.agg (zd v36))), (22, 11, 1, .c (.tup [(dl eI v38.1.1 v38.1.2), (di v38.2)])), (22, 12, 2, .q (xb true)), (22, 12, 6, .q (xb true)), (22, 12, 10, .q (xb true)), (22, 12, 14, .q (xb true)), (22, 12, 18, .q (xb true)), (22, 12, 22, .q (xb false))] [(22, 1000005, (.nor, zA v3 v7 v11 v15 false))] (ob (zj k 3 _ h2) (ob (z6 k v1 ([2, 3], .ex) _ h4) (ob (zj k 3 _ h6) (ob (zS k v5 ([0, 1, 2, 0, 1], .ex) _ h8) (ob (zj k 3 _ h10) (ob (zeb k v9 _ h12) (ob (zj k 3 _ h14) (ob (zX k v13 _ h16) (ob (zK k v3 v7 v11 v15 _ h18) (ob (zj k 3 _ h21) (ob (zt k v20 _ h23) (ob (zj k 3 _ h25) (ob (zx k v24 0 3 _ h27) (ob (zj k 3 _ h29) (ob (z9 k v28 _ h31) (ob (zj k 3 _ h33) (ob (zvb k v32 _ h35) (ob (zj k 1 _ h37) (ob (znb k v36 _ h39) (ob (o_b h40) (ob (o_b h41) (ob (o_b h42) (ob (o_b h43) (ob (o_b h44) (ob (o_b h45) ob0))))))))))))))))))))))))) (by kernel_rfl))
      ·exact zr (g := zM) g25 (zqc [(22, 1, 0, .c (.agg (zd v1))), (22, 1, 2, .c (.tup [(db v3.1), (di v3.2)])), (22, 2, 0, .c (.agg (zd v5))), (22, 2, 2, .c (.tup [(db v7.1), (di v7.2)])), (22, 3, 0, .c (.agg (zd v9))), (22, 3, 1, .c (.tup [(di v11.1), (di v11.2)])), (22, 4, 0, .c (.agg (zd v13))), (22, 4, 1, .c (.tup [(dl eI v15.1.1 v15.1.2), (di v15.2)])), (22, 7, 0, .c (.agg (zd v20))), (22, 7, 1, .c (.tup [(di v22.1), (di v22.2)])), (22, 8, 0, .c (.agg (zd v24))), (22, 8, 1, .c (.tup [(di v26.1), (di v26.2)])), (22, 9, 0, .c (.agg (zd v28))), (22, 9, 1, .c (.tup [(dl (eL eI) v30.1.1 v30.1.2), (di v30.2)])), (22, 10, 0, .c (.agg (zd v32))), (22, 10, 1, .c (.tup [(di v34.1), (di v34.2.1), (di v34.2.2)])), (22, 11, 0, .c (.agg (zd v36))), (22, 11, 1, .c (.tup [(dl eI v38.1.1 v38.1.2), (di v38.2)])), (22, 12, 2, .q (xb true)), (22, 12, 6, .q (xb true)), (22, 12, 10, .q (xb true)), (22, 12, 14, .q (xb true)), (22, 12, 18, .q (xb false))] [(22, 1000005, (.nor, zA v3 v7 v11 v15 false))] (ob (zj k 3 _ h2) (ob (z6 k v1 ([2, 3], .ex) _ h4) (ob (zj k 3 _ h6) (ob (zS k v5 ([0, 1, 2, 0, 1], .ex) _ h8) (ob (zj k 3 _ h10) (ob (zeb k v9 _ h12) (ob (zj k 3 _ h14) (ob (zX k v13 _ h16) (ob (zK k v3 v7 v11 v15 _ h18) (ob (zj k 3 _ h21) (ob (zt k v20 _ h23) (ob (zj k 3 _ h25) (ob (zx k v24 0 3 _ h27) (ob (zj k 3 _ h29) (ob (z9 k v28 _ h31) (ob (zj k 3 _ h33) (ob (zvb k v32 _ h35) (ob (zj k 1 _ h37) (ob (znb k v36 _ h39) (ob (o_b h40) (ob (o_b h41) (ob (o_b h42) (ob (o_b h43) (ob (o_b h44) ob0)))))))))))))))))))))))) (by kernel_rfl))
     ·exact zr (g := zM) g24 (zqc [(22, 1, 0, .c (.agg (zd v1))), (22, 1, 2, .c (.tup [(db v3.1), (di v3.2)])), (22, 2, 0, .c (.agg (zd v5))), (22, 2, 2, .c (.tup [(db v7.1), (di v7.2)])), (22, 3, 0, .c (.agg (zd v9))), (22, 3, 1, .c (.tup [(di v11.1), (di v11.2)])), (22, 4, 0, .c (.agg (zd v13))), (22, 4, 1, .c (.tup [(dl eI v15.1.1 v15.1.2), (di v15.2)])), (22, 7, 0, .c (.agg (zd v20))), (22, 7, 1, .c (.tup [(di v22.1), (di v22.2)])), (22, 8, 0, .c (.agg (zd v24))), (22, 8, 1, .c (.tup [(di v26.1), (di v26.2)])), (22, 9, 0, .c (.agg (zd v28))), (22, 9, 1, .c (.tup [(dl (eL eI) v30.1.1 v30.1.2), (di v30.2)])), (22, 10, 0, .c (.agg (zd v32))), (22, 10, 1, .c (.tup [(di v34.1), (di v34.2.1), (di v34.2.2)])), (22, 11, 0, .c (.agg (zd v36))), (22, 11, 1, .c (.tup [(dl eI v38.1.1 v38.1.2), (di v38.2)])), (22, 12, 2, .q (xb true)), (22, 12, 6, .q (xb true)), (22, 12, 10, .q (xb true)), (22, 12, 14, .q (xb false))] [(22, 1000005, (.nor, zA v3 v7 v11 v15 false))] (ob (zj k 3 _ h2) (ob (z6 k v1 ([2, 3], .ex) _ h4) (ob (zj k 3 _ h6) (ob (zS k v5 ([0, 1, 2, 0, 1], .ex) _ h8) (ob (zj k 3 _ h10) (ob (zeb k v9 _ h12) (ob (zj k 3 _ h14) (ob (zX k v13 _ h16) (ob (zK k v3 v7 v11 v15 _ h18) (ob (zj k 3 _ h21) (ob (zt k v20 _ h23) (ob (zj k 3 _ h25) (ob (zx k v24 0 3 _ h27) (ob (zj k 3 _ h29) (ob (z9 k v28 _ h31) (ob (zj k 3 _ h33) (ob (zvb k v32 _ h35) (ob (zj k 1 _ h37) (ob (znb k v36 _ h39) (ob (o_b h40) (ob (o_b h41) (ob (o_b h42) (ob (o_b h43) ob0))))))))))))))))))))))) (by kernel_rfl))
    ·exact zr (g := zM) g23 (zqc [(22, 1, 0, .c (.agg (zd v1))), (22, 1, 2, .c (.tup [(db v3.1), (di v3.2)])), (22, 2, 0, .c (.agg (zd v5))), (22, 2, 2, .c (.tup [(db v7.1), (di v7.2)])), (22, 3, 0, .c (.agg (zd v9))), (22, 3, 1, .c (.tup [(di v11.1), (di v11.2)])), (22, 4, 0, .c (.agg (zd v13))), (22, 4, 1, .c (.tup [(dl eI v15.1.1 v15.1.2), (di v15.2)])), (22, 7, 0, .c (.agg (zd v20))), (22, 7, 1, .c (.tup [(di v22.1), (di v22.2)])), (22, 8, 0, .c (.agg (zd v24))), (22, 8, 1, .c (.tup [(di v26.1), (di v26.2)])), (22, 9, 0, .c (.agg (zd v28))), (22, 9, 1, .c (.tup [(dl (eL eI) v30.1.1 v30.1.2), (di v30.2)])), (22, 10, 0, .c (.agg (zd v32))), (22, 10, 1, .c (.tup [(di v34.1), (di v34.2.1), (di v34.2.2)])), (22, 11, 0, .c (.agg (zd v36))), (22, 11, 1, .c (.tup [(dl eI v38.1.1 v38.1.2), (di v38.2)])), (22, 12, 2, .q (xb true)), (22, 12, 6, .q (xb true)), (22, 12, 10, .q (xb false))] [(22, 1000005, (.nor, zA v3 v7 v11 v15 false))] (ob (zj k 3 _ h2) (ob (z6 k v1 ([2, 3], .ex) _ h4) (ob (zj k 3 _ h6) (ob (zS k v5 ([0, 1, 2, 0, 1], .ex) _ h8) (ob (zj k 3 _ h10) (ob (zeb k v9 _ h12) (ob (zj k 3 _ h14) (ob (zX k v13 _ h16) (ob (zK k v3 v7 v11 v15 _ h18) (ob (zj k 3 _ h21) (ob (zt k v20 _ h23) (ob (zj k 3 _ h25) (ob (zx k v24 0 3 _ h27) (ob (zj k 3 _ h29) (ob (z9 k v28 _ h31) (ob (zj k 3 _ h33) (ob (zvb k v32 _ h35) (ob (zj k 1 _ h37) (ob (znb k v36 _ h39) (ob (o_b h40) (ob (o_b h41) (ob (o_b h42) ob0)))))))))))))))))))))) (by kernel_rfl))
   ·exact zr (g := zM) g22 (zqc [(22, 1, 0, .c (.agg (zd v1))), (22, 1, 2, .c (.tup [(db v3.1), (di v3.2)])), (22, 2, 0, .c (.agg (zd v5))), (22, 2, 2, .c (.tup [(db v7.1), (di v7.2)])), (22, 3, 0, .c (.agg (zd v9))), (22, 3, 1, .c (.tup [(di v11.1), (di v11.2)])), (22, 4, 0, .c (.agg (zd v13))), (22, 4, 1, .c (.tup [(dl eI v15.1.1 v15.1.2), (di v15.2)])), (22, 7, 0, .c (.agg (zd v20))), (22, 7, 1, .c (.tup [(di v22.1), (di v22.2)])), (22, 8, 0, .c (.agg (zd v24))), (22, 8, 1, .c (.tup [(di v26.1), (di v26.2)])), (22, 9, 0, .c (.agg (zd v28))), (22, 9, 1, .c (.tup [(dl (eL eI) v30.1.1 v30.1.2), (di v30.2)])), (22, 10, 0, .c (.agg (zd v32))), (22, 10, 1, .c (.tup [(di v34.1), (di v34.2.1), (di v34.2.2)])), (22, 11, 0, .c (.agg (zd v36))), (22, 11, 1, .c (.tup [(dl eI v38.1.1 v38.1.2), (di v38.2)])), (22, 12, 2, .q (xb true)), (22, 12, 6, .q (xb false))] [(22, 1000005, (.nor, zA v3 v7 v11 v15 false))] (ob (zj k 3 _ h2) (ob (z6 k v1 ([2, 3], .ex) _ h4) (ob (zj k 3 _ h6) (ob (zS k v5 ([0, 1, 2, 0, 1], .ex) _ h8) (ob (zj k 3 _ h10) (ob (zeb k v9 _ h12) (ob (zj k 3 _ h14) (ob (zX k v13 _ h16) (ob (zK k v3 v7 v11 v15 _ h18) (ob (zj k 3 _ h21) (ob (zt k v20 _ h23) (ob (zj k 3 _ h25) (ob (zx k v24 0 3 _ h27) (ob (zj k 3 _ h29) (ob (z9 k v28 _ h31) (ob (zj k 3 _ h33) (ob (zvb k v32 _ h35) (ob (zj k 1 _ h37) (ob (znb k v36 _ h39) (ob (o_b h40) (ob (o_b h41) ob0))))))))))))))))))))) (by kernel_rfl))
  ·exact zr (g := zM) g21 (zqc [(22, 1, 0, .c (.agg (zd v1))), (22, 1, 2, .c (.tup [(db v3.1), (di v3.2)])), (22, 2, 0, .c (.agg (zd v5))), (22, 2, 2, .c (.tup [(db v7.1), (di v7.2)])), (22, 3, 0, .c (.agg (zd v9))), (22, 3, 1, .c (.tup [(di v11.1), (di v11.2)])), (22, 4, 0, .c (.agg (zd v13))), (22, 4, 1, .c (.tup [(dl eI v15.1.1 v15.1.2), (di v15.2)])), (22, 7, 0, .c (.agg (zd v20))), (22, 7, 1, .c (.tup [(di v22.1), (di v22.2)])), (22, 8, 0, .c (.agg (zd v24))), (22, 8, 1, .c (.tup [(di v26.1), (di v26.2)])), (22, 9, 0, .c (.agg (zd v28))), (22, 9, 1, .c (.tup [(dl (eL eI) v30.1.1 v30.1.2), (di v30.2)])), (22, 10, 0, .c (.agg (zd v32))), (22, 10, 1, .c (.tup [(di v34.1), (di v34.2.1), (di v34.2.2)])), (22, 11, 0, .c (.agg (zd v36))), (22, 11, 1, .c (.tup [(dl eI v38.1.1 v38.1.2), (di v38.2)])), (22, 12, 2, .q (xb false))] [(22, 1000005, (.nor, zA v3 v7 v11 v15 false))] (ob (zj k 3 _ h2) (ob (z6 k v1 ([2, 3], .ex) _ h4) (ob (zj k 3 _ h6) (ob (zS k v5 ([0, 1, 2, 0, 1], .ex) _ h8) (ob (zj k 3 _ h10) (ob (zeb k v9 _ h12) (ob (zj k 3 _ h14) (ob (zX k v13 _ h16) (ob (zK k v3 v7 v11 v15 _ h18) (ob (zj k 3 _ h21) (ob (zt k v20 _ h23) (ob (zj k 3 _ h25) (ob (zx k v24 0 3 _ h27) (ob (zj k 3 _ h29) (ob (z9 k v28 _ h31) (ob (zj k 3 _ h33) (ob (zvb k v32 _ h35) (ob (zj k 1 _ h37) (ob (znb k v36 _ h39) (ob (o_b h40) ob0)))))))))))))))))))) (by kernel_rfl))
noncomputable def zUu (p0 p1 : Int) (r : (Int × Bool)) : TM := [(0, (xi p0)), (1, (xi p1)), (4, (xi 0)), (7, (xb false)), (5, (xi r.1)), (12, (xb r.2))]
noncomputable def zjd (p0 p1 : Int) (cb : Bool) (r : (Int × Bool)) : St := ⟨(zUu p0 p1 r), ⟨[], []⟩, []⟩
noncomputable def z1u (p0 p1 : Int) (cb : Bool) : TM := [(0, (xi p0)), (1, (xi p1)), (4, (xi 0)), (7, (xb false)), (5, (xi (p0.tmod p1))), (12, (xb cb))]
theorem zbk (k : Nat) (p0 p1 : Int) (cb : Bool) (r : (Int × Bool)) (h : zSc k p0 p1 cb = some r) : ev TE 45 (cnd TE 45 12) ⟨(z1u p0 p1 cb), ⟨[], []⟩, []⟩ = some (.nor, zjd p0 p1 cb r) := by
 unfold zSc at h
 refine zo h (fun h201 g1 => ?_) (fun h201 g1 => ?_)
 ·subst h201
  exact zw (g := fun r => (Ex.nor, zjd p0 p1 true r)) g1 (zqe [] [] ob0 (by kernel_rfl))
 ·subst h201
  exact zw (g := fun r => (Ex.nor, zjd p0 p1 false r)) g1 (zqe [] [] ob0 (by kernel_rfl))
theorem zy (k : Nat) (p0 p1 r : Int) (h : zRc k p0 p1 = some r) : zB TE (ev TE) 45 [(di p0), (di p1)] = some (zTf r) := by
 unfold zRc at h
 refine zo h (fun h1 g1 => ?_) (fun h1 g1 => ?_)
 ·exact zr (g := zTf) g1 (zqc [(45, 1, 1, .q (xb true))] [] (ob (o_b h1) ob0) (by kernel_rfl))
 ·refine zo g1 (fun h2 g2 => ?_) (fun h2 g2 => ?_)
  ·cases g2
  ·refine zk g2 (fun v3 h4 g3 => ?_)
   exact zr (g := zTf) g3 (zqc [(45, 1, 1, .q (xb false)), (45, 3, 2, .q (xi (p0.tmod p1)))] [(45, 2000012, (.nor, zjd p0 p1 (decide ((p0.tmod p1) < 0)) v3))] (ob (o_b h1) (ob (zQu (x := p0) .i64 h2) (ob (zbk k p0 p1 (decide ((p0.tmod p1) < 0)) _ h4) ob0))) (by kernel_rfl))
noncomputable def zjv (p0 : zb) (p1 : zm) (p2 : zt6) (r : Bool) : TM := [(0, (.d (.agg (zd p0)))), (1, (.d (.agg (za p1)))), (2, (.d (.agg (aI 2 p2)))), (zsp 3), (zsp 4), (zsp 5), (6, (xb false)), (26, (xb r))]
noncomputable def zz (p0 : zb) (p1 : zm) (p2 : zt6) (r : Bool) : St := ⟨(zjv p0 p1 p2 r), ⟨[(zc 3 (zd p0)), (zc 4 (za p1)), (zc 5 (aI 2 p2))], []⟩, []⟩
noncomputable def zGv (p0 : zb) (p1 : zm) (p2 : zt6) : TM := [(0, (.d (.agg (zd p0)))), (1, (.d (.agg (za p1)))), (2, (.d (.agg (aI 2 p2)))), (zsp 3), (zsp 4), (zsp 5), (6, (xb false))]
theorem zD (k : Nat) (p0 : zb) (p1 : zm) (p2 : zt6) (r : Bool) (h : zbc k p0 p1 p2 = some r) : ev TE 9 (rgn TE 9 1) ⟨(zGv p0 p1 p2), ⟨[(zc 3 (zd p0)), (zc 4 (za p1)), (zc 5 (aI 2 p2))], []⟩, []⟩ = some (.nor, zz p0 p1 p2 r) := by
 unfold zbc at h
 refine zk h (fun v201 h202 g1 => ?_)
 refine zo g1 (fun h203 g2 => ?_) (fun h203 g2 => ?_)
 ·exact zw (g := fun r => (Ex.nor, zz p0 p1 p2 r)) g2 (zqe [(9, 1, 1, .c (db v201)), (9, 1, 3, .q (xb true))] [] (ob (z9g k p0 _ h202) (ob (o_b h203) ob0)) (by kernel_rfl))
 ·exact zw (g := fun r => (Ex.nor, zz p0 p1 p2 r)) g2 (zqe [(9, 1, 1, .c (db v201)), (9, 1, 3, .q (xb false)), (9, 1, 6, .q (xi (p0.Letters.1.length : Int)))] [] (ob (z9g k p0 _ h202) (ob (o_b h203) (ob (zq za p0.Letters.1) ob0))) (by kernel_rfl))
theorem zmi (k : Nat) (p0 : zb) (p1 : zm) (p2 : zt6) (r : Bool) (h : zrb k p0 p1 p2 = some r) : zB TE (ev TE) 9 [(.agg (zd p0)), (.agg (za p1)), (.agg (aI 2 p2))] = some (zE r) := by
 unfold zrb at h
 refine zk h (fun v1 h2 g1 => ?_)
 refine zo g1 (fun h3 g2 => ?_) (fun h3 g2 => ?_)
 ·subst h3
  refine zk g2 (fun v4 h5 g3 => ?_)
  exact zr (g := zE) g3 (zqc [(9, 2, 0, .c (db v4))] [(9, 1000001, (.nor, zz p0 p1 p2 true))] (ob (zD k p0 p1 p2 _ h2) (ob (zuc k _ h5) ob0)) (by kernel_rfl))
 ·subst h3
  refine zDb g2 (fun h4 g3 => ?_)
  refine zDb g3 (fun h5 g4 => ?_)
  refine zk g4 (fun v6 h7 g5 => ?_)
  refine zk g5 (fun v8 h9 g6 => ?_)
  refine zk g6 (fun v10 h11 g7 => ?_)
  refine zk g7 (fun v12 h13 g8 => ?_)
  refine zk g8 (fun v14 h15 g9 => ?_)
  refine zk g9 (fun v16 h17 g10 => ?_)
  refine zo g10 (fun h18 g11 => ?_) (fun h18 g11 => ?_)
  ·refine zo g11 (fun h19 g12 => ?_) (fun h19 g12 => ?_)
   ·refine zo g12 (fun h20 g13 => ?_) (fun h20 g13 => ?_)
    ·refine zk g13 (fun v21 h22 g14 => ?_)
     exact zr (g := zE) g14 (zqc [(9, 4, 3, .ns (p0.Letters.1.map za) p0.Letters.1.length), (9, 4, 6, .ap (p0.Letters.1 ++ [p1]).length (rowO false 6 za (p0.Letters.1 ++ [p1]) true)), (9, 5, 4, .q (xi (p0.Letters.1.length : Int))), (9, 5, 5, .c (di v6)), (9, 5, 10, .q (xi (p0.Letters.1.length : Int))), (9, 5, 11, .c (di v8)), (9, 6, 3, .c (.tup [(di v10.1), (di v10.2)])), (9, 7, 3, .cr [((dl za (p0.Letters.1 ++ [p1]) (rcap false (p0.Letters.1 ++ [p1]))), (rowO false 6 za (p0.Letters.1 ++ [p1]) false))] (.tup [(di v12.1), (di v12.2)])), (9, 8, 1, .c (.tup [(di v14.1), (di v14.2)])), (9, 9, 1, .cr [((dl za (p0.Letters.1 ++ [p1]) (rcap false (p0.Letters.1 ++ [p1]))), (rowO false 6 za (p0.Letters.1 ++ [p1]) false))] (.tup [(di v16.1), (di v16.2)])), (9, 10, 1, .q (xb true)), (9, 11, 2, .q (xb true)), (9, 11, 11, .q (xb true)), (9, 11, 12, .c (db v21))] [(9, 1000001, (.nor, zz p0 p1 p2 false))] (ob (zD k p0 p1 p2 _ h2) (ob (zlg p0.Letters.1 za) (ob (o_ns (P := TE.P) (φ := fun _ _ => none) (T := 22) (q := (6, [(di 0), (di 0), (di 0), (di 0), (db false), (di 0)])) (c := p0.Letters.2) (e := za) p0.Letters.1 (by kernel_rfl) (fun _ => rfl) h4) (ob (rfl : (([] : List (List D)).isEmpty || !(p0.Letters.1.map za).isEmpty) = true) (ob (o_ap (b := false) (z := 6) (e := za) (l := p0.Letters.1) (w := true) p1 (fun _ => rfl) h5) (ob (zq za p0.Letters.1) (ob (zy k (p2 0) (p0.Letters.1.length : Int) _ h7) (ob (zq za p0.Letters.1) (ob (zy k (p2 1) (p0.Letters.1.length : Int) _ h9) (ob (zx k p0 v6 v8 _ h11) (ob (o_cr false 6 za (p0.Letters.1 ++ [p1]) true 0 32) (ob (zx k (⟨((p0.Letters.1 ++ [p1]), (rcap false (p0.Letters.1 ++ [p1]))), p0.Far, p0.Apart, p0.Most⟩ : zb) v6 v8 _ h13) (ob (zt k p0 _ h15) (ob (o_cr false 6 za (p0.Letters.1 ++ [p1]) false 0 32) (ob (zt k (⟨((p0.Letters.1 ++ [p1]), (rcap false (p0.Letters.1 ++ [p1]))), p0.Far, p0.Apart, p0.Most⟩ : zb) _ h17) (ob (o_b h18) (ob (o_b h19) (ob (o_b h20) (ob (zuc k _ h22) ob0))))))))))))))))))) (by kernel_rfl))
    ·exact zr (g := zE) g13 (zqc [(9, 4, 3, .ns (p0.Letters.1.map za) p0.Letters.1.length), (9, 4, 6, .ap (p0.Letters.1 ++ [p1]).length (rowO false 6 za (p0.Letters.1 ++ [p1]) true)), (9, 5, 4, .q (xi (p0.Letters.1.length : Int))), (9, 5, 5, .c (di v6)), (9, 5, 10, .q (xi (p0.Letters.1.length : Int))), (9, 5, 11, .c (di v8)), (9, 6, 3, .c (.tup [(di v10.1), (di v10.2)])), (9, 7, 3, .cr [((dl za (p0.Letters.1 ++ [p1]) (rcap false (p0.Letters.1 ++ [p1]))), (rowO false 6 za (p0.Letters.1 ++ [p1]) false))] (.tup [(di v12.1), (di v12.2)])), (9, 8, 1, .c (.tup [(di v14.1), (di v14.2)])), (9, 9, 1, .cr [((dl za (p0.Letters.1 ++ [p1]) (rcap false (p0.Letters.1 ++ [p1]))), (rowO false 6 za (p0.Letters.1 ++ [p1]) false))] (.tup [(di v16.1), (di v16.2)])), (9, 10, 1, .q (xb true)), (9, 11, 2, .q (xb true)), (9, 11, 11, .q (xb false))] [(9, 1000001, (.nor, zz p0 p1 p2 false))] (ob (zD k p0 p1 p2 _ h2) (ob (zlg p0.Letters.1 za) (ob (o_ns (P := TE.P) (φ := fun _ _ => none) (T := 22) (q := (6, [(di 0), (di 0), (di 0), (di 0), (db false), (di 0)])) (c := p0.Letters.2) (e := za) p0.Letters.1 (by kernel_rfl) (fun _ => rfl) h4) (ob (rfl : (([] : List (List D)).isEmpty || !(p0.Letters.1.map za).isEmpty) = true) (ob (o_ap (b := false) (z := 6) (e := za) (l := p0.Letters.1) (w := true) p1 (fun _ => rfl) h5) (ob (zq za p0.Letters.1) (ob (zy k (p2 0) (p0.Letters.1.length : Int) _ h7) (ob (zq za p0.Letters.1) (ob (zy k (p2 1) (p0.Letters.1.length : Int) _ h9) (ob (zx k p0 v6 v8 _ h11) (ob (o_cr false 6 za (p0.Letters.1 ++ [p1]) true 0 32) (ob (zx k (⟨((p0.Letters.1 ++ [p1]), (rcap false (p0.Letters.1 ++ [p1]))), p0.Far, p0.Apart, p0.Most⟩ : zb) v6 v8 _ h13) (ob (zt k p0 _ h15) (ob (o_cr false 6 za (p0.Letters.1 ++ [p1]) false 0 32) (ob (zt k (⟨((p0.Letters.1 ++ [p1]), (rcap false (p0.Letters.1 ++ [p1]))), p0.Far, p0.Apart, p0.Most⟩ : zb) _ h17) (ob (o_b h18) (ob (o_b h19) (ob (o_b h20) ob0)))))))))))))))))) (by kernel_rfl))
   ·refine zo g12 (fun h20 g13 => ?_) (fun h20 g13 => ?_)
    ·refine zo g13 (fun h21 g14 => ?_) (fun h21 g14 => ?_)
     ·refine zk g14 (fun v22 h23 g15 => ?_)
      exact zr (g := zE) g15 (zqc [(9, 4, 3, .ns (p0.Letters.1.map za) p0.Letters.1.length), (9, 4, 6, .ap (p0.Letters.1 ++ [p1]).length (rowO false 6 za (p0.Letters.1 ++ [p1]) true)), (9, 5, 4, .q (xi (p0.Letters.1.length : Int))), (9, 5, 5, .c (di v6)), (9, 5, 10, .q (xi (p0.Letters.1.length : Int))), (9, 5, 11, .c (di v8)), (9, 6, 3, .c (.tup [(di v10.1), (di v10.2)])), (9, 7, 3, .cr [((dl za (p0.Letters.1 ++ [p1]) (rcap false (p0.Letters.1 ++ [p1]))), (rowO false 6 za (p0.Letters.1 ++ [p1]) false))] (.tup [(di v12.1), (di v12.2)])), (9, 8, 1, .c (.tup [(di v14.1), (di v14.2)])), (9, 9, 1, .cr [((dl za (p0.Letters.1 ++ [p1]) (rcap false (p0.Letters.1 ++ [p1]))), (rowO false 6 za (p0.Letters.1 ++ [p1]) false))] (.tup [(di v16.1), (di v16.2)])), (9, 10, 1, .q (xb true)), (9, 11, 2, .q (xb false)), (9, 11, 6, .q (xb true)), (9, 11, 11, .q (xb true)), (9, 11, 12, .c (db v22))] [(9, 1000001, (.nor, zz p0 p1 p2 false))] (ob (zD k p0 p1 p2 _ h2) (ob (zlg p0.Letters.1 za) (ob (o_ns (P := TE.P) (φ := fun _ _ => none) (T := 22) (q := (6, [(di 0), (di 0), (di 0), (di 0), (db false), (di 0)])) (c := p0.Letters.2) (e := za) p0.Letters.1 (by kernel_rfl) (fun _ => rfl) h4) (ob (rfl : (([] : List (List D)).isEmpty || !(p0.Letters.1.map za).isEmpty) = true) (ob (o_ap (b := false) (z := 6) (e := za) (l := p0.Letters.1) (w := true) p1 (fun _ => rfl) h5) (ob (zq za p0.Letters.1) (ob (zy k (p2 0) (p0.Letters.1.length : Int) _ h7) (ob (zq za p0.Letters.1) (ob (zy k (p2 1) (p0.Letters.1.length : Int) _ h9) (ob (zx k p0 v6 v8 _ h11) (ob (o_cr false 6 za (p0.Letters.1 ++ [p1]) true 0 32) (ob (zx k (⟨((p0.Letters.1 ++ [p1]), (rcap false (p0.Letters.1 ++ [p1]))), p0.Far, p0.Apart, p0.Most⟩ : zb) v6 v8 _ h13) (ob (zt k p0 _ h15) (ob (o_cr false 6 za (p0.Letters.1 ++ [p1]) false 0 32) (ob (zt k (⟨((p0.Letters.1 ++ [p1]), (rcap false (p0.Letters.1 ++ [p1]))), p0.Far, p0.Apart, p0.Most⟩ : zb) _ h17) (ob (o_b h18) (ob (o_b h19) (ob (o_b h20) (ob (o_b h21) (ob (zuc k _ h23) ob0)))))))))))))))))))) (by kernel_rfl))
     ·exact zr (g := zE) g14 (zqc [(9, 4, 3, .ns (p0.Letters.1.map za) p0.Letters.1.length), (9, 4, 6, .ap (p0.Letters.1 ++ [p1]).length (rowO false 6 za (p0.Letters.1 ++ [p1]) true)), (9, 5, 4, .q (xi (p0.Letters.1.length : Int))), (9, 5, 5, .c (di v6)), (9, 5, 10, .q (xi (p0.Letters.1.length : Int))), (9, 5, 11, .c (di v8)), (9, 6, 3, .c (.tup [(di v10.1), (di v10.2)])), (9, 7, 3, .cr [((dl za (p0.Letters.1 ++ [p1]) (rcap false (p0.Letters.1 ++ [p1]))), (rowO false 6 za (p0.Letters.1 ++ [p1]) false))] (.tup [(di v12.1), (di v12.2)])), (9, 8, 1, .c (.tup [(di v14.1), (di v14.2)])), (9, 9, 1, .cr [((dl za (p0.Letters.1 ++ [p1]) (rcap false (p0.Letters.1 ++ [p1]))), (rowO false 6 za (p0.Letters.1 ++ [p1]) false))] (.tup [(di v16.1), (di v16.2)])), (9, 10, 1, .q (xb true)), (9, 11, 2, .q (xb false)), (9, 11, 6, .q (xb true)), (9, 11, 11, .q (xb false))] [(9, 1000001, (.nor, zz p0 p1 p2 false))] (ob (zD k p0 p1 p2 _ h2) (ob (zlg p0.Letters.1 za) (ob (o_ns (P := TE.P) (φ := fun _ _ => none) (T := 22) (q := (6, [(di 0), (di 0), (di 0), (di 0), (db false), (di 0)])) (c := p0.Letters.2) (e := za) p0.Letters.1 (by kernel_rfl) (fun _ => rfl) h4) (ob (rfl : (([] : List (List D)).isEmpty || !(p0.Letters.1.map za).isEmpty) = true) (ob (o_ap (b := false) (z := 6) (e := za) (l := p0.Letters.1) (w := true) p1 (fun _ => rfl) h5) (ob (zq za p0.Letters.1) (ob (zy k (p2 0) (p0.Letters.1.length : Int) _ h7) (ob (zq za p0.Letters.1) (ob (zy k (p2 1) (p0.Letters.1.length : Int) _ h9) (ob (zx k p0 v6 v8 _ h11) (ob (o_cr false 6 za (p0.Letters.1 ++ [p1]) true 0 32) (ob (zx k (⟨((p0.Letters.1 ++ [p1]), (rcap false (p0.Letters.1 ++ [p1]))), p0.Far, p0.Apart, p0.Most⟩ : zb) v6 v8 _ h13) (ob (zt k p0 _ h15) (ob (o_cr false 6 za (p0.Letters.1 ++ [p1]) false 0 32) (ob (zt k (⟨((p0.Letters.1 ++ [p1]), (rcap false (p0.Letters.1 ++ [p1]))), p0.Far, p0.Apart, p0.Most⟩ : zb) _ h17) (ob (o_b h18) (ob (o_b h19) (ob (o_b h20) (ob (o_b h21) ob0))))))))))))))))))) (by kernel_rfl))
    ·exact zr (g := zE) g13 (zqc [(9, 4, 3, .ns (p0.Letters.1.map za) p0.Letters.1.length), (9, 4, 6, .ap (p0.Letters.1 ++ [p1]).length (rowO false 6 za (p0.Letters.1 ++ [p1]) true)), (9, 5, 4, .q (xi (p0.Letters.1.length : Int))), (9, 5, 5, .c (di v6)), (9, 5, 10, .q (xi (p0.Letters.1.length : Int))), (9, 5, 11, .c (di v8)), (9, 6, 3, .c (.tup [(di v10.1), (di v10.2)])), (9, 7, 3, .cr [((dl za (p0.Letters.1 ++ [p1]) (rcap false (p0.Letters.1 ++ [p1]))), (rowO false 6 za (p0.Letters.1 ++ [p1]) false))] (.tup [(di v12.1), (di v12.2)])), (9, 8, 1, .c (.tup [(di v14.1), (di v14.2)])), (9, 9, 1, .cr [((dl za (p0.Letters.1 ++ [p1]) (rcap false (p0.Letters.1 ++ [p1]))), (rowO false 6 za (p0.Letters.1 ++ [p1]) false))] (.tup [(di v16.1), (di v16.2)])), (9, 10, 1, .q (xb true)), (9, 11, 2, .q (xb false)), (9, 11, 6, .q (xb false))] [(9, 1000001, (.nor, zz p0 p1 p2 false))] (ob (zD k p0 p1 p2 _ h2) (ob (zlg p0.Letters.1 za) (ob (o_ns (P := TE.P) (φ := fun _ _ => none) (T := 22) (q := (6, [(di 0), (di 0), (di 0), (di 0), (db false), (di 0)])) (c := p0.Letters.2) (e := za) p0.Letters.1 (by kernel_rfl) (fun _ => rfl) h4) (ob (rfl : (([] : List (List D)).isEmpty || !(p0.Letters.1.map za).isEmpty) = true) (ob (o_ap (b := false) (z := 6) (e := za) (l := p0.Letters.1) (w := true) p1 (fun _ => rfl) h5) (ob (zq za p0.Letters.1) (ob (zy k (p2 0) (p0.Letters.1.length : Int) _ h7) (ob (zq za p0.Letters.1) (ob (zy k (p2 1) (p0.Letters.1.length : Int) _ h9) (ob (zx k p0 v6 v8 _ h11) (ob (o_cr false 6 za (p0.Letters.1 ++ [p1]) true 0 32) (ob (zx k (⟨((p0.Letters.1 ++ [p1]), (rcap false (p0.Letters.1 ++ [p1]))), p0.Far, p0.Apart, p0.Most⟩ : zb) v6 v8 _ h13) (ob (zt k p0 _ h15) (ob (o_cr false 6 za (p0.Letters.1 ++ [p1]) false 0 32) (ob (zt k (⟨((p0.Letters.1 ++ [p1]), (rcap false (p0.Letters.1 ++ [p1]))), p0.Far, p0.Apart, p0.Most⟩ : zb) _ h17) (ob (o_b h18) (ob (o_b h19) (ob (o_b h20) ob0)))))))))))))))))) (by kernel_rfl))
  ·refine zo g11 (fun h19 g12 => ?_) (fun h19 g12 => ?_)
   ·refine zo g12 (fun h20 g13 => ?_) (fun h20 g13 => ?_)
    ·refine zo g13 (fun h21 g14 => ?_) (fun h21 g14 => ?_)
     ·refine zo g14 (fun h22 g15 => ?_) (fun h22 g15 => ?_)
      ·refine zo g15 (fun h23 g16 => ?_) (fun h23 g16 => ?_)
       ·refine zk g16 (fun v24 h25 g17 => ?_)
        exact zr (g := zE) g17 (zqc [(9, 4, 3, .ns (p0.Letters.1.map za) p0.Letters.1.length), (9, 4, 6, .ap (p0.Letters.1 ++ [p1]).length (rowO false 6 za (p0.Letters.1 ++ [p1]) true)), (9, 5, 4, .q (xi (p0.Letters.1.length : Int))), (9, 5, 5, .c (di v6)), (9, 5, 10, .q (xi (p0.Letters.1.length : Int))), (9, 5, 11, .c (di v8)), (9, 6, 3, .c (.tup [(di v10.1), (di v10.2)])), (9, 7, 3, .cr [((dl za (p0.Letters.1 ++ [p1]) (rcap false (p0.Letters.1 ++ [p1]))), (rowO false 6 za (p0.Letters.1 ++ [p1]) false))] (.tup [(di v12.1), (di v12.2)])), (9, 8, 1, .c (.tup [(di v14.1), (di v14.2)])), (9, 9, 1, .cr [((dl za (p0.Letters.1 ++ [p1]) (rcap false (p0.Letters.1 ++ [p1]))), (rowO false 6 za (p0.Letters.1 ++ [p1]) false))] (.tup [(di v16.1), (di v16.2)])), (9, 10, 1, .q (xb false)), (9, 12, 2, .q (xb true)), (9, 12, 6, .q (xb true)), (9, 12, 10, .q (xb true)), (9, 12, 13, .q (xb true)), (9, 12, 24, .q (xb true)), (9, 12, 25, .c (db v24))] [(9, 1000001, (.nor, zz p0 p1 p2 false))] (ob (zD k p0 p1 p2 _ h2) (ob (zlg p0.Letters.1 za) (ob (o_ns (P := TE.P) (φ := fun _ _ => none) (T := 22) (q := (6, [(di 0), (di 0), (di 0), (di 0), (db false), (di 0)])) (c := p0.Letters.2) (e := za) p0.Letters.1 (by kernel_rfl) (fun _ => rfl) h4) (ob (rfl : (([] : List (List D)).isEmpty || !(p0.Letters.1.map za).isEmpty) = true) (ob (o_ap (b := false) (z := 6) (e := za) (l := p0.Letters.1) (w := true) p1 (fun _ => rfl) h5) (ob (zq za p0.Letters.1) (ob (zy k (p2 0) (p0.Letters.1.length : Int) _ h7) (ob (zq za p0.Letters.1) (ob (zy k (p2 1) (p0.Letters.1.length : Int) _ h9) (ob (zx k p0 v6 v8 _ h11) (ob (o_cr false 6 za (p0.Letters.1 ++ [p1]) true 0 32) (ob (zx k (⟨((p0.Letters.1 ++ [p1]), (rcap false (p0.Letters.1 ++ [p1]))), p0.Far, p0.Apart, p0.Most⟩ : zb) v6 v8 _ h13) (ob (zt k p0 _ h15) (ob (o_cr false 6 za (p0.Letters.1 ++ [p1]) false 0 32) (ob (zt k (⟨((p0.Letters.1 ++ [p1]), (rcap false (p0.Letters.1 ++ [p1]))), p0.Far, p0.Apart, p0.Most⟩ : zb) _ h17) (ob (o_b h18) (ob (o_b h19) (ob (o_b h20) (ob (o_b h21) (ob (o_b h22) (ob (o_b h23) (ob (zuc k _ h25) ob0)))))))))))))))))))))) (by kernel_rfl))
       ·exact zr (g := zE) g16 (zqc [(9, 4, 3, .ns (p0.Letters.1.map za) p0.Letters.1.length), (9, 4, 6, .ap (p0.Letters.1 ++ [p1]).length (rowO false 6 za (p0.Letters.1 ++ [p1]) true)), (9, 5, 4, .q (xi (p0.Letters.1.length : Int))), (9, 5, 5, .c (di v6)), (9, 5, 10, .q (xi (p0.Letters.1.length : Int))), (9, 5, 11, .c (di v8)), (9, 6, 3, .c (.tup [(di v10.1), (di v10.2)])), (9, 7, 3, .cr [((dl za (p0.Letters.1 ++ [p1]) (rcap false (p0.Letters.1 ++ [p1]))), (rowO false 6 za (p0.Letters.1 ++ [p1]) false))] (.tup [(di v12.1), (di v12.2)])), (9, 8, 1, .c (.tup [(di v14.1), (di v14.2)])), (9, 9, 1, .cr [((dl za (p0.Letters.1 ++ [p1]) (rcap false (p0.Letters.1 ++ [p1]))), (rowO false 6 za (p0.Letters.1 ++ [p1]) false))] (.tup [(di v16.1), (di v16.2)])), (9, 10, 1, .q (xb false)), (9, 12, 2, .q (xb true)), (9, 12, 6, .q (xb true)), (9, 12, 10, .q (xb true)), (9, 12, 13, .q (xb true)), (9, 12, 24, .q (xb false))] [(9, 1000001, (.nor, zz p0 p1 p2 false))] (ob (zD k p0 p1 p2 _ h2) (ob (zlg p0.Letters.1 za) (ob (o_ns (P := TE.P) (φ := fun _ _ => none) (T := 22) (q := (6, [(di 0), (di 0), (di 0), (di 0), (db false), (di 0)])) (c := p0.Letters.2) (e := za) p0.Letters.1 (by kernel_rfl) (fun _ => rfl) h4) (ob (rfl : (([] : List (List D)).isEmpty || !(p0.Letters.1.map za).isEmpty) = true) (ob (o_ap (b := false) (z := 6) (e := za) (l := p0.Letters.1) (w := true) p1 (fun _ => rfl) h5) (ob (zq za p0.Letters.1) (ob (zy k (p2 0) (p0.Letters.1.length : Int) _ h7) (ob (zq za p0.Letters.1) (ob (zy k (p2 1) (p0.Letters.1.length : Int) _ h9) (ob (zx k p0 v6 v8 _ h11) (ob (o_cr false 6 za (p0.Letters.1 ++ [p1]) true 0 32) (ob (zx k (⟨((p0.Letters.1 ++ [p1]), (rcap false (p0.Letters.1 ++ [p1]))), p0.Far, p0.Apart, p0.Most⟩ : zb) v6 v8 _ h13) (ob (zt k p0 _ h15) (ob (o_cr false 6 za (p0.Letters.1 ++ [p1]) false 0 32) (ob (zt k (⟨((p0.Letters.1 ++ [p1]), (rcap false (p0.Letters.1 ++ [p1]))), p0.Far, p0.Apart, p0.Most⟩ : zb) _ h17) (ob (o_b h18) (ob (o_b h19) (ob (o_b h20) (ob (o_b h21) (ob (o_b h22) (ob (o_b h23) ob0))))))))))))))))))))) (by kernel_rfl))
      ·refine zo g15 (fun h23 g16 => ?_) (fun h23 g16 => ?_)
       ·refine zo g16 (fun h24 g17 => ?_) (fun h24 g17 => ?_)
        ·refine zk g17 (fun v25 h26 g18 => ?_)
         exact zr (g := zE) g18 (zqc [(9, 4, 3, .ns (p0.Letters.1.map za) p0.Letters.1.length), (9, 4, 6, .ap (p0.Letters.1 ++ [p1]).length (rowO false 6 za (p0.Letters.1 ++ [p1]) true)), (9, 5, 4, .q (xi (p0.Letters.1.length : Int))), (9, 5, 5, .c (di v6)), (9, 5, 10, .q (xi (p0.Letters.1.length : Int))), (9, 5, 11, .c (di v8)), (9, 6, 3, .c (.tup [(di v10.1), (di v10.2)])), (9, 7, 3, .cr [((dl za (p0.Letters.1 ++ [p1]) (rcap false (p0.Letters.1 ++ [p1]))), (rowO false 6 za (p0.Letters.1 ++ [p1]) false))] (.tup [(di v12.1), (di v12.2)])), (9, 8, 1, .c (.tup [(di v14.1), (di v14.2)])), (9, 9, 1, .cr [((dl za (p0.Letters.1 ++ [p1]) (rcap false (p0.Letters.1 ++ [p1]))), (rowO false 6 za (p0.Letters.1 ++ [p1]) false))] (.tup [(di v16.1), (di v16.2)])), (9, 10, 1, .q (xb false)), (9, 12, 2, .q (xb true)), (9, 12, 6, .q (xb true)), (9, 12, 10, .q (xb true)), (9, 12, 13, .q (xb false)), (9, 12, 19, .q (xb true)), (9, 12, 24, .q (xb true)), (9, 12, 25, .c (db v25))] [(9, 1000001, (.nor, zz p0 p1 p2 false))] (ob (zD k p0 p1 p2 _ h2) (ob (zlg p0.Letters.1 za) (ob (o_ns (P := TE.P) (φ := fun _ _ => none) (T := 22) (q := (6, [(di 0), (di 0), (di 0), (di 0), (db false), (di 0)])) (c := p0.Letters.2) (e := za) p0.Letters.1 (by kernel_rfl) (fun _ => rfl) h4) (ob (rfl : (([] : List (List D)).isEmpty || !(p0.Letters.1.map za).isEmpty) = true) (ob (o_ap (b := false) (z := 6) (e := za) (l := p0.Letters.1) (w := true) p1 (fun _ => rfl) h5) (ob (zq za p0.Letters.1) (ob (zy k (p2 0) (p0.Letters.1.length : Int) _ h7) (ob (zq za p0.Letters.1) (ob (zy k (p2 1) (p0.Letters.1.length : Int) _ h9) (ob (zx k p0 v6 v8 _ h11) (ob (o_cr false 6 za (p0.Letters.1 ++ [p1]) true 0 32) (ob (zx k (⟨((p0.Letters.1 ++ [p1]), (rcap false (p0.Letters.1 ++ [p1]))), p0.Far, p0.Apart, p0.Most⟩ : zb) v6 v8 _ h13) (ob (zt k p0 _ h15) (ob (o_cr false 6 za (p0.Letters.1 ++ [p1]) false 0 32) (ob (zt k (⟨((p0.Letters.1 ++ [p1]), (rcap false (p0.Letters.1 ++ [p1]))), p0.Far, p0.Apart, p0.Most⟩ : zb) _ h17) (ob (o_b h18) (ob (o_b h19) (ob (o_b h20) (ob (o_b h21) (ob (o_b h22) (ob (o_b h23) (ob (o_b h24) (ob (zuc k _ h26) ob0))))))))))))))))))))))) (by kernel_rfl))
        ·exact zr (g := zE) g17 (zqc [(9, 4, 3, .ns (p0.Letters.1.map za) p0.Letters.1.length), (9, 4, 6, .ap (p0.Letters.1 ++ [p1]).length (rowO false 6 za (p0.Letters.1 ++ [p1]) true)), (9, 5, 4, .q (xi (p0.Letters.1.length : Int))), (9, 5, 5, .c (di v6)), (9, 5, 10, .q (xi (p0.Letters.1.length : Int))), (9, 5, 11, .c (di v8)), (9, 6, 3, .c (.tup [(di v10.1), (di v10.2)])), (9, 7, 3, .cr [((dl za (p0.Letters.1 ++ [p1]) (rcap false (p0.Letters.1 ++ [p1]))), (rowO false 6 za (p0.Letters.1 ++ [p1]) false))] (.tup [(di v12.1), (di v12.2)])), (9, 8, 1, .c (.tup [(di v14.1), (di v14.2)])), (9, 9, 1, .cr [((dl za (p0.Letters.1 ++ [p1]) (rcap false (p0.Letters.1 ++ [p1]))), (rowO false 6 za (p0.Letters.1 ++ [p1]) false))] (.tup [(di v16.1), (di v16.2)])), (9, 10, 1, .q (xb false)), (9, 12, 2, .q (xb true)), (9, 12, 6, .q (xb true)), (9, 12, 10, .q (xb true)), (9, 12, 13, .q (xb false)), (9, 12, 19, .q (xb true)), (9, 12, 24, .q (xb false))] [(9, 1000001, (.nor, zz p0 p1 p2 false))] (ob (zD k p0 p1 p2 _ h2) (ob (zlg p0.Letters.1 za) (ob (o_ns (P := TE.P) (φ := fun _ _ => none) (T := 22) (q := (6, [(di 0), (di 0), (di 0), (di 0), (db false), (di 0)])) (c := p0.Letters.2) (e := za) p0.Letters.1 (by kernel_rfl) (fun _ => rfl) h4) (ob (rfl : (([] : List (List D)).isEmpty || !(p0.Letters.1.map za).isEmpty) = true) (ob (o_ap (b := false) (z := 6) (e := za) (l := p0.Letters.1) (w := true) p1 (fun _ => rfl) h5) (ob (zq za p0.Letters.1) (ob (zy k (p2 0) (p0.Letters.1.length : Int) _ h7) (ob (zq za p0.Letters.1) (ob (zy k (p2 1) (p0.Letters.1.length : Int) _ h9) (ob (zx k p0 v6 v8 _ h11) (ob (o_cr false 6 za (p0.Letters.1 ++ [p1]) true 0 32) (ob (zx k (⟨((p0.Letters.1 ++ [p1]), (rcap false (p0.Letters.1 ++ [p1]))), p0.Far, p0.Apart, p0.Most⟩ : zb) v6 v8 _ h13) (ob (zt k p0 _ h15) (ob (o_cr false 6 za (p0.Letters.1 ++ [p1]) false 0 32) (ob (zt k (⟨((p0.Letters.1 ++ [p1]), (rcap false (p0.Letters.1 ++ [p1]))), p0.Far, p0.Apart, p0.Most⟩ : zb) _ h17) (ob (o_b h18) (ob (o_b h19) (ob (o_b h20) (ob (o_b h21) (ob (o_b h22) (ob (o_b h23) (ob (o_b h24) ob0)))))))))))))))))))))) (by kernel_rfl))
       ·exact zr (g := zE) g16 (zqc [(9, 4, 3, .ns (p0.Letters.1.map za) p0.Letters.1.length), (9, 4, 6, .ap (p0.Letters.1 ++ [p1]).length (rowO false 6 za (p0.Letters.1 ++ [p1]) true)), (9, 5, 4, .q (xi (p0.Letters.1.length : Int))), (9, 5, 5, .c (di v6)), (9, 5, 10, .q (xi (p0.Letters.1.length : Int))), (9, 5, 11, .c (di v8)), (9, 6, 3, .c (.tup [(di v10.1), (di v10.2)])), (9, 7, 3, .cr [((dl za (p0.Letters.1 ++ [p1]) (rcap false (p0.Letters.1 ++ [p1]))), (rowO false 6 za (p0.Letters.1 ++ [p1]) false))] (.tup [(di v12.1), (di v12.2)])), (9, 8, 1, .c (.tup [(di v14.1), (di v14.2)])), (9, 9, 1, .cr [((dl za (p0.Letters.1 ++ [p1]) (rcap false (p0.Letters.1 ++ [p1]))), (rowO false 6 za (p0.Letters.1 ++ [p1]) false))] (.tup [(di v16.1), (di v16.2)])), (9, 10, 1, .q (xb false)), (9, 12, 2, .q (xb true)), (9, 12, 6, .q (xb true)), (9, 12, 10, .q (xb true)), (9, 12, 13, .q (xb false)), (9, 12, 19, .q (xb false))] [(9, 1000001, (.nor, zz p0 p1 p2 false))] (ob (zD k p0 p1 p2 _ h2) (ob (zlg p0.Letters.1 za) (ob (o_ns (P := TE.P) (φ := fun _ _ => none) (T := 22) (q := (6, [(di 0), (di 0), (di 0), (di 0), (db false), (di 0)])) (c := p0.Letters.2) (e := za) p0.Letters.1 (by kernel_rfl) (fun _ => rfl) h4) (ob (rfl : (([] : List (List D)).isEmpty || !(p0.Letters.1.map za).isEmpty) = true) (ob (o_ap (b := false) (z := 6) (e := za) (l := p0.Letters.1) (w := true) p1 (fun _ => rfl) h5) (ob (zq za p0.Letters.1) (ob (zy k (p2 0) (p0.Letters.1.length : Int) _ h7) (ob (zq za p0.Letters.1) (ob (zy k (p2 1) (p0.Letters.1.length : Int) _ h9) (ob (zx k p0 v6 v8 _ h11) (ob (o_cr false 6 za (p0.Letters.1 ++ [p1]) true 0 32) (ob (zx k (⟨((p0.Letters.1 ++ [p1]), (rcap false (p0.Letters.1 ++ [p1]))), p0.Far, p0.Apart, p0.Most⟩ : zb) v6 v8 _ h13) (ob (zt k p0 _ h15) (ob (o_cr false 6 za (p0.Letters.1 ++ [p1]) false 0 32) (ob (zt k (⟨((p0.Letters.1 ++ [p1]), (rcap false (p0.Letters.1 ++ [p1]))), p0.Far, p0.Apart, p0.Most⟩ : zb) _ h17) (ob (o_b h18) (ob (o_b h19) (ob (o_b h20) (ob (o_b h21) (ob (o_b h22) (ob (o_b h23) ob0))))))))))))))))))))) (by kernel_rfl))
     ·exact zr (g := zE) g14 (zqc [(9, 4, 3, .ns (p0.Letters.1.map za) p0.Letters.1.length), (9, 4, 6, .ap (p0.Letters.1 ++ [p1]).length (rowO false 6 za (p0.Letters.1 ++ [p1]) true)), (9, 5, 4, .q (xi (p0.Letters.1.length : Int))), (9, 5, 5, .c (di v6)), (9, 5, 10, .q (xi (p0.Letters.1.length : Int))), (9, 5, 11, .c (di v8)), (9, 6, 3, .c (.tup [(di v10.1), (di v10.2)])), (9, 7, 3, .cr [((dl za (p0.Letters.1 ++ [p1]) (rcap false (p0.Letters.1 ++ [p1]))), (rowO false 6 za (p0.Letters.1 ++ [p1]) false))] (.tup [(di v12.1), (di v12.2)])), (9, 8, 1, .c (.tup [(di v14.1), (di v14.2)])), (9, 9, 1, .cr [((dl za (p0.Letters.1 ++ [p1]) (rcap false (p0.Letters.1 ++ [p1]))), (rowO false 6 za (p0.Letters.1 ++ [p1]) false))] (.tup [(di v16.1), (di v16.2)])), (9, 10, 1, .q (xb false)), (9, 12, 2, .q (xb true)), (9, 12, 6, .q (xb true)), (9, 12, 10, .q (xb false))] [(9, 1000001, (.nor, zz p0 p1 p2 false))] (ob (zD k p0 p1 p2 _ h2) (ob (zlg p0.Letters.1 za) (ob (o_ns (P := TE.P) (φ := fun _ _ => none) (T := 22) (q := (6, [(di 0), (di 0), (di 0), (di 0), (db false), (di 0)])) (c := p0.Letters.2) (e := za) p0.Letters.1 (by kernel_rfl) (fun _ => rfl) h4) (ob (rfl : (([] : List (List D)).isEmpty || !(p0.Letters.1.map za).isEmpty) = true) (ob (o_ap (b := false) (z := 6) (e := za) (l := p0.Letters.1) (w := true) p1 (fun _ => rfl) h5) (ob (zq za p0.Letters.1) (ob (zy k (p2 0) (p0.Letters.1.length : Int) _ h7) (ob (zq za p0.Letters.1) (ob (zy k (p2 1) (p0.Letters.1.length : Int) _ h9) (ob (zx k p0 v6 v8 _ h11) (ob (o_cr false 6 za (p0.Letters.1 ++ [p1]) true 0 32) (ob (zx k (⟨((p0.Letters.1 ++ [p1]), (rcap false (p0.Letters.1 ++ [p1]))), p0.Far, p0.Apart, p0.Most⟩ : zb) v6 v8 _ h13) (ob (zt k p0 _ h15) (ob (o_cr false 6 za (p0.Letters.1 ++ [p1]) false 0 32) (ob (zt k (⟨((p0.Letters.1 ++ [p1]), (rcap false (p0.Letters.1 ++ [p1]))), p0.Far, p0.Apart, p0.Most⟩ : zb) _ h17) (ob (o_b h18) (ob (o_b h19) (ob (o_b h20) (ob (o_b h21) ob0))))))))))))))))))) (by kernel_rfl))
    ·exact zr (g := zE) g13 (zqc [(9, 4, 3, .ns (p0.Letters.1.map za) p0.Letters.1.length), (9, 4, 6, .ap (p0.Letters.1 ++ [p1]).length (rowO false 6 za (p0.Letters.1 ++ [p1]) true)), (9, 5, 4, .q (xi (p0.Letters.1.length : Int))), (9, 5, 5, .c (di v6)), (9, 5, 10, .q (xi (p0.Letters.1.length : Int))), (9, 5, 11, .c (di v8)), (9, 6, 3, .c (.tup [(di v10.1), (di v10.2)])), (9, 7, 3, .cr [((dl za (p0.Letters.1 ++ [p1]) (rcap false (p0.Letters.1 ++ [p1]))), (rowO false 6 za (p0.Letters.1 ++ [p1]) false))] (.tup [(di v12.1), (di v12.2)])), (9, 8, 1, .c (.tup [(di v14.1), (di v14.2)])), (9, 9, 1, .cr [((dl za (p0.Letters.1 ++ [p1]) (rcap false (p0.Letters.1 ++ [p1]))), (rowO false 6 za (p0.Letters.1 ++ [p1]) false))] (.tup [(di v16.1), (di v16.2)])), (9, 10, 1, .q (xb false)), (9, 12, 2, .q (xb true)), (9, 12, 6, .q (xb false))] [(9, 1000001, (.nor, zz p0 p1 p2 false))] (ob (zD k p0 p1 p2 _ h2) (ob (zlg p0.Letters.1 za) (ob (o_ns (P := TE.P) (φ := fun _ _ => none) (T := 22) (q := (6, [(di 0), (di 0), (di 0), (di 0), (db false), (di 0)])) (c := p0.Letters.2) (e := za) p0.Letters.1 (by kernel_rfl) (fun _ => rfl) h4) (ob (rfl : (([] : List (List D)).isEmpty || !(p0.Letters.1.map za).isEmpty) = true) (ob (o_ap (b := false) (z := 6) (e := za) (l := p0.Letters.1) (w := true) p1 (fun _ => rfl) h5) (ob (zq za p0.Letters.1) (ob (zy k (p2 0) (p0.Letters.1.length : Int) _ h7) (ob (zq za p0.Letters.1) (ob (zy k (p2 1) (p0.Letters.1.length : Int) _ h9) (ob (zx k p0 v6 v8 _ h11) (ob (o_cr false 6 za (p0.Letters.1 ++ [p1]) true 0 32) (ob (zx k (⟨((p0.Letters.1 ++ [p1]), (rcap false (p0.Letters.1 ++ [p1]))), p0.Far, p0.Apart, p0.Most⟩ : zb) v6 v8 _ h13) (ob (zt k p0 _ h15) (ob (o_cr false 6 za (p0.Letters.1 ++ [p1]) false 0 32) (ob (zt k (⟨((p0.Letters.1 ++ [p1]), (rcap false (p0.Letters.1 ++ [p1]))), p0.Far, p0.Apart, p0.Most⟩ : zb) _ h17) (ob (o_b h18) (ob (o_b h19) (ob (o_b h20) ob0)))))))))))))))))) (by kernel_rfl))
   ·exact zr (g := zE) g12 (zqc [(9, 4, 3, .ns (p0.Letters.1.map za) p0.Letters.1.length), (9, 4, 6, .ap (p0.Letters.1 ++ [p1]).length (rowO false 6 za (p0.Letters.1 ++ [p1]) true)), (9, 5, 4, .q (xi (p0.Letters.1.length : Int))), (9, 5, 5, .c (di v6)), (9, 5, 10, .q (xi (p0.Letters.1.length : Int))), (9, 5, 11, .c (di v8)), (9, 6, 3, .c (.tup [(di v10.1), (di v10.2)])), (9, 7, 3, .cr [((dl za (p0.Letters.1 ++ [p1]) (rcap false (p0.Letters.1 ++ [p1]))), (rowO false 6 za (p0.Letters.1 ++ [p1]) false))] (.tup [(di v12.1), (di v12.2)])), (9, 8, 1, .c (.tup [(di v14.1), (di v14.2)])), (9, 9, 1, .cr [((dl za (p0.Letters.1 ++ [p1]) (rcap false (p0.Letters.1 ++ [p1]))), (rowO false 6 za (p0.Letters.1 ++ [p1]) false))] (.tup [(di v16.1), (di v16.2)])), (9, 10, 1, .q (xb false)), (9, 12, 2, .q (xb false))] [(9, 1000001, (.nor, zz p0 p1 p2 false))] (ob (zD k p0 p1 p2 _ h2) (ob (zlg p0.Letters.1 za) (ob (o_ns (P := TE.P) (φ := fun _ _ => none) (T := 22) (q := (6, [(di 0), (di 0), (di 0), (di 0), (db false), (di 0)])) (c := p0.Letters.2) (e := za) p0.Letters.1 (by kernel_rfl) (fun _ => rfl) h4) (ob (rfl : (([] : List (List D)).isEmpty || !(p0.Letters.1.map za).isEmpty) = true) (ob (o_ap (b := false) (z := 6) (e := za) (l := p0.Letters.1) (w := true) p1 (fun _ => rfl) h5) (ob (zq za p0.Letters.1) (ob (zy k (p2 0) (p0.Letters.1.length : Int) _ h7) (ob (zq za p0.Letters.1) (ob (zy k (p2 1) (p0.Letters.1.length : Int) _ h9) (ob (zx k p0 v6 v8 _ h11) (ob (o_cr false 6 za (p0.Letters.1 ++ [p1]) true 0 32) (ob (zx k (⟨((p0.Letters.1 ++ [p1]), (rcap false (p0.Letters.1 ++ [p1]))), p0.Far, p0.Apart, p0.Most⟩ : zb) v6 v8 _ h13) (ob (zt k p0 _ h15) (ob (o_cr false 6 za (p0.Letters.1 ++ [p1]) false 0 32) (ob (zt k (⟨((p0.Letters.1 ++ [p1]), (rcap false (p0.Letters.1 ++ [p1]))), p0.Far, p0.Apart, p0.Most⟩ : zb) _ h17) (ob (o_b h18) (ob (o_b h19) ob0))))))))))))))))) (by kernel_rfl))
end Go.AM

namespace Go.AM
open Go
def Ok {α : Type} (o : Option α) (Q : α → Prop) : Prop := ∃ a, o = some a ∧ Q a
section
variable {α β : Type}
theorem Ok.pure {a : α} {Q : α → Prop} (h : Q a) : Ok (some a) Q := ⟨a, rfl, h⟩
theorem Ok.bind {o : Option α} {g : α → Option β} {P : α → Prop} {Q : β → Prop} (h : Ok o P) (hg : ∀ a, P a → Ok (g a) Q) : Ok (o.bind g) Q := by
 obtain ⟨a, rfl, ha⟩ := h
 exact hg a ha
theorem Ok.mono {o : Option α} {P Q : α → Prop} (h : Ok o P) (hq : ∀ a, P a → Q a) : Ok o Q := by
 obtain ⟨a, ha, hp⟩ := h
 exact ⟨a, ha, hq a hp⟩
theorem Ok.cond {b : Bool} {x y : Option α} {Q : α → Prop} (ht : b = true → Ok x Q) (hf : b = false → Ok y Q) : Ok (cond b x y) Q := by
 cases b
 ·exact hf rfl
 ·exact ht rfl
theorem Ok.eq {o : Option α} {a : α} (h : Ok o (· = a)) : o = some a := by
 obtain ⟨b, hb, rfl⟩ := h
 exact hb
theorem Ok.imp {o : Option α} {a : α} {Q : α → Prop} (h : Ok o Q) (ho : o = some a) : Q a := by
 obtain ⟨b, hb, hq⟩ := h
 rw [ho] at hb; cases hb; exact hq
theorem Ok.iter {S R : Type} {f : S → Option (S ⊕ R)} {Q : R → Prop} (I : Nat → S → Prop) (n : Nat)
  (h : ∀ j s, j ≤ n → I j s → Ok (f s) (fun x => match x with
   | .inl s' => j < n ∧ I (j + 1) s'
   | .inr r => Q r)) {k : Nat} {s : S} (h0 : I 0 s) (hk : n < k) : Ok (Go.AM.iter f k s) Q := by
 suffices ∀ m j s, j + m = n → I j s → ∀ k, m < k → Ok (Go.AM.iter f k s) Q from this n 0 s (by omega) h0 k hk
 intro m
 induction m with
 | zero =>
  intro j s hj hi k hk
  obtain ⟨k, rfl⟩ : ∃ k', k = k' + 1 := ⟨k - 1, by omega⟩
  obtain ⟨x, hx, hq⟩ := h j s (by omega) hi
  cases x with
  | inl s' => exact absurd hq.1 (by omega)
  | inr r => exact ⟨r, by simp [Go.AM.iter, hx], hq⟩
 | succ m ih =>
  intro j s hj hi k hk
  obtain ⟨k, rfl⟩ : ∃ k', k = k' + 1 := ⟨k - 1, by omega⟩
  obtain ⟨x, hx, hq⟩ := h j s (by omega) hi
  cases x with
  | inl s' =>
   obtain ⟨r, hr, hq'⟩ := ih (j + 1) s' (by omega) hq.2 k (by omega)
   exact ⟨r, by simp [Go.AM.iter, hx, hr], hq'⟩
  | inr r => exact ⟨r, by simp [Go.AM.iter, hx], hq⟩
def Goes {S R : Type} (I : S → Prop) (Q : R → Prop) : S ⊕ R → Prop
 | .inl s => I s
 | .inr r => Q r
theorem Ok.count {S R : Type} {f : S → Option (S ⊕ R)} {Q : R → Prop} (n : Nat) (I : Nat → S → Prop)
  (next : ∀ j s, j < n → I j s → Ok (f s) (Goes (I (j + 1)) Q))
  (last : ∀ s, I n s → Ok (f s) (Goes (fun _ => False) Q)) {k : Nat} {s : S} (h0 : I 0 s) (hk : n < k) : Ok (Go.AM.iter f k s) Q := by
 refine Ok.iter I n (fun j s hj hi => ?_) h0 hk
 by_cases h : j < n
 ·refine (next j s h hi).mono fun x hx => ?_
  cases x with
  | inl s' => exact ⟨h, hx⟩
  | inr r => exact hx
 ·obtain rfl : j = n := by omega
  refine (last s hi).mono fun x hx => ?_
  cases x with
  | inl s' => exact hx.elim
  | inr r => exact hx
theorem Ok.everyW {α : Type} {f : Bool × Int → Option ((Bool × Int) ⊕ (Bool × Int))} (l : List α) (p : α → Prop)
  (next : ∀ (j : Nat) (h : j < l.length), Ok (f (true, (j : Int))) (fun x => ∃ r, x = .inl (r, ((j + 1 : Nat) : Int)) ∧ (r = true ↔ p l[j])))
  (out : ∀ i, f (false, i) = some (.inr (false, i)))
  (last : f (true, (l.length : Int)) = some (.inr (true, (l.length : Int)))) {k : Nat} {acc : Bool} (hk : l.length < k) :
  Ok (Go.AM.iter f k (acc, 0)) (fun r => r.1 = true ↔ acc = true ∧ ∀ x ∈ l, p x) := by
 refine Ok.count l.length (fun j s => s.2 = (j : Int) ∧ (s.1 = true ↔ acc = true ∧ ∀ x ∈ l.take j, p x)) ?_ ?_ ⟨rfl, by simp⟩ hk
 ·rintro j ⟨a, i⟩ hj ⟨hi, ha⟩
  obtain rfl : i = (j : Int) := hi
  cases a with
  | false =>
   rw [out]
   refine Ok.pure ?_
   constructor
   ·intro h; cases h
   ·rintro ⟨h1, h2⟩
    exact ha.2 ⟨h1, fun x hx => h2 x (List.mem_of_mem_take hx)⟩
  | true =>
   refine (next j hj).mono ?_
   rintro x ⟨r, rfl, hr⟩
   refine ⟨rfl, hr.trans ?_⟩
   rw [List.take_succ_eq_append_getElem hj]
   simp only [List.mem_append, List.mem_singleton]
   obtain ⟨h1, h2⟩ := ha.1 rfl
   constructor
   ·intro h3
    exact ⟨h1, fun x hx => hx.elim (h2 x) fun e => e ▸ h3⟩
   ·rintro ⟨_, h2⟩
    exact h2 _ (.inr rfl)
 ·rintro ⟨a, i⟩ ⟨hi, ha⟩
  obtain rfl : i = (l.length : Int) := hi
  cases a with
  | false => rw [out]; refine Ok.pure ?_; simpa [Goes] using ha
  | true => rw [last]; refine Ok.pure ?_; simpa [Goes] using ha
end
theorem ztf {n : Int} (h1 : -9223372036854775808 ≤ n) (h2 : n ≤ 9223372036854775807) : w64 n = n := by
 have hd : w64 n = if n % 18446744073709551616 ≥ 9223372036854775808 then n % 18446744073709551616 - 18446744073709551616 else n % 18446744073709551616 := by
  show IntKind.wrap .i64 n = _
  have e : IntKind.wrap .i64 n = if (true && decide (n % 18446744073709551616 ≥ 9223372036854775808)) = true then n % 18446744073709551616 - 18446744073709551616 else n % 18446744073709551616 := rfl
  rw [e]
  simp
 rw [hd]
 split <;> omega
theorem zus {α : Type} {l : List α} {i : Int} (h0 : 0 ≤ i) (h : i.toNat < l.length) : idx l i = some l[i.toNat] := by
 simp [idx, h0, List.getElem?_eq_getElem h]
theorem zBc {α : Type} {l : List α} {i : Nat} (h : i < l.length) : idx l (i : Int) = some l[i] := by
 simp [idx, List.getElem?_eq_getElem h]
open Classical in
theorem zIn {κ ν : Type} {q : κ → κ → Bool} (hq : ∀ a b, q a b = true ↔ a = b) (k k' : κ) (v : ν) : ∀ m, zJ q k' (mset q k v m) = if k' = k then some v else zJ q k' m
 | [] => by
  simp only [mset, zJ]
  by_cases h : k' = k
  ·rw [(hq k' k).2 h, if_pos h]; rfl
  ·have : q k' k = false := by cases hb : q k' k; rfl; exact absurd ((hq _ _).1 hb) h
   rw [this, if_neg h]; rfl
 | p :: t => by
  have ih := zIn hq k k' v t
  simp only [mset]
  cases hk : q k p.1 with
  | true =>
   have hk' := (hq _ _).1 hk
   simp only [cond_true, zJ]
   by_cases h : k' = k
   ·rw [if_pos h, h, hk]; rfl
   ·have : q k' p.1 = false := by cases hb : q k' p.1; rfl; exact absurd ((hq _ _).1 hb) (by rw [← hk']; exact h)
    rw [this, if_neg h]; rfl
  | false =>
   simp only [cond_false, zJ]
   cases hp : q k' p.1 with
   | true =>
    by_cases h : k' = k
    ·rw [h, hk] at hp; cases hp
    ·rw [if_neg h]; rfl
   | false => exact ih
theorem z8q (f g : Nat → Bool) : ∀ n i, eqB f g i n = true ↔ ∀ j, i ≤ j → j < i + n → f j = g j
 | 0, i => by simp [eqB]; omega
 | n + 1, i => by
  simp only [eqB, Bool.and_eq_true, z8q f g n (i + 1), beq_iff_eq]
  constructor
  ·rintro ⟨h0, h⟩ j h1 h2
   by_cases hj : j = i
   ·rw [hj]; exact h0
   ·exact h j (by omega) (by omega)
  ·intro h
   exact ⟨h i (by omega) (by omega), fun j h1 h2 => h j (by omega) (by omega)⟩
end Go.AM
set_option linter.unusedVariables false
namespace Go.AM
open Go
def zmo (lim : List Int → Nat) (ok : List Int → Int → Prop) (p : List Int) (w : Int) : Prop := 0 ≤ w ∧ w < lim p ∧ ok p w
open Classical in
noncomputable def subs (lim : List Int → Nat) (ok : List Int → Int → Prop) : Nat → List Int → List (List Int)
 | 0, p => [p]
 | t + 1, p => (List.range (lim p)).flatMap fun (w : Nat) => if ok p (w : Int) then subs lim ok t (p ++ [(w : Int)]) else []
def zmv (lim : List Int → Nat) (ok : List Int → Int → Prop) (t : Nat) (p q : List Int) : Prop :=
 q.length = p.length + t ∧ q.take p.length = p ∧ ∀ i x, p.length ≤ i → q[i]? = some x → zmo lim ok (q.take i) x
theorem zGn {lim : List Int → Nat} {ok : List Int → Int → Prop} : ∀ (t : Nat) (p q : List Int), q ∈ subs lim ok t p ↔ zmv lim ok t p q
 | 0, p, q => by
  unfold subs
  rw [List.mem_singleton]
  constructor
  ·rintro rfl
   refine ⟨rfl, by rw [List.take_length], fun i x hi hx => ?_⟩
   have := (List.getElem?_eq_some_iff.1 hx).1
   omega
  ·rintro ⟨h1, h2, _⟩
   rw [← h2, List.take_of_length_le (by omega)]
 | t + 1, p, q => by
  unfold subs
  rw [List.mem_flatMap]
  constructor
  ·rintro ⟨w, hw, hq⟩
   have hw := List.mem_range.1 hw
   split at hq
   ·rename_i hok
    obtain ⟨h1, h2, h3⟩ := (zGn t _ q).1 hq
    have hlen : (p ++ [(w : Int)]).length = p.length + 1 := by simp
    rw [hlen] at h1 h2 h3
    have h4 : q.take p.length = p := by
     have := congrArg (List.take p.length) h2
     rw [List.take_take, Nat.min_eq_left (by omega)] at this
     rw [this]; simp
    have h5 : q[p.length]? = some (w : Int) := by
     have := congrArg (fun l => l[p.length]?) h2
     simpa [List.getElem?_take] using this
    refine ⟨by omega, h4, fun i x hi hx => ?_⟩
    by_cases e : i = p.length
    ·subst e
     rw [h5] at hx
     cases hx
     rw [h4]
     exact ⟨by omega, by exact_mod_cast hw, hok⟩
    ·exact h3 i x (by omega) hx
   ·simp at hq
  ·rintro ⟨h1, h2, h3⟩
   have hlt : p.length < q.length := by omega
   have hx := List.getElem?_eq_getElem hlt
   obtain ⟨g1, g2, g3⟩ := h3 _ _ (Nat.le_refl _) hx
   rw [h2] at g2 g3
   generalize q[p.length] = x at *
   obtain ⟨w, rfl⟩ : ∃ w : Nat, x = w := ⟨x.toNat, by omega⟩
   refine ⟨w, List.mem_range.2 (by exact_mod_cast g2), ?_⟩
   rw [if_pos g3]
   refine (zGn t _ q).2 ⟨by simp; omega, ?_, fun i x hi hx => h3 i x (by simp at hi; omega) hx⟩
   have hl : (p ++ [(w : Int)]).length = p.length + 1 := by simp
   rw [hl]
   obtain ⟨hlt', he⟩ := List.getElem?_eq_some_iff.1 hx
   rw [List.take_succ_eq_append_getElem hlt', h2, he]
end Go.AM
set_option linter.unusedVariables false
namespace Go.AM
open Go
theorem zBe (c x : Bool) : cond c (some x) (some false) = some (c && x) := by cases c <;> rfl
theorem zcu (c x : Bool) : cond c (some true) (some x) = some (c || x) := by cases c <;> rfl
theorem zCf {j n : Nat} (h : j < n) (hn : n < 9223372036854775808) : w64 ((j : Int) + 1) = ((j + 1 : Nat) : Int) := by
 rw [ztf (by omega) (by omega)]; push_cast; rfl
theorem zkn {n : Nat} (hn : n < 9223372036854775808) : w64 ((n : Int) - 1) = (n : Int) - 1 := ztf (by omega) (by omega)
theorem zud {α : Type} {j : Nat} {l : List α} (h : j < l.length) : decide ((j : Int) < (l.length : Int)) = true := by simp; omega
theorem zSh {α : Type} {l : List α} : decide ((l.length : Int) < (l.length : Int)) = false := by simp
theorem w8 {j : Nat} (h : j < 9) : w64 ((j : Int) + 1) = ((j + 1 : Nat) : Int) := zCf h (by omega)
theorem Ok.everyI {α : Type} {f : Bool × Int → Option ((Bool × Int) ⊕ (Bool × Int))} (l : List α) (p : Nat → α → Prop)
  (next : ∀ acc (j : Nat) (h : j < l.length), Ok (f (acc, (j : Int))) (fun x => ∃ r, x = .inl (r, ((j + 1 : Nat) : Int)) ∧ (r = true ↔ acc = true ∧ p j l[j])))
  (last : ∀ acc, f (acc, (l.length : Int)) = some (.inr (acc, (l.length : Int)))) {k : Nat} {acc : Bool} (hk : l.length < k) :
  Ok (Go.AM.iter f k (acc, 0)) (fun r => r.1 = true ↔ acc = true ∧ ∀ j (h : j < l.length), p j l[j]) := by
 refine Ok.count l.length (fun j s => s.2 = (j : Int) ∧ (s.1 = true ↔ acc = true ∧ ∀ i (h : i < l.length), i < j → p i l[i])) ?_ ?_ ⟨rfl, by simp⟩ hk
 ·rintro j ⟨a, i⟩ hj ⟨hi, ha⟩
  obtain rfl : i = (j : Int) := hi
  refine (next a j hj).mono ?_
  rintro x ⟨r, rfl, hr⟩
  refine ⟨rfl, hr.trans ?_⟩
  rw [ha]
  constructor
  ·rintro ⟨⟨h1, h2⟩, h3⟩
   refine ⟨h1, fun i h hij => ?_⟩
   by_cases e : i = j
   ·subst e; exact h3
   ·exact h2 i h (by omega)
  ·rintro ⟨h1, h2⟩
   exact ⟨⟨h1, fun i h hij => h2 i h (by omega)⟩, h2 j hj (by omega)⟩
 ·rintro ⟨a, i⟩ ⟨hi, ha⟩
  obtain rfl : i = (l.length : Int) := hi
  rw [last a]
  refine Ok.pure ?_
  show a = true ↔ _
  rw [ha]
  exact ⟨fun h => ⟨h.1, fun i hi => h.2 i hi hi⟩, fun h => ⟨h.1, fun i hi _ => h.2 i hi⟩⟩
def lt (b : zb) (i : Nat) : zm := (b.Letters.1[i]?).getD ⟨0, 0, ⟨0, 0⟩, false, 0⟩
abbrev nL (b : zb) : Nat := b.Letters.1.length
theorem zPv {b : zb} {i : Nat} (h : i < nL b) : b.Letters.1[i] = lt b i := by
 unfold lt
 rw [List.getElem?_eq_getElem h]; rfl
theorem zEh {b : zb} {i : Nat} (h : i < nL b) : idx b.Letters.1 (i : Int) = some (lt b i) := by
 rw [zBc h, zPv h]
def dayB (b : zb) : Nat → Int
 | 0 => 0
 | i + 1 => (lt b i).Day
def zsj (b : zb) (i : Nat) (x : zm) : Prop :=
 (dayB b i ≤ x.Day ∧ x.Day ≤ 20000) ∧ (0 ≤ x.Place ∧ x.Place ≤ (b.Far.1.length : Int) - 1) ∧ (0 ≤ x.Born.Low ∧ x.Born.Low ≤ x.Born.High) ∧ x.Born.High ≤ 200 ∧ (0 ≤ x.Account ∧ x.Account ≤ 1000)
def zdn (b : zb) (i : Nat) (r : SL Int) : Prop :=
 r.1.length = b.Far.1.length ∧ ∀ j (h : j < r.1.length), (0 ≤ r.1[j] ∧ r.1[j] ≤ 400) ∧ (i ≠ j ∨ r.1[j] = 0)
def zWj (b : zb) (i : Nat) (p : Nat → Int) : Prop :=
 (0 ≤ p 0 ∧ p 0 ≤ w64 (p 1 - 1)) ∧ p 1 < (nL b : Int) ∧ ∀ q ∈ b.Apart.1.take i, ¬ (q 0 = p 0 ∧ q 1 = p 1)
structure Fine (b : zb) : Prop where
 nletters : 1 ≤ nL b ∧ nL b ≤ 8
 nfar : 1 ≤ b.Far.1.length ∧ b.Far.1.length ≤ 6
 napart : b.Apart.1.length ≤ 8
 most : 1 ≤ b.Most ∧ b.Most ≤ 8
 letters : ∀ i, i < nL b → zsj b i (lt b i)
 rows : ∀ i (h : i < b.Far.1.length), zdn b i b.Far.1[i]
 apart : ∀ i (h : i < b.Apart.1.length), zWj b i b.Apart.1[i]
structure zhh (b : zb) : Prop where
 letters : nL b < 9223372036854775808
 far : b.Far.1.length < 9223372036854775808
 rows : ∀ r ∈ b.Far.1, r.1.length < 9223372036854775808
 apart : b.Apart.1.length < 9223372036854775808
structure Fuel (k : Nat) (b : zb) : Prop where
 k0 : 5000 < k
 letters : nL b < k
 far : b.Far.1.length < k
 rows : ∀ r ∈ b.Far.1, r.1.length < k
 apart : b.Apart.1.length < k
theorem z0i (k : Nat) (a b c : Int) : zN k a b c = some (decide (b ≤ a) && decide (a ≤ c)) := by
 simp only [zN, zBe]
theorem z2s (k : Nat) (b : zb) : Ok (zbe k b) (fun r => r = true ↔ (1 ≤ nL b ∧ nL b ≤ 8) ∧ (1 ≤ b.Far.1.length ∧ b.Far.1.length ≤ 6) ∧ b.Apart.1.length ≤ 8 ∧ (1 ≤ b.Most ∧ b.Most ≤ 8)) := by
 simp only [zbe, z0i, Option.bind_some, zBe]
 refine Ok.pure ?_
 simp only [Bool.and_eq_true, decide_eq_true_eq, nL]
 omega
theorem z7s {k : Nat} {b : zb} (hs : zhh b) (hk : Fuel k b) (acc : Bool) : Ok (iter (fun s => zad k b s.1 s.2.1 s.2.2) k (acc, 0, 0)) (fun r => r.1 = true ↔ acc = true ∧ ∀ i, i < nL b → zsj b i (lt b i)) := by
 refine Ok.count (nL b) (fun j s => s.2.2 = (j : Int) ∧ s.2.1 = dayB b j ∧ (s.1 = true ↔ acc = true ∧ ∀ i, i < j → zsj b i (lt b i))) ?_ ?_ ⟨rfl, rfl, by simp⟩ hk.letters
 ·rintro j ⟨a, d, i⟩ hj ⟨hi, hd, ha⟩
  obtain rfl : i = (j : Int) := hi
  obtain rfl : d = dayB b j := hd
  simp only [zad, zjf, zud hj, cond_true, zEh hj, z0i, Option.bind_some, zBe, zkn hs.far, zCf hj hs.letters]
  refine Ok.pure ⟨rfl, rfl, ?_⟩
  simp only [Bool.and_eq_true, decide_eq_true_eq]
  have ha' : a = true ↔ acc = true ∧ ∀ i, i < j → zsj b i (lt b i) := ha
  rw [ha']
  constructor
  ·rintro ⟨⟨h1, h2⟩, h3⟩
   refine ⟨h1, fun i hij => ?_⟩
   by_cases e : i = j
   ·subst e
    exact h3
   ·exact h2 i (by omega)
  ·rintro ⟨h1, h2⟩
   exact ⟨⟨h1, fun i hij => h2 i (by omega)⟩, h2 j (by omega)⟩
 ·rintro ⟨a, d, i⟩ ⟨hi, hd, ha⟩
  obtain rfl : i = (nL b : Int) := hi
  simp only [zad, zSh, cond_false]
  exact Ok.pure ha
theorem z0s {k : Nat} {b : zb} (hs : zhh b) (hk : Fuel k b) (v : Bool × Int × Int) (acc : Bool) : Ok (iter (fun s => zcd k b v s.1 s.2) k (acc, 0)) (fun r => r.1 = true ↔ acc = true ∧ ∀ i (h : i < b.Far.1.length), zdn b i b.Far.1[i]) := by
 refine Ok.everyI b.Far.1 (zdn b) (fun a j hj => ?_) (fun a => by simp [zcd]) hk.far
 have hrow := List.getElem_mem hj
 simp only [zcd, zud hj, cond_true, zBc hj, Option.bind_some, zSe, zBe]
 refine Ok.bind (Ok.everyI b.Far.1[j].1 (fun i n => (0 ≤ n ∧ n ≤ 400) ∧ (j ≠ i ∨ n = 0)) (fun a' i hi => ?_) (fun a' => by simp [zRd]) (hk.rows _ hrow)) fun r hr => ?_
 ·simp only [zRd, zWe, zud hi, cond_true, zBc hi, Option.bind_some, z0i, zcu, zBe, zCf hi (hs.rows _ hrow)]
  refine Ok.pure ⟨_, rfl, ?_⟩
  simp only [Bool.and_eq_true, Bool.or_eq_true, decide_eq_true_eq, bne_iff_ne, beq_iff_eq, ne_eq]
  have e : ((j : Int) = (i : Int)) ↔ j = i := by omega
  rw [e]
 ·refine Ok.pure ⟨r.1, by rw [zCf hj hs.far], ?_⟩
  rw [hr]
  simp only [Bool.and_eq_true, beq_iff_eq, zdn]
  constructor
  ·rintro ⟨⟨h1, h2⟩, h3⟩
   exact ⟨h1, by omega, h3⟩
  ·rintro ⟨h1, h2, h3⟩
   exact ⟨⟨h1, by omega⟩, h3⟩
theorem zSt (f g : Nat → Int) : eqI f g 0 2 = true ↔ f 0 = g 0 ∧ f 1 = g 1 := by
 simp [eqI]
theorem zEq {k : Nat} {l : SL (Nat → Int)} (p : Nat → Int) (hk : l.1.length < k) (hs : l.1.length < 9223372036854775808) : Ok (zJb k l p) (fun r => r = true ↔ ∃ q ∈ l.1, q 0 = p 0 ∧ q 1 = p 1) := by
 unfold zJb z6c
 refine Ok.bind (P := fun v : Int => 0 ≤ v ↔ ∃ q ∈ l.1, q 0 = p 0 ∧ q 1 = p 1) (Ok.bind (Ok.count l.1.length (fun j s => s = (j : Int) ∧ ¬ ∃ q ∈ l.1.take j, q 0 = p 0 ∧ q 1 = p 1) (Q := fun r : Int ⊕ Int => match r with
  | .inl z => 0 ≤ z ∧ ∃ q ∈ l.1, q 0 = p 0 ∧ q 1 = p 1
  | .inr _ => ¬ ∃ q ∈ l.1, q 0 = p 0 ∧ q 1 = p 1) ?_ ?_ ⟨rfl, by simp⟩ hk) fun r hr => ?_) fun v hv => ?_
 ·rintro j s hj ⟨rfl, hg⟩
  simp only [zIb, zud hj, cond_true, zBc hj, Option.bind_some, zCf hj hs]
  cases c : eqI p l.1[j] 0 2 with
  | true =>
   have := (zSt _ _).1 c
   exact Ok.pure ⟨by omega, _, List.getElem_mem hj, this.1.symm, this.2.symm⟩
  | false =>
   refine Ok.pure ⟨rfl, ?_⟩
   rw [List.take_succ_eq_append_getElem hj]
   rintro ⟨q, hq, h⟩
   rcases List.mem_append.1 hq with hq | hq
   ·exact hg ⟨q, hq, h⟩
   ·rw [List.mem_singleton] at hq
    subst hq
    rw [(zSt _ _).2 ⟨h.1.symm, h.2.symm⟩] at c
    cases c
 ·rintro s ⟨rfl, hg⟩
  simp only [zIb, zSh, cond_false]
  rw [List.take_length] at hg
  exact Ok.pure hg
 ·cases r with
  | inl z => exact Ok.pure ⟨fun _ => hr.2, fun _ => hr.1⟩
  | inr z => exact Ok.pure ⟨fun h => absurd h (by decide), fun h => absurd h hr⟩
 ·refine Ok.pure ?_
  rw [decide_eq_true_eq]
  exact hv
theorem zFs {k : Nat} {b : zb} (hs : zhh b) (hk : Fuel k b) (v : Bool × Int × Int) (v' : Bool × Int) (acc : Bool) : Ok (iter (fun s => zOc k b v v' s.1 s.2) k (acc, 0)) (fun r => r.1 = true ↔ acc = true ∧ ∀ i (h : i < b.Apart.1.length), zWj b i b.Apart.1[i]) := by
 refine Ok.everyI b.Apart.1 (zWj b) (fun a j hj => ?_) (fun a => by simp [zOc]) hk.apart
 simp only [zOc, zud hj, cond_true, zBc hj, Option.bind_some, zCf hj hs.apart]
 refine Ok.bind (P := fun v : Bool => v = true ↔ a = true ∧ zWj b j b.Apart.1[j]) ?_ fun v hv => Ok.pure ⟨_, rfl, hv⟩
 have c1 : (decide (0 ≤ (j : Int)) && decide ((j : Int) ≤ (b.Apart.1.length : Int))) = true := by simp; omega
 simp only [zYe, z0i, Option.bind_some, c1, cond_true, Int.toNat_natCast]
 have hlen : (b.Apart.1.take j).length ≤ b.Apart.1.length := by rw [List.length_take]; omega
 refine Ok.cond (fun ha => Ok.cond (fun hw => Ok.cond (fun hl => ?_) (fun hl => Ok.pure ?_)) (fun hw => Ok.pure ?_)) (fun ha => Ok.pure ?_)
 ·have := hk.apart
  have := hs.apart
  refine (zEq (l := (b.Apart.1.take j, _)) _ (show (b.Apart.1.take j).length < k by omega) (show (b.Apart.1.take j).length < _ by omega)).bind fun r hr => Ok.pure ?_
  simp only [Bool.and_eq_true, decide_eq_true_eq] at hw hl
  unfold zWj
  have hr' : (!r) = true ↔ ¬ ∃ q ∈ b.Apart.1.take j, q 0 = b.Apart.1[j] 0 ∧ q 1 = b.Apart.1[j] 1 := by
   rw [← hr]; cases r <;> simp
  rw [hr']
  constructor
  ·intro h
   exact ⟨ha, hw, hl, fun q hq e => h ⟨q, hq, e⟩⟩
  ·rintro ⟨_, _, _, h⟩ ⟨q, hq, e⟩
   exact h q hq e
 ·simp only [decide_eq_false_iff_not] at hl
  simp only [Bool.false_eq_true, false_iff]
  rintro ⟨_, _, h, _⟩
  exact hl h
 ·simp only [Bool.and_eq_false_iff, decide_eq_false_iff_not] at hw
  simp only [Bool.false_eq_true, false_iff]
  rintro ⟨_, h, _⟩
  rcases hw with hw | hw
  ·exact hw h.1
  ·exact hw h.2
 ·simp [ha]
theorem zNn {k : Nat} {b : zb} (hs : zhh b) (hk : Fuel k b) : Ok (zCb k b) (fun e => (e = 0 ∧ Fine b) ∨ (e = 80 ∧ ¬ Fine b)) := by
 unfold zCb
 refine (z2s k b).bind fun r1 h1 => ?_
 refine (z7s hs hk r1).bind fun r2 h2 => ?_
 refine (z0s hs hk r2 r2.1).bind fun r3 h3 => ?_
 refine (zFs hs hk r2 r3 r3.1).bind fun r4 h4 => ?_
 have h : r4.1 = true ↔ Fine b := by
  rw [h4, h3, h2, h1]
  constructor
  ·rintro ⟨⟨⟨⟨a1, a2, a3, a4⟩, a5⟩, a6⟩, a7⟩
   exact ⟨a1, a2, a3, a4, a5, a6, a7⟩
  ·rintro ⟨a1, a2, a3, a4, a5, a6, a7⟩
   exact ⟨⟨⟨⟨a1, a2, a3, a4⟩, a5⟩, a6⟩, a7⟩
 cases hb : r4.1 with
 | true => exact Ok.pure (.inl ⟨rfl, h.1 hb⟩)
 | false => exact Ok.pure (.inr ⟨rfl, fun hf => by rw [h.2 hf] at hb; cases hb⟩)
end Go.AM
set_option linter.unusedVariables false
namespace Go.AM
open Go
def AP (b : zb) (x y : Int) : Prop := ∃ p ∈ b.Apart.1, p 0 = x ∧ p 1 = y
def zcm (b : zb) (m : List (zl × Bool)) : Prop := ∀ x y, (zJ zp ⟨x, y⟩ m).getD false = true ↔ AP b x y
theorem zps (a b : zl) : zp a b = true ↔ a = b := by
 cases a
 cases b
 simp [zp]
theorem zgp {k : Nat} {b : zb} (hs : b.Apart.1.length < 9223372036854775808) (hk : b.Apart.1.length < k) : Ok (zHb k b) (fun r => ∃ m, r = ⟨b, m⟩ ∧ zcm b m) := by
 unfold zHb
 refine Ok.bind (Ok.count b.Apart.1.length (fun j s => s.1 = (j : Int) ∧ ∀ x y, (zJ zp ⟨x, y⟩ s.2).getD false = true ↔ ∃ p ∈ b.Apart.1.take j, p 0 = x ∧ p 1 = y) (Q := fun s => zcm b s.2) ?_ ?_ ⟨rfl, fun x y => by simp [zJ]⟩ hk) fun r hr => Ok.pure ⟨_, rfl, hr⟩
 ·rintro j ⟨i, m⟩ hj ⟨hi, hm⟩
  obtain rfl : i = (j : Int) := hi
  simp only [zId, zud hj, cond_true, zBc hj, Option.bind_some, zCf hj hs]
  refine Ok.pure ⟨rfl, fun x y => ?_⟩
  show (zJ zp ⟨x, y⟩ (mset zp ⟨b.Apart.1[j] 0, b.Apart.1[j] 1⟩ true m)).getD false = true ↔ _
  rw [zIn zps, List.take_succ_eq_append_getElem hj]
  by_cases e : (⟨x, y⟩ : zl) = ⟨b.Apart.1[j] 0, b.Apart.1[j] 1⟩
  ·rw [if_pos e]
   cases e
   simp only [Option.getD_some, true_iff]
   exact ⟨_, List.mem_append.2 (.inr (List.mem_singleton.2 rfl)), rfl, rfl⟩
  ·rw [if_neg e]
   refine (hm x y).trans ⟨fun ⟨p, hp, h⟩ => ⟨p, List.mem_append.2 (.inl hp), h⟩, fun ⟨p, hp, h⟩ => ?_⟩
   rcases List.mem_append.1 hp with hp | hp
   ·exact ⟨p, hp, h⟩
   ·rw [List.mem_singleton] at hp
    subst hp
    rw [h.1, h.2] at e
    exact absurd rfl e
 ·rintro ⟨i, m⟩ ⟨hi, hm⟩
  obtain rfl : i = (b.Apart.1.length : Int) := hi
  simp only [zId, zSh, cond_false]
  rw [List.take_length] at hm
  exact Ok.pure hm
def letN (p : Nat → Bool) : List Nat := (List.range 8).filter p
abbrev zPk (l : List Nat) : List Int := l.map fun (i : Nat) => (i : Int)
theorem zCg {p : Nat → Bool} {i : Nat} : i ∈ letN p ↔ i < 8 ∧ p i = true := by simp [letN]
theorem zKq (p : Nat → Bool) : (letN p).Pairwise (· < ·) := List.Pairwise.filter _ List.pairwise_lt_range
theorem zRn (p : Nat → Bool) : (letN p).length ≤ 8 := by
 have := List.length_filter_le p (List.range 8)
 rwa [List.length_range] at this
theorem zEo {k : Nat} (hk : 100 < k) (p : Nat → Bool) : Ok (zGb k p) (fun r => r.1 = zPk (letN p)) := by
 unfold zGb
 refine Ok.bind (Ok.count 8 (fun j s => s.1 = (j : Int) ∧ s.2 = zPk ((List.range j).filter p)) (Q := fun s => s.2 = zPk (letN p)) ?_ ?_ ⟨rfl, rfl⟩ (by omega)) fun r hr => Ok.pure hr
 ·rintro j ⟨i, l⟩ hj ⟨hi, hl⟩
  obtain rfl : i = (j : Int) := hi
  obtain rfl : l = _ := hl
  have c1 : decide ((j : Int) < 8) = true := by simp; omega
  have c2 : (decide (0 ≤ (j : Int)) && decide ((j : Int) < 8)) = true := by simp; omega
  have hlen : ((List.range j).filter p).length ≤ 8 := by
   have := List.length_filter_le p (List.range j)
   rw [List.length_range] at this
   omega
  have c3 : decide ((zPk ((List.range j).filter p)).length + 1 ≤ LIM) = true := by
   simp only [decide_eq_true_eq, List.length_map, LIM]
   omega
  simp only [zfc, c1, c2, c3, cond_true, Int.toNat_natCast, w8 (show j < 9 by omega)]
  cases hp : p j with
  | true =>
   refine Ok.pure ⟨rfl, ?_⟩
   show _ ++ [(j : Int)] = zPk _
   rw [List.range_succ, List.filter_append]
   simp [hp]
  | false =>
   refine Ok.pure ⟨rfl, ?_⟩
   show zPk _ = zPk _
   rw [List.range_succ, List.filter_append]
   simp [hp]
 ·rintro ⟨i, l⟩ ⟨hi, hl⟩
  obtain rfl : i = 8 := hi
  simp only [zfc]
  exact Ok.pure hl
theorem zEn {l : List Nat} {j : Nat} (h : j < l.length) : idx (zPk l) (j : Int) = some ((l[j] : Nat) : Int) := by
 rw [zBc (by simpa using h)]
 simp
theorem zvn {k : Nat} (hk : 100 < k) (a x : Int) (c : Cap) : zqb k a ([x], c) = some (if x > a then x else a) := by
 obtain ⟨n, rfl⟩ : ∃ n, k = n + 2 := ⟨k - 2, by omega⟩
 have e1 : zlb (n + 2) ([x], c) a 0 = some (.inl ((if x > a then x else a), 1)) := by
  have : w64 1 = 1 := by decide
  simp [zlb, idx, this]
 have e2 : ∀ y, zlb (n + 2) ([x], c) y 1 = some (.inr (y, 1)) := fun y => by simp [zlb]
 simp [zqb, iter, e1, e2]
def InL (l : Nat → Bool) (n i : Nat) : Prop := i = n ∨ (i < 8 ∧ l i = true)
def zVl (b : zb) (l : Nat → Bool) (n : Nat) : Prop := ∀ i j, InL l n i → InL l n j → (lt b i).Born.Low ≤ (lt b j).Born.High
theorem zdu {k : Nat} {b : zb} (hf : Fine b) (hk : 100 < k) (m : List (zl × Bool)) {l : Nat → Bool} {n : Nat} (hn : n < nL b) (hl : ∀ i, i < 8 → l i = true → i < nL b) : Ok (zMd k ⟨b, m⟩ l n) (fun r => r = true ↔ zVl b l n) := by
 unfold zMd
 rw [zEh hn]
 simp only [Option.bind_some]
 refine (zEo hk l).bind fun v hv => ?_
 have hlen := zRn l
 have bl : ∀ i, i < nL b → 0 ≤ (lt b i).Born.Low ∧ (lt b i).Born.Low ≤ (lt b i).Born.High ∧ (lt b i).Born.High ≤ 200 := fun i hi => by
  obtain ⟨_, _, h1, h2, _⟩ := hf.letters i hi
  exact ⟨h1.1, h1.2, h2⟩
 refine Ok.bind (Ok.count (letN l).length (fun j s => s.1 = (j : Int) ∧ (∃ i, (i = n ∨ i ∈ (letN l).take j) ∧ s.2.1 = (lt b i).Born.Low) ∧ (∃ i, (i = n ∨ i ∈ (letN l).take j) ∧ s.2.2 = (lt b i).Born.High) ∧ ∀ i, (i = n ∨ i ∈ (letN l).take j) → (lt b i).Born.Low ≤ s.2.1 ∧ s.2.2 ≤ (lt b i).Born.High)
  (Q := fun s => s.2.1 ≤ s.2.2 ↔ zVl b l n) ?_ ?_ ⟨rfl, ⟨n, .inl rfl, rfl⟩, ⟨n, .inl rfl, rfl⟩, ?_⟩ (by omega)) fun r hr => Ok.pure ?_
 ·rintro j ⟨i, lo, hi⟩ hj ⟨hji, ⟨i1, h1, e1⟩, ⟨i2, h2, e2⟩, h3⟩
  obtain rfl : i = (j : Int) := hji
  have e1 : lo = _ := e1
  have e2 : hi = _ := e2
  have h3 : ∀ i, (i = n ∨ i ∈ (letN l).take j) → (lt b i).Born.Low ≤ lo ∧ hi ≤ (lt b i).Born.High := h3
  have hj' : (j : Int) < (v.1.length : Int) := by rw [hv]; simp; omega
  have hm := zCg.1 (List.getElem_mem hj)
  have hx := hl _ hm.1 hm.2
  have inn : ∀ i, (i = n ∨ i ∈ (letN l).take j) → i < nL b := by
   rintro i (rfl | h)
   ·exact hn
   ·have := zCg.1 (List.mem_of_mem_take h)
    exact hl _ this.1 this.2
  have b1 := bl i1 (inn _ h1)
  have b2 := bl i2 (inn _ h2)
  have b3 := bl _ hx
  simp only [zNc, hj', decide_true, cond_true]
  rw [hv, zEn hj]
  simp only [Option.bind_some]
  rw [zEh hx]
  simp only [Option.bind_some, zvn hk]
  have tk : ∀ i, (i = n ∨ i ∈ (letN l).take (j + 1)) ↔ ((i = n ∨ i ∈ (letN l).take j) ∨ i = (letN l)[j]) := fun i => by
   rw [List.take_succ_eq_append_getElem hj, List.mem_append, List.mem_singleton, or_assoc]
  have hneg : w64 (0 - hi) = -hi := by rw [ztf (by omega) (by omega)]; omega
  generalize (letN l)[j] = x at *
  have hnegx : w64 (0 - (lt b x).Born.High) = -(lt b x).Born.High := by rw [ztf (by omega) (by omega)]; omega
  rw [hneg, hnegx]
  have hhi : w64 (0 - (if -(lt b x).Born.High > -hi then -(lt b x).Born.High else -hi)) = (if (lt b x).Born.High < hi then (lt b x).Born.High else hi) := by
   rw [ztf (by split <;> omega) (by split <;> omega)]
   split <;> split <;> omega
  rw [hhi]
  refine Ok.pure ⟨w8 (show j < 9 by omega), ?_, ?_, ?_⟩
  ·show ∃ i, _ ∧ (if (lt b x).Born.Low > lo then (lt b x).Born.Low else lo) = _
   split
   ·exact ⟨x, (tk x).2 (.inr rfl), rfl⟩
   ·exact ⟨i1, (tk i1).2 (.inl h1), e1⟩
  ·show ∃ i, _ ∧ (if (lt b x).Born.High < hi then (lt b x).Born.High else hi) = _
   split
   ·exact ⟨x, (tk x).2 (.inr rfl), rfl⟩
   ·exact ⟨i2, (tk i2).2 (.inl h2), e2⟩
  ·intro i h
   show (lt b i).Born.Low ≤ (if (lt b x).Born.Low > lo then (lt b x).Born.Low else lo) ∧ (if (lt b x).Born.High < hi then (lt b x).Born.High else hi) ≤ (lt b i).Born.High
   rcases (tk i).1 h with h | rfl
   ·have := h3 i h
    constructor <;> split <;> omega
   ·constructor <;> split <;> omega
 ·rintro ⟨i, lo, hi⟩ ⟨hji, ⟨i1, h1, e1⟩, ⟨i2, h2, e2⟩, h3⟩
  obtain rfl : i = ((letN l).length : Int) := hji
  have hj' : ¬ ((letN l).length : Int) < (v.1.length : Int) := by rw [hv]; simp
  simp only [zNc, hj', decide_false, cond_false]
  refine Ok.pure ?_
  rw [List.take_length] at h1 h2 h3
  have e1 : lo = _ := e1
  have e2 : hi = _ := e2
  have inl : ∀ i, InL l n i ↔ (i = n ∨ i ∈ letN l) := fun i => by unfold InL; rw [zCg]
  constructor
  ·intro h i j hi' hj'
   have g1 := (h3 i ((inl i).1 hi')).1
   have g2 := (h3 j ((inl j).1 hj')).2
   have h : lo ≤ hi := h
   have g1 : _ ≤ lo := g1
   have g2 : hi ≤ _ := g2
   omega
  ·intro h
   show lo ≤ hi
   rw [e1, e2]
   exact h _ _ ((inl _).2 h1) ((inl _).2 h2)
 ·intro i h
  rcases h with rfl | h
  ·exact ⟨Int.le_refl _, Int.le_refl _⟩
  ·simp at h
 ·rw [decide_eq_true_eq]; exact hr
end Go.AM
set_option linter.unusedVariables false
namespace Go.AM
open Go
def zal (l : Nat → Bool) (j : Nat) : Prop := j < 8 ∧ l j = true ∧ ∀ i, j < i → i < 8 → l i = false
theorem zal.one {l : Nat → Bool} {i j : Nat} (h : zal l i) (g : zal l j) : i = j := by
 apply Classical.byContradiction
 intro hn
 by_cases e : i < j
 ·have := h.2.2 j e g.1
  rw [g.2.1] at this
  cases this
 ·have := g.2.2 i (by omega) h.1
  rw [h.2.1] at this
  cases this
theorem zar {k : Nat} {b : zi} (hk : 100 < k) {l : Nat → Bool} (he : ∃ i, i < 8 ∧ l i = true) : Ok (zJc k b l) (fun r => ∃ j : Nat, r = (j : Int) ∧ zal l j) := by
 unfold zJc
 refine (zEo hk l).bind fun v hv => ?_
 obtain ⟨i, hi⟩ := he
 have hmem := zCg.2 hi
 have hpos : 0 < (letN l).length := List.length_pos_of_mem hmem
 have hlen := zRn l
 have e : w64 ((v.1.length : Int) - 1) = (((letN l).length - 1 : Nat) : Int) := by
  rw [hv, ztf (by simp; omega) (by simp; omega)]
  simp
  omega
 have hlt : (letN l).length - 1 < (letN l).length := by omega
 rw [e, hv, zEn hlt]
 simp only [Option.bind_some]
 have hm := zCg.1 (List.getElem_mem hlt)
 refine Ok.pure ⟨_, rfl, hm.1, hm.2, fun i hi1 hi2 => ?_⟩
 cases hli : l i with
 | false => rfl
 | true =>
  obtain ⟨a, ha, hx⟩ := List.getElem_of_mem (zCg.2 ⟨hi2, hli⟩)
  by_cases e : a = (letN l).length - 1
  ·subst e
   omega
  ·have := List.pairwise_iff_getElem.1 (zKq l) a _ ha hlt (by omega)
   omega
def farB (b : zb) (i j : Nat) : Int := (((b.Far.1[(lt b i).Place.toNat]?).getD ([], .nil)).1[(lt b j).Place.toNat]?).getD 0
theorem zFu {b : zb} (hf : Fine b) {i j : Nat} (hi : i < nL b) (hj : j < nL b) : ∃ row, idx b.Far.1 (lt b i).Place = some row ∧ idx row.1 (lt b j).Place = some (farB b i j) ∧ 0 ≤ farB b i j ∧ farB b i j ≤ 400 := by
 obtain ⟨_, p1, _⟩ := hf.letters i hi
 obtain ⟨_, p2, _⟩ := hf.letters j hj
 have h1 : (lt b i).Place.toNat < b.Far.1.length := by omega
 obtain ⟨hl, hr⟩ := hf.rows _ h1
 have h2 : (lt b j).Place.toNat < b.Far.1[(lt b i).Place.toNat].1.length := by omega
 have e : farB b i j = b.Far.1[(lt b i).Place.toNat].1[(lt b j).Place.toNat] := by
  unfold farB
  rw [List.getElem?_eq_getElem h1, Option.getD_some, List.getElem?_eq_getElem h2, Option.getD_some]
 refine ⟨_, zus p1.1 h1, ?_, ?_⟩
 ·rw [e]; exact zus p2.1 h2
 ·rw [e]; exact (hr _ h2).1
def WayP (b : zb) (l : Nat → Bool) (n : Nat) : Prop := ∀ j, zal l j → farB b j n ≤ (lt b n).Day - (lt b j).Day
def z8k (b : zb) (l : Nat → Bool) : Prop := ∀ j, zal l j → (lt b j).Dead = false
def z1i (b : zb) (l : Nat → Bool) (n : Nat) : Prop := ∀ i, i < 8 → l i = true → ¬ AP b (i : Int) (n : Int)
theorem zWq {b : zb} (hf : Fine b) : ∀ i, i ≤ nL b → 0 ≤ dayB b i
 | 0, _ => Int.le_refl _
 | i + 1, h => Int.le_trans (zWq hf i (by omega)) (hf.letters i h).1.1
theorem zms {b : zb} (hf : Fine b) {i : Nat} (hi : i < nL b) : 0 ≤ (lt b i).Day ∧ (lt b i).Day ≤ 20000 :=
 ⟨Int.le_trans (zWq hf i (by omega)) (hf.letters i hi).1.1, (hf.letters i hi).1.2⟩
theorem ztu {k : Nat} {b : zb} (hf : Fine b) (hk : 100 < k) (m : List (zl × Bool)) {l : Nat → Bool} {n : Nat} (hn : n < nL b) (hl : ∀ i, i < 8 → l i = true → i < nL b) (he : ∃ i, i < 8 ∧ l i = true) : Ok (z7d k ⟨b, m⟩ l n) (fun r => r = true ↔ WayP b l n) := by
 unfold z7d
 refine (zar hk he).bind fun v hv => ?_
 obtain ⟨j, rfl, hj⟩ := hv
 have hjn := hl j hj.1 hj.2.1
 obtain ⟨row, r1, r2, r3⟩ := zFu hf hjn hn
 have d1 := zms hf hjn
 have d2 := zms hf hn
 rw [zEh hjn]
 simp only [Option.bind_some]
 rw [zEh hn]
 simp only [Option.bind_some]
 rw [r1]
 simp only [Option.bind_some]
 rw [r2]
 simp only [Option.bind_some]
 refine Ok.pure ?_
 rw [ztf (by omega) (by omega), decide_eq_true_eq]
 constructor
 ·intro h i hi
  obtain rfl := hj.one hi
  exact h
 ·intro h
  exact h j hj
theorem zyt {k : Nat} {b : zb} (hk : 100 < k) (m : List (zl × Bool)) {l : Nat → Bool} (n : Int) (hl : ∀ i, i < 8 → l i = true → i < nL b) (he : ∃ i, i < 8 ∧ l i = true) : Ok (zmd k ⟨b, m⟩ l n) (fun r => r = true ↔ z8k b l) := by
 unfold zmd
 refine (zar hk he).bind fun v hv => ?_
 obtain ⟨j, rfl, hj⟩ := hv
 rw [zEh (hl j hj.1 hj.2.1)]
 simp only [Option.bind_some]
 refine Ok.pure ?_
 constructor
 ·intro h i hi
  obtain rfl := hj.one hi
  simpa using h
 ·intro h
  simp [h j hj]
theorem zqt {k : Nat} {b : zb} (hk : 100 < k) {m : List (zl × Bool)} (hm : zcm b m) (l : Nat → Bool) (n : Nat) : Ok (znd k ⟨b, m⟩ l n) (fun r => r = true ↔ z1i b l n) := by
 unfold znd
 refine (zEo hk l).bind fun v hv => ?_
 have hlen := zRn l
 refine Ok.bind (Ok.count (letN l).length (fun j s => s = (j : Int) ∧ ∀ i ∈ (letN l).take j, ¬ AP b (i : Int) (n : Int)) (Q := fun r : (Int × Int) ⊕ Int => match r with
  | .inl _ => ¬ z1i b l n
  | .inr _ => z1i b l n) ?_ ?_ ⟨rfl, by simp⟩ (by omega)) fun r hr => ?_
 ·rintro j s hj ⟨rfl, hg⟩
  have hj' : (j : Int) < (v.1.length : Int) := by rw [hv]; simp; omega
  have hx := zCg.1 (List.getElem_mem hj)
  simp only [zGc, hj', decide_true, cond_true]
  rw [hv, zEn hj]
  simp only [Option.bind_some, w8 (show j < 9 by omega)]
  have hmx := hm ((letN l)[j] : Nat) n
  refine Ok.cond (fun h => ?_) (fun h => ?_)
  ·exact Ok.pure fun hp => hp _ hx.1 hx.2 (hmx.1 h)
  ·refine Ok.pure ⟨rfl, fun i hi => ?_⟩
   rw [List.take_succ_eq_append_getElem hj] at hi
   rcases List.mem_append.1 hi with hi | hi
   ·exact hg i hi
   ·rw [List.mem_singleton] at hi
    subst hi
    intro ha
    have := hmx.2 ha
    rw [h] at this
    cases this
 ·rintro s ⟨rfl, hg⟩
  have hj' : ¬ ((letN l).length : Int) < (v.1.length : Int) := by rw [hv]; simp
  simp only [zGc, hj', decide_false, cond_false]
  rw [List.take_length] at hg
  exact Ok.pure fun i hi hli => hg i (zCg.2 ⟨hi, hli⟩)
 ·cases r with
  | inl z => exact Ok.pure ⟨fun h => (by cases h), fun h => absurd h hr⟩
  | inr z => exact Ok.pure ⟨fun _ => hr, fun _ => rfl⟩
def CanP (b : zb) (l : Nat → Bool) (n : Nat) : Prop := (∀ i, i < 8 → l i = false) ∨ (zVl b l n ∧ WayP b l n ∧ z8k b l ∧ z1i b l n)
theorem ziu {k : Nat} {b : zb} (hf : Fine b) (hk : 100 < k) {m : List (zl × Bool)} (hm : zcm b m) {l : Nat → Bool} {n : Nat} (hn : n < nL b) (hl : ∀ i, i < 8 → l i = true → i < nL b) : Ok (zgb k ⟨b, m⟩ l n) (fun r => r = true ↔ CanP b l n) := by
 unfold zgb zig
 simp only [Option.bind_some]
 have h0 : eqB l (fun _ => false) 0 8 = true ↔ ∀ i, i < 8 → l i = false := by
  rw [z8q]
  exact ⟨fun h i hi => h i (by omega) (by omega), fun h i _ hi => h i (by omega)⟩
 refine Ok.cond (fun h => Ok.pure ⟨fun _ => .inl (h0.1 h), fun _ => rfl⟩) fun h => ?_
 have hne : ¬ ∀ i, i < 8 → l i = false := fun hh => by rw [h0.2 hh] at h; cases h
 have he : ∃ i, i < 8 ∧ l i = true := by
  apply Classical.byContradiction
  intro hno
  apply hne
  intro i hi
  cases hc : l i with
  | false => rfl
  | true => exact absurd ⟨i, hi, hc⟩ hno
 have hcan : CanP b l n ↔ zVl b l n ∧ WayP b l n ∧ z8k b l ∧ z1i b l n := ⟨fun h => h.elim (fun h => absurd h hne) id, .inr⟩
 rw [hcan]
 refine Ok.bind (Ok.count 4 (fun j s => s = (j : Int) ∧ (1 ≤ j → zVl b l n) ∧ (2 ≤ j → WayP b l n) ∧ (3 ≤ j → z8k b l) ∧ (4 ≤ j → z1i b l n))
  (Q := fun r : Int ⊕ (Int ⊕ (Int ⊕ (Int ⊕ Int))) => match r with
   | .inr (.inr (.inr (.inr _))) => zVl b l n ∧ WayP b l n ∧ z8k b l ∧ z1i b l n
   | _ => ¬ (zVl b l n ∧ WayP b l n ∧ z8k b l ∧ z1i b l n)) ?_ ?_ ⟨rfl, by omega, by omega, by omega, by omega⟩ (by omega)) fun r hr => ?_
 ·rintro j s hj ⟨rfl, g1, g2, g3, g4⟩
  have c1 : decide ((j : Int) < 4) = true := by simp; omega
  simp only [zle, c1, cond_true]
  obtain rfl | rfl | rfl | rfl : j = 0 ∨ j = 1 ∨ j = 2 ∨ j = 3 := by omega
  ·refine (zdu hf hk m hn hl).bind fun r hr => ?_
   cases r with
   | false => exact Ok.pure fun h => by have := hr.2 h.1; cases this
   | true => exact Ok.pure ⟨by decide, fun _ => hr.1 rfl, by omega, by omega, by omega⟩
  ·refine (ztu hf hk m hn hl he).bind fun r hr => ?_
   cases r with
   | false => exact Ok.pure fun h => by have := hr.2 h.2.1; cases this
   | true => exact Ok.pure ⟨by decide, fun _ => g1 (by omega), fun _ => hr.1 rfl, by omega, by omega⟩
  ·refine (zyt hk m n hl he).bind fun r hr => ?_
   cases r with
   | false => exact Ok.pure fun h => by have := hr.2 h.2.2.1; cases this
   | true => exact Ok.pure ⟨by decide, fun _ => g1 (by omega), fun _ => g2 (by omega), fun _ => hr.1 rfl, by omega⟩
  ·refine (zqt hk hm l n).bind fun r hr => ?_
   cases r with
   | false => exact Ok.pure fun h => by have := hr.2 h.2.2.2; cases this
   | true => exact Ok.pure ⟨by decide, fun _ => g1 (by omega), fun _ => g2 (by omega), fun _ => g3 (by omega), fun _ => hr.1 rfl⟩
 ·rintro s ⟨rfl, g1, g2, g3, g4⟩
  exact Ok.pure ⟨g1 (by omega), g2 (by omega), g3 (by omega), g4 (by omega)⟩
 ·rcases r with r | r | r | r | r
  ·exact Ok.pure ⟨fun h => (by cases h), fun h => absurd h hr⟩
  ·exact Ok.pure ⟨fun h => (by cases h), fun h => absurd h hr⟩
  ·exact Ok.pure ⟨fun h => (by cases h), fun h => absurd h hr⟩
  ·exact Ok.pure ⟨fun h => (by cases h), fun h => absurd h hr⟩
  ·exact Ok.pure ⟨fun _ => hr, fun _ => rfl⟩
end Go.AM
set_option linter.unusedVariables false
namespace Go.AM
open Go
def zV (q : List Int) : Int := q.foldl (fun n w => if w + 1 > n then w + 1 else n) 0
theorem zLi (q : List Int) (w : Int) : zV (q ++ [w]) = if w + 1 > zV q then w + 1 else zV q := by
 unfold zV
 rw [List.foldl_append]; rfl
def Ppl (q : List Int) : Prop := q.length ≤ 8 ∧ ∀ x ∈ q, 0 ≤ x ∧ x ≤ 100
theorem Ppl.take {q : List Int} (h : Ppl q) (i : Nat) : Ppl (q.take i) := ⟨by rw [List.length_take]; have := h.1; omega, fun x hx => h.2 x (List.mem_of_mem_take hx)⟩
theorem zNo {α : Type} {P : List α → Prop} (h0 : P []) (h1 : ∀ l x, P l → P (l ++ [x])) (l : List α) : P l := by
 have : ∀ l : List α, P l.reverse := by
  intro l
  induction l with
  | nil => exact h0
  | cons x t ih => rw [List.reverse_cons]; exact h1 _ _ ih
 have := this l.reverse
 rwa [List.reverse_reverse] at this
theorem z5o {q : List Int} : (∀ x ∈ q, 0 ≤ x ∧ x ≤ 100) → 0 ≤ zV q ∧ zV q ≤ 101 := by
 refine zNo (P := fun q => (∀ x ∈ q, 0 ≤ x ∧ x ≤ 100) → 0 ≤ zV q ∧ zV q ≤ 101) ?_ ?_ q
 ·intro _
  exact ⟨by decide, by decide⟩
 ·intro l x ih h
  have h1 := ih fun y hy => h y (List.mem_append.2 (.inl hy))
  have h2 := h x (by simp)
  rw [zLi]
  split <;> omega
theorem z3r {q : List Int} : ∀ x ∈ q, x + 1 ≤ zV q := by
 refine zNo (P := fun q => ∀ x ∈ q, x + 1 ≤ zV q) ?_ ?_ q
 ·simp
 ·intro l x ih y hy
  rw [zLi]
  rcases List.mem_append.1 hy with hy | hy
  ·have := ih y hy
   split <;> omega
  ·rw [List.mem_singleton] at hy
   subst hy
   split <;> omega
theorem zKs {q : List Int} {n : Int} : 0 ≤ n → (∀ x ∈ q, x + 1 ≤ n) → zV q ≤ n := by
 intro h0
 refine zNo (P := fun q => (∀ x ∈ q, x + 1 ≤ n) → zV q ≤ n) ?_ ?_ q
 ·intro _; exact h0
 ·intro l x ih h
  have h1 := ih fun y hy => h y (List.mem_append.2 (.inl hy))
  have h2 := h x (by simp)
  rw [zLi]
  split <;> omega
theorem zSj {k : Nat} (hk : 100 < k) {q : SL Int} (hq : Ppl q.1) : Ok (ztb k q) (fun r => r = zV q.1) := by
 unfold ztb
 have hlen := hq.1
 refine Ok.bind (Ok.count q.1.length (fun j s => s.2 = (j : Int) ∧ s.1 = zV (q.1.take j)) (Q := fun s => s.1 = zV q.1) ?_ ?_ ⟨rfl, rfl⟩ (by omega)) fun r hr => Ok.pure hr
 ·rintro j ⟨n, i⟩ hj ⟨hi, hn⟩
  obtain rfl : i = (j : Int) := hi
  obtain rfl : n = _ := hn
  have hx := hq.2 _ (List.getElem_mem hj)
  simp only [zve, zud hj, cond_true, zBc hj, Option.bind_some, zvn hk, w8 (show j < 9 by omega)]
  refine Ok.pure ⟨rfl, ?_⟩
  show (if _ > _ then _ else _) = _
  rw [List.take_succ_eq_append_getElem hj, zLi, ztf (by omega) (by omega)]
 ·rintro ⟨n, i⟩ ⟨hi, hn⟩
  obtain rfl : i = (q.1.length : Int) := hi
  simp only [zve, zSh, cond_false]
  rw [List.take_length] at hn
  exact Ok.pure hn
def zXn (b : zb) (q : List Int) (n : Nat) (w : Int) : Prop := ∀ i x, q[i]? = some x → 0 < (lt b i).Account → (lt b i).Account = (lt b n).Account → x = w
theorem zht {k : Nat} {b : zb} (hf : Fine b) (hk : 100 < k) (m : List (zl × Bool)) {q : SL Int} {n : Nat} (hn : n < nL b) (hq : q.1.length ≤ nL b) (w : Int) : Ok (zbb k ⟨b, m⟩ q n w) (fun r => r = true ↔ zXn b q.1 n w) := by
 unfold zbb
 have h8 := hf.nletters
 refine Ok.bind (Ok.count q.1.length (fun j s => s = (j : Int) ∧ ∀ i x, i < j → q.1[i]? = some x → 0 < (lt b i).Account → (lt b i).Account = (lt b n).Account → x = w) (Q := fun r : (Int × Int × Bool) ⊕ Int => match r with
  | .inl _ => ¬ zXn b q.1 n w
  | .inr _ => zXn b q.1 n w) ?_ ?_ ⟨rfl, by omega⟩ (by omega)) fun r hr => ?_
 ·rintro j s hj ⟨rfl, hg⟩
  have hjn : j < nL b := by omega
  simp only [zDc, zud hj, cond_true, zBc hj, Option.bind_some, zAd, w8 (show j < 9 by omega)]
  rw [zEh hjn]
  simp only [Option.bind_some]
  rw [zEh hn]
  simp only [Option.bind_some, zBe, zyd]
  refine Ok.cond (fun h => ?_) (fun h => ?_)
  ·refine Ok.pure fun hp => ?_
   simp only [Bool.and_eq_true, decide_eq_true_eq, beq_iff_eq, bne_iff_ne] at h
   exact h.2 (hp j _ (List.getElem?_eq_getElem hj) h.1.1 h.1.2)
  ·refine Ok.pure ⟨rfl, fun i x hij hx h1 h2 => ?_⟩
   by_cases e : i = j
   ·subst e
    rw [List.getElem?_eq_getElem hj] at hx
    cases hx
    apply Classical.byContradiction
    intro hne
    have : (decide ((lt b i).Account > 0) && ((lt b i).Account == (lt b n).Account) && (q.1[i] != w)) = true := by
     simp only [Bool.and_eq_true, decide_eq_true_eq, beq_iff_eq, bne_iff_ne]
     exact ⟨⟨h1, h2⟩, hne⟩
    rw [this] at h
    cases h
   ·exact hg i x (by omega) hx h1 h2
 ·rintro s ⟨rfl, hg⟩
  simp only [zDc, zSh, cond_false]
  exact Ok.pure fun i x hx => hg i x (List.getElem?_eq_some_iff.1 hx).1 hx
 ·cases r with
  | inl z => exact Ok.pure ⟨fun h => (by cases h), fun h => absurd h hr⟩
  | inr z => exact Ok.pure ⟨fun _ => hr, fun _ => rfl⟩
def zfh (q : List Int) (w : Int) : Nat → Bool := fun i => decide (q[i]? = some w)
theorem z9s {k : Nat} (hk : 100 < k) {q : SL Int} (hq : q.1.length ≤ 8) (w : Int) : Ok (zYb k q w) (fun r => r = zfh q.1 w) := by
 unfold zYb
 refine Ok.bind (Ok.count q.1.length (fun j s => s.1 = (j : Int) ∧ s.2 = zfh (q.1.take j) w) (Q := fun s => s.2 = zfh q.1 w) ?_ ?_ ⟨rfl, by funext i; simp [zfh]⟩ (by omega)) fun r hr => Ok.pure hr
 ·rintro j ⟨i, f⟩ hj ⟨hi, hf⟩
  obtain rfl : i = (j : Int) := hi
  obtain rfl : f = _ := hf
  have c2 : (decide (0 ≤ (j : Int)) && decide ((j : Int) < 8)) = true := by simp; omega
  simp only [z6d, zud hj, cond_true, zBc hj, Option.bind_some, c2, Int.toNat_natCast, w8 (show j < 9 by omega)]
  refine Ok.pure ⟨rfl, ?_⟩
  show upd _ _ _ = _
  funext i
  unfold upd zfh
  by_cases e : i = j
  ·subst e
   simp [List.getElem?_take, List.getElem?_eq_getElem hj]
   exact Bool.eq_iff_iff.2 (by simp)
  ·rw [if_neg e]
   by_cases hlt : i < j
   ·simp [List.getElem?_take, hlt, show i < j + 1 by omega]
   ·simp [List.getElem?_take, hlt, show ¬ i < j + 1 by omega]
 ·rintro ⟨i, f⟩ ⟨hi, hf⟩
  obtain rfl : i = (q.1.length : Int) := hi
  simp only [z6d, zSh, cond_false]
  rw [List.take_length] at hf
  exact Ok.pure hf
def lim (b : zb) (q : List Int) : Nat := (if zV q + 1 < b.Most then zV q + 1 else b.Most).toNat
def okP (b : zb) (q : List Int) (w : Int) : Prop := zXn b q q.length w ∧ CanP b (zfh q w) q.length
def Pre (b : zb) (q : List Int) : Prop := ∀ i x, q[i]? = some x → zmo (lim b) (okP b) (q.take i) x
noncomputable def Tr (b : zb) : List (List Int) := subs (lim b) (okP b) (nL b) []
theorem zki {b : zb} {q : List Int} : q ∈ Tr b ↔ q.length = nL b ∧ Pre b q := by
 unfold Tr
 rw [zGn]
 constructor
 ·rintro ⟨h1, _, h3⟩
  exact ⟨by simpa using h1, fun i x hx => h3 i x (Nat.zero_le _) hx⟩
 ·rintro ⟨h1, h2⟩
  exact ⟨by simpa using h1, rfl, fun i x _ hx => h2 i x hx⟩
theorem zZj {b : zb} (hf : Fine b) (q : List Int) : lim b q ≤ 8 := by
 have := hf.most
 unfold lim
 split <;> omega
theorem z9p {lim : List Int → Nat} {ok : List Int → Int → Prop} (h : ∀ q, lim q ≤ 8) : ∀ t p, (subs lim ok t p).length ≤ 8 ^ t
 | 0, p => by simp [subs]
 | t + 1, p => by
  unfold subs
  rw [List.length_flatMap]
  have : ∀ n : Nat, ((List.range n).map fun w : Nat => (open Classical in if ok p (w : Int) then subs lim ok t (p ++ [(w : Int)]) else []).length).sum ≤ n * 8 ^ t := by
   intro n
   induction n with
   | zero => simp
   | succ n ih =>
    rw [List.range_succ, List.map_append, List.sum_append, Nat.succ_mul]
    have : (open Classical in if ok p (n : Int) then subs lim ok t (p ++ [(n : Int)]) else []).length ≤ 8 ^ t := by
     split
     ·exact z9p h t _
     ·simp
    simp only [List.map_cons, List.map_nil, List.sum_cons, List.sum_nil]
    omega
  refine Nat.le_trans (this _) ?_
  rw [Nat.pow_succ, Nat.mul_comm]
  exact Nat.mul_le_mul_left _ (h p)
theorem zLs {b : zb} (hf : Fine b) : (Tr b).length ≤ 16777216 := by
 refine Nat.le_trans (z9p (zZj hf) _ _) ?_
 refine Nat.le_trans (Nat.pow_le_pow_right (by omega) hf.nletters.2) ?_
 decide
theorem Pre.ppl {b : zb} (hf : Fine b) {q : List Int} (h : Pre b q) : ∀ x ∈ q, 0 ≤ x ∧ x ≤ 7 := by
 intro x hx
 obtain ⟨i, hi, rfl⟩ := List.getElem_of_mem hx
 obtain ⟨h1, h2, _⟩ := h i _ (List.getElem?_eq_getElem hi)
 have := zZj hf (q.take i)
 exact ⟨h1, by omega⟩
theorem Pre.Ppl {b : zb} (hf : Fine b) {q : List Int} (h : Pre b q) (hl : q.length ≤ nL b) : Ppl q :=
 ⟨by have := hf.nletters; omega, fun x hx => by have := h.ppl hf x hx; omega⟩
theorem Pre.snoc {b : zb} {q : List Int} {w : Int} : Pre b (q ++ [w]) ↔ Pre b q ∧ zmo (lim b) (okP b) q w := by
 constructor
 ·intro h
  refine ⟨fun i x hx => ?_, ?_⟩
  ·have hi := (List.getElem?_eq_some_iff.1 hx).1
   have := h i x (by rw [List.getElem?_append_left hi]; exact hx)
   rwa [List.take_append_of_le_length (by omega)] at this
  ·have := h q.length w (by simp)
   rwa [List.take_left'  rfl] at this
 ·rintro ⟨h1, h2⟩ i x hx
  by_cases hi : i < q.length
  ·rw [List.getElem?_append_left hi] at hx
   rw [List.take_append_of_le_length (by omega)]
   exact h1 i x hx
  ·have hlt := (List.getElem?_eq_some_iff.1 hx).1
   simp only [List.length_append, List.length_cons, List.length_nil] at hlt
   obtain rfl : i = q.length := by omega
   simp at hx
   subst hx
   rw [List.take_left' rfl]
   exact h2
theorem Pre.take {b : zb} {q : List Int} (h : Pre b q) (i : Nat) : Pre b (q.take i) := by
 intro j x hx
 have hj : j < i := by
  have := (List.getElem?_eq_some_iff.1 hx).1
  rw [List.length_take] at this
  omega
 rw [List.getElem?_take, if_pos hj] at hx
 rw [List.take_take, Nat.min_eq_left (by omega)]
 exact h j x hx
theorem zgn {k : Nat} {b : zb} (hf : Fine b) (hk : 100 < k) {m : List (zl × Bool)} (hm : zcm b m) {q : SL Int} (hq : q.1.length < nL b) (w : Int) :
  Ok ((zbb k ⟨b, m⟩ q (q.1.length : Int) w).bind fun v501 => cond (!v501) (some true) ((zYb k q w).bind fun v504 => (zgb k ⟨b, m⟩ v504 (q.1.length : Int)).bind fun v506 => some (!v506))) (fun r => r = true ↔ ¬ okP b q.1 w) := by
 have h8 := hf.nletters
 refine (zht hf hk m hq (by omega) w).bind fun v hv => ?_
 unfold okP
 cases v with
 | false => exact Ok.pure ⟨fun _ h => (by have := hv.2 h.1; cases this), fun _ => rfl⟩
 | true =>
  have hn := hv.1 rfl
  refine (z9s hk (by omega) w).bind fun l hl => ?_
  subst hl
  refine (ziu hf hk hm hq fun i _ h => ?_).bind fun r hr => Ok.pure ?_
  ·have : q.1[i]? = some w := by simpa [zfh] using h
   have := (List.getElem?_eq_some_iff.1 this).1
   omega
  ·cases r with
   | false => exact ⟨fun _ h => (by have := hr.2 h.2; cases this), fun _ => rfl⟩
   | true => exact ⟨fun h => (by cases h), fun h => absurd ⟨hn, hr.1 rfl⟩ h⟩
end Go.AM
set_option linter.unusedVariables false
namespace Go.AM
open Go
theorem zQj {b : zb} (hf : Fine b) {q : List Int} (hq : Ppl q) (j : Nat) : (j : Int) < (if w64 (zV q + 1) < b.Most then w64 (zV q + 1) else b.Most) ↔ j < lim b q := by
 have h := z5o hq.2
 have := hf.most
 rw [ztf (by omega) (by omega)]
 unfold lim
 split <;> omega
theorem z5q {S : Type} {b : zb} (hf : Fine b) {k : Nat} (hk : 100 < k) (it : Nat → S → SL Int → Option S) (L : Nat → SL Int → Int × S → Option ((Int × S) ⊕ (Int × S))) (Inv : List (List Int) → S → Prop)
  (leaf : ∀ n s (q : SL Int) T, q.1.length = nL b → q.1 ∈ Tr b → q.2 ≠ .nil → Inv T s → Ok (it (n + 1) s q) (Inv (T ++ [q.1])))
  (node : ∀ n s (q : SL Int), q.1.length < nL b → Ppl q.1 → Ok (iter (L n q) k (0, s)) (fun _ => True) → it (n + 1) s q = (iter (L n q) k (0, s)).bind fun v => some v.2)
  (hend : ∀ n s (q : SL Int) (j : Nat), q.1.length < nL b → Ppl q.1 → ¬ j < lim b q.1 → L n q ((j : Int), s) = some (.inr ((j : Int), s)))
  (hskip : ∀ n s (q : SL Int) (j : Nat), q.1.length < nL b → Ppl q.1 → j < lim b q.1 → ¬ okP b q.1 (j : Int) → L n q ((j : Int), s) = some (.inl (((j + 1 : Nat) : Int), s)))
  (hgo : ∀ n s (q : SL Int) (j : Nat), q.1.length < nL b → Ppl q.1 → j < lim b q.1 → okP b q.1 (j : Int) → L n q ((j : Int), s) = (it n s (q.1 ++ [(j : Int)], .ro)).bind fun s' => some (.inl (((j + 1 : Nat) : Int), s'))) :
  ∀ (t n : Nat) (s : S) (q : SL Int) (T : List (List Int)), q.1.length + t = nL b → t < n → Pre b q.1 → (q.2 = .nil → q.1 = []) → Inv T s → Ok (it n s q) (Inv (T ++ subs (lim b) (okP b) t q.1)) := by
 intro t
 induction t with
 | zero =>
  intro n s q T hl hn hp hc hi
  obtain ⟨n, rfl⟩ : ∃ n', n = n' + 1 := ⟨n - 1, by omega⟩
  unfold subs
  refine leaf n s q T (by omega) (zki.2 ⟨by omega, hp⟩) (fun e => ?_) hi
  have := hf.nletters
  rw [hc e] at hl
  simp at hl
  omega
 | succ t ih =>
  intro n s q T hl hn hp hc hi
  obtain ⟨n, rfl⟩ : ∃ n', n = n' + 1 := ⟨n - 1, by omega⟩
  have hq : q.1.length < nL b := by omega
  have hppl := hp.Ppl hf (by omega)
  have hlim := zZj hf q.1
  have key : Ok (iter (L n q) k (0, s)) (fun v => Inv (T ++ subs (lim b) (okP b) (t + 1) q.1) v.2) := by
   refine Ok.count (lim b q.1) (fun j v => v.1 = (j : Int) ∧ Inv (T ++ (List.range j).flatMap fun w : Nat => (open Classical in if okP b q.1 (w : Int) then subs (lim b) (okP b) t (q.1 ++ [(w : Int)]) else [])) v.2) ?_ ?_ ⟨rfl, by simpa using hi⟩ (by omega)
   ·rintro j ⟨i, s'⟩ hj ⟨hij, hinv⟩
    obtain rfl : i = (j : Int) := hij
    rw [List.range_succ, List.flatMap_append, ← List.append_assoc]
    by_cases ho : okP b q.1 (j : Int)
    ·rw [hgo n s' q j hq hppl hj ho]
     refine (ih n s' (q.1 ++ [(j : Int)], .ro) _ (by simp; omega) (by omega) (Pre.snoc.2 ⟨hp, by omega, by omega, ho⟩) (fun e => by cases e) hinv).bind fun r hr => Ok.pure ⟨rfl, ?_⟩
     simpa [ho] using hr
    ·rw [hskip n s' q j hq hppl hj ho]
     refine Ok.pure ⟨rfl, ?_⟩
     simpa [ho] using hinv
   ·rintro ⟨i, s'⟩ ⟨hij, hinv⟩
    obtain rfl : i = (lim b q.1 : Int) := hij
    rw [hend n s' q _ hq hppl (by omega)]
    refine Ok.pure ?_
    unfold subs
    exact hinv
  rw [node n s q hq hppl (key.mono fun _ _ => trivial)]
  exact key.bind fun v hv => Ok.pure hv
theorem z7q (c : Cap) : decide (ccap c = Cap.ro) = false := by
 unfold ccap
 split <;> rfl
theorem z2q {q : List Int} (h : q.length ≤ 8) : decide (q.length + 1 ≤ LIM) = true := by
 refine decide_eq_true ?_
 show q.length + 1 ≤ 1073741824
 omega
end Go.AM
set_option linter.unusedVariables false
namespace Go.AM
open Go
def zfs (T : List (List Int)) (s : SL Int) : Prop := (T = [] ∧ s.1 = [] ∧ s.2 = .nil) ∨ (s.2 ≠ .nil ∧ s.1 ∈ T ∧ ∀ p ∈ T, zV s.1 ≤ zV p)
theorem zLr {k : Nat} {b : zb} (hf : Fine b) (hk : 100 < k) {m : List (zl × Bool)} (hm : zcm b m) (v : Int) : Ok (zib k b v (b.Letters, b.Far, b.Apart, b.Most, m) 9 ([], .nil) ([], .nil)) (fun r => zfs (Tr b) r) := by
 have h8 := hf.nletters
 have := z5q hf hk (fun n s q => zib k b v (b.Letters, b.Far, b.Apart, b.Most, m) n s q)
  (fun n q z => zwc k b v (b.Letters, b.Far, b.Apart, b.Most, m) q (zV q.1) (zib k b v (b.Letters, b.Far, b.Apart, b.Most, m) n) z.1 z.2)
  (fun T s => (∀ p ∈ T, p ∈ Tr b) ∧ zfs T s) ?_ ?_ ?_ ?_ ?_ (nL b) 9 ([], .nil) ([], .nil) [] (by simp) (by omega) (fun i x hx => by simp at hx) (fun _ => rfl) ⟨fun p hp => (by simp at hp), .inl ⟨rfl, rfl, rfl⟩⟩
 ·refine this.mono fun r hr => ?_
  rw [List.nil_append] at hr
  exact hr.2
 ·intro n s q T hl hqT hc hs
  show Ok (zob _ _ _ _ _ _ _) _
  unfold zob
  have c : ((q.1.length : Int) == (b.Letters.1.length : Int)) = true := by rw [beq_iff_eq]; rw [hl]
  have hq := (zki.1 hqT).2.Ppl hf (by omega)
  simp only [c, cond_true]
  have clone : zYc k q = some (q.1, .ro) := by
   unfold zYc
   have c1 : decide (q.2 = .nil) = false := by simp [hc]
   have c2 : decide (q.1.length ≤ LIM) = true := by
    refine decide_eq_true ?_
    show q.1.length ≤ 1073741824
    omega
   rw [c1, c2]
   rfl
  obtain ⟨hT, hs⟩ := hs
  have hT' : ∀ p ∈ T ++ [q.1], p ∈ Tr b := fun p hp => by
   rcases List.mem_append.1 hp with hp | hp
   ·exact hT p hp
   ·rw [List.mem_singleton] at hp
    rw [hp]; exact hqT
  ·skip
   refine Ok.bind (P := fun r : Bool => r = true ↔ ∀ p ∈ T, zV q.1 < zV s.1) ?_ fun r hr => ?_
   ·unfold zkf
    refine Ok.cond (fun h => ?_) fun h => ?_
    ·have h : s.2 = .nil := by simpa using h
     rcases hs with ⟨rfl, _⟩ | ⟨h', _⟩
     ·exact Ok.pure ⟨fun _ p hp => (by simp at hp), fun _ => rfl⟩
     ·exact absurd h h'
    ·rcases hs with ⟨_, _, h'⟩ | ⟨_, h1, _⟩
     ·rw [h'] at h
      cases h
     ·have hsp := (zki.1 (hT _ h1))
      unfold zRf
      rw [(zSj hk hq).eq]
      simp only [Option.bind_some]
      rw [(zSj hk (hsp.2.Ppl hf (by omega))).eq]
      refine Ok.pure ?_
      rw [decide_eq_true_eq]
      exact ⟨fun h _ _ => h, fun h => h _ h1⟩
   ·unfold zlf
    cases r with
    | true =>
     simp only [cond_true, clone, Option.bind_some]
     refine Ok.pure ⟨hT',   .inr ⟨fun e => (by cases e), List.mem_append.2 (.inr (List.mem_singleton.2 rfl)), fun p hp => ?_⟩⟩
     rcases List.mem_append.1 hp with hp | hp
     ·have h1 := hr.1 rfl p hp
      rcases hs with ⟨e, _⟩ | ⟨_, _, h2⟩
      ·rw [e] at hp; simp at hp
      ·have := h2 p hp
       show zV q.1 ≤ _
       omega
     ·rw [List.mem_singleton] at hp
      rw [hp]
      exact Int.le_refl _
    | false =>
     simp only [cond_false, Option.bind_some]
     refine Ok.pure ⟨hT', ?_⟩
     rcases hs with ⟨e, _⟩ | ⟨h0, h1, h2⟩
     ·have := hr.2 (by rw [e]; simp)
      cases this
     ·refine .inr ⟨h0, List.mem_append.2 (.inl h1), fun p hp => ?_⟩
      rcases List.mem_append.1 hp with hp | hp
      ·exact h2 p hp
      ·rw [List.mem_singleton] at hp
       rw [hp]
       apply Classical.byContradiction
       intro hn
       have := hr.2 fun _ _ => by
        have hn : ¬ zV s.1 ≤ zV q.1 := hn
        omega
       cases this
 ·intro n s q hl hp _
  show zob _ _ _ _ _ _ _ = _
  unfold zob
  have hl' : q.1.length < b.Letters.1.length := hl
  have c : ((q.1.length : Int) == (b.Letters.1.length : Int)) = false := by simp; omega
  simp only [c, cond_false]
  rw [(zSj hk hp).eq, Option.bind_some]
 ·intro n s q j hl hp hj
  have c : ¬ _ := fun h => hj ((zQj hf hp j).1 h)
  simp only [zwc, c, decide_false, cond_false]
 ·intro n s q j hl hp hj ho
  have c := (zQj hf hp j).2 hj
  have hlim := zZj hf q.1
  simp only [zwc, c, decide_true, cond_true]
  obtain ⟨r, hr, hiff⟩ := zgn hf hk hm hl (j : Int)
  have e : zde k b v (b.Letters, b.Far, b.Apart, b.Most, m) q (zV q.1) j s (zib k b v (b.Letters, b.Far, b.Apart, b.Most, m) n) = some r := hr
  rw [e]
  obtain rfl : r = true := hiff.2 ho
  simp only [Option.bind_some, cond_true, w8 (show j < 9 by omega)]
 ·intro n s q j hl hp hj ho
  have c := (zQj hf hp j).2 hj
  have hlim := zZj hf q.1
  simp only [zwc, c, decide_true, cond_true]
  obtain ⟨r, hr, hiff⟩ := zgn hf hk hm hl (j : Int)
  have e : zde k b v (b.Letters, b.Far, b.Apart, b.Most, m) q (zV q.1) j s (zib k b v (b.Letters, b.Far, b.Apart, b.Most, m) n) = some r := hr
  rw [e]
  obtain rfl : r = false := by
   cases r with
   | false => rfl
   | true => exact absurd ho (hiff.1 rfl)
  simp only [Option.bind_some, cond_false, z7q, z2q hp.1, cond_true, w8 (show j < 9 by omega)]
theorem z5s {k : Nat} {b : zb} (hs : zhh b) (hk : Fuel k b) : Ok (zte k b) (fun r => (¬ Fine b ∧ r.1.1 = [] ∧ r.2 = 80) ∨ (Fine b ∧ Tr b = [] ∧ r.1.1 = [] ∧ r.2 = 82) ∨ (Fine b ∧ r.1.1 ∈ Tr b ∧ r.2 = 0 ∧ ∀ p ∈ Tr b, zV r.1.1 ≤ zV p)) := by
 have k0 := hk.k0
 unfold zte
 refine (zNn hs hk).bind fun e he => ?_
 rcases he with ⟨rfl, hf⟩ | ⟨rfl, hf⟩
 ·refine Ok.cond (fun h => by cases h) fun _ => ?_
  unfold zWg
  rw [Option.bind_some]
  refine (zgp hs.apart hk.apart).bind fun v hv => ?_
  obtain ⟨m, rfl, hm⟩ := hv
  unfold zub
  rw [Option.bind_some]
  refine (zLr hf (by omega) hm 0).bind fun r hr => ?_
  rcases hr with ⟨h1, h2, h3⟩ | ⟨h1, h2, h3⟩
  ·rw [h3]
   exact Ok.pure (.inr (.inl ⟨hf, h1, rfl, rfl⟩))
  ·have c : decide (r.2 = .nil) = false := by simp [h1]
   rw [c]
   exact Ok.pure (.inr (.inr ⟨hf, h2, rfl, h3⟩))
 ·exact Ok.cond (fun _ => Ok.pure (.inl ⟨hf, rfl, rfl⟩)) fun h => by cases h
theorem znp {k : Nat} {b : zb} (hs : zhh b) (hk : Fuel k b) : Ok (zXc k b) (fun r => (¬ Fine b ∧ r = (0, 80)) ∨ (Fine b ∧ Tr b = [] ∧ r = (0, 82)) ∨ (Fine b ∧ r.2 = 0 ∧ ∃ q ∈ Tr b, r.1 = zV q ∧ ∀ p ∈ Tr b, zV q ≤ zV p)) := by
 have k0 := hk.k0
 unfold zXc
 refine (z5s hs hk).bind fun r hr => ?_
 obtain ⟨⟨l, c⟩, e⟩ := r
 have hnil : l = [] → Ok (ztb k (l, c)) (fun r => r = 0) := by
  rintro rfl
  exact zSj (q := ([], c)) (by omega) ⟨by simp, by simp⟩
 rcases hr with ⟨h1, h2, h3⟩ | ⟨h1, h2, h3, h4⟩ | ⟨h1, h2, h3, h4⟩
 ·refine (hnil h2).bind fun r hr => Ok.pure (.inl ⟨h1, ?_⟩)
  rw [hr, h3]
 ·refine (hnil h3).bind fun r hr => Ok.pure (.inr (.inl ⟨h1, h2, ?_⟩))
  rw [hr, h4]
 ·have hq := zki.1 h2
  refine (zSj (q := (l, c)) (by omega) (hq.2.Ppl h1 (by omega))).bind fun r hr => Ok.pure (.inr (.inr ⟨h1, h3, l, h2, hr, h4⟩))
end Go.AM
set_option linter.unusedVariables false
namespace Go.AM
open Go
theorem zIo {p q : Prop} [Decidable p] [Decidable q] {x y : Int} (h : p ↔ q) : (if p then x else y) = if q then x else y := by
 by_cases hp : p
 ·rw [if_pos hp, if_pos (h.1 hp)]
 ·rw [if_neg hp, if_neg fun e => hp (h.2 e)]
theorem zLo (n : Int) : w64 n = if n % 18446744073709551616 ≥ 9223372036854775808 then n % 18446744073709551616 - 18446744073709551616 else n % 18446744073709551616 := by
 show IntKind.wrap .i64 n = _
 have e : IntKind.wrap .i64 n = if (true && decide (n % 18446744073709551616 ≥ 9223372036854775808)) = true then n % 18446744073709551616 - 18446744073709551616 else n % 18446744073709551616 := rfl
 rw [e]
 simp
theorem zYp (n : Int) : w64 (w64 n + 1) = w64 (n + 1) := by
 rw [zLo, zLo n, zLo (n + 1)]
 split <;> split <;> split <;> omega
theorem zGs {k : Nat} (hk : 100 < k) {b1 : zi} {v : (SL zm) × (SL (SL Int)) × (SL (Nat → Int)) × Int × (List (zl × Bool))} {u : Int} {rc : (List (zl × Int)) → Int → (SL Int) → Option ((List (zl × Int)) × Int)} {q : SL Int} (hl : q.1.length ≤ 8) {m : List (zl × Int)} (c : Nat → Nat → Int) (hm : ∀ i j : Nat, (zJ zp ⟨i, j⟩ m).getD 0 = w64 (c i j)) :
  Ok (iter (fun s => z9b k b1 v u q rc s.1 s.2) k (0, m)) (fun r => ∀ i j : Nat, (zJ zp ⟨i, j⟩ r.2).getD 0 = w64 (c i j + (if i < q.1.length ∧ j < q.1.length ∧ q.1[i]? = q.1[j]? then 1 else 0))) := by
 refine Ok.count q.1.length (fun n s => s.1 = (n : Int) ∧ ∀ i j : Nat, (zJ zp ⟨i, j⟩ s.2).getD 0 = w64 (c i j + (if i < n ∧ j < q.1.length ∧ q.1[i]? = q.1[j]? then 1 else 0))) ?_ ?_ ⟨rfl, fun i j => by simp [hm]⟩ (by omega)
 ·rintro n ⟨i, s⟩ hn ⟨hi, hs⟩
  obtain rfl : i = (n : Int) := hi
  have hs : ∀ i j : Nat, (zJ zp ⟨i, j⟩ s).getD 0 = w64 (c i j + (if i < n ∧ j < q.1.length ∧ q.1[i]? = q.1[j]? then 1 else 0)) := hs
  simp only [z9b, zud hn, cond_true, w8 (show n < 9 by omega)]
  refine Ok.bind (Ok.count q.1.length (fun n' z => z.1 = (n' : Int) ∧ ∀ i j : Nat, (zJ zp ⟨i, j⟩ z.2).getD 0 = w64 (c i j + (if (i < n ∨ (i = n ∧ j < n')) ∧ j < q.1.length ∧ q.1[i]? = q.1[j]? then 1 else 0)))
   (Q := fun z => ∀ i j : Nat, (zJ zp ⟨i, j⟩ z.2).getD 0 = w64 (c i j + (if i < n + 1 ∧ j < q.1.length ∧ q.1[i]? = q.1[j]? then 1 else 0))) ?_ ?_ ⟨rfl, fun i j => by rw [hs]; simp⟩ (by omega)) fun z hz => Ok.pure ⟨rfl, hz⟩
  ·rintro n' ⟨j, z⟩ hn' ⟨hj, hz⟩
   obtain rfl : j = (n' : Int) := hj
   have hz : ∀ i j : Nat, (zJ zp ⟨i, j⟩ z).getD 0 = w64 (c i j + (if (i < n ∨ (i = n ∧ j < n')) ∧ j < q.1.length ∧ q.1[i]? = q.1[j]? then 1 else 0)) := hz
   simp only [zLc, zud hn', cond_true, w8 (show n' < 9 by omega), zBc hn, zBc hn', Option.bind_some, zWd]
   have g1 := List.getElem?_eq_getElem hn
   have g2 := List.getElem?_eq_getElem hn'
   cases e : (q.1[n] == q.1[n']) with
   | true =>
    have e' : q.1[n] = q.1[n'] := by simpa using e
    simp only [cond_true, Option.bind_some]
    refine Ok.pure ⟨rfl, fun i j => ?_⟩
    show (zJ _ _ (mset _ _ _ _)).getD 0 = _
    rw [zIn zps]
    by_cases hij : i = n ∧ j = n'
    ·obtain ⟨rfl, rfl⟩ := hij
     rw [if_pos rfl, Option.getD_some, hz]
     have : ¬ ((i < i ∨ (i = i ∧ j < j)) ∧ j < q.1.length ∧ q.1[i]? = q.1[j]?) := by omega
     rw [if_neg this, if_pos ⟨.inr ⟨rfl, by omega⟩, hn', by rw [g1, g2, e']⟩, zYp, Int.add_zero]
    ·have : ¬ (⟨(i : Int), (j : Int)⟩ : zl) = ⟨(n : Int), (n' : Int)⟩ := by
      intro h
      injection h with h1 h2
      exact hij ⟨by omega, by omega⟩
     rw [if_neg this, hz]
     congr 2
     refine zIo ?_
     constructor
     ·rintro ⟨h1, h2⟩
      exact ⟨by omega, h2⟩
     ·rintro ⟨h1, h2⟩
      exact ⟨by omega, h2⟩
   | false =>
    have e' : ¬ q.1[n] = q.1[n'] := by simpa using e
    simp only [cond_false, Option.bind_some]
    refine Ok.pure ⟨rfl, fun i j => ?_⟩
    show (zJ _ _ z).getD 0 = _
    rw [hz]
    congr 2
    refine zIo ?_
    constructor
    ·rintro ⟨h1, h2⟩
     exact ⟨by omega, h2⟩
    ·rintro ⟨h1, h2, h3⟩
     refine ⟨?_, h2, h3⟩
     rcases h1 with h1 | ⟨rfl, h1⟩
     ·exact .inl h1
     ·by_cases hjn : j = n'
      ·subst hjn
       rw [g1, g2] at h3
       injection h3 with h3
       exact absurd h3 e'
      ·exact .inr ⟨rfl, by omega⟩
  ·rintro ⟨j, z⟩ ⟨hj, hz⟩
   obtain rfl : j = (q.1.length : Int) := hj
   simp only [zLc, zSh, cond_false]
   refine Ok.pure fun i j => ?_
   rw [hz]
   congr 2
   refine zIo ?_
   constructor
   ·rintro ⟨h1, h2⟩
    exact ⟨by omega, h2⟩
   ·rintro ⟨h1, h2⟩
    exact ⟨by omega, h2⟩
 ·rintro ⟨i, s⟩ ⟨hi, hs⟩
  obtain rfl : i = (q.1.length : Int) := hi
  simp only [z9b, zSh, cond_false]
  exact Ok.pure hs
def zic (T : List (List Int)) (i j : Nat) : Nat := T.countP fun q => decide (i < q.length ∧ j < q.length ∧ q[i]? = q[j]?)
def zbl (T : List (List Int)) (s : List (zl × Int) × Int) : Prop := s.2 = w64 (T.length : Int) ∧ ∀ i j : Nat, (zJ zp ⟨i, j⟩ s.1).getD 0 = w64 (zic T i j : Int)
theorem zts {k : Nat} {b : zb} (hf : Fine b) (hk : 100 < k) {m : List (zl × Bool)} (hm : zcm b m) : Ok (zW k ⟨b, m⟩ (b.Letters, b.Far, b.Apart, b.Most, m) 9 [] 0 ([], .nil)) (fun r => zbl (Tr b) r) := by
 have h8 := hf.nletters
 have := z5q hf hk (fun n (s : List (zl × Int) × Int) q => zW k ⟨b, m⟩ (b.Letters, b.Far, b.Apart, b.Most, m) n s.1 s.2 q)
  (fun n q z => zFb k ⟨b, m⟩ (b.Letters, b.Far, b.Apart, b.Most, m) q (zV q.1) (zW k ⟨b, m⟩ (b.Letters, b.Far, b.Apart, b.Most, m) n) z.1 z.2.1 z.2.2)
  zbl ?_ ?_ ?_ ?_ ?_ (nL b) 9 ([], 0) ([], .nil) [] (by simp) (by omega) (fun i x hx => by simp at hx) (fun _ => rfl) ⟨by decide, fun i j => (by show (0 : Int) = w64 0; decide)⟩
 ·refine this.mono fun r hr => ?_
  rw [List.nil_append] at hr
  exact hr
 ·rintro n ⟨s, u⟩ q T hl _ _ hs
  show Ok (zY _ _ _ _ _ _ _) _
  unfold zY
  have c : ((q.1.length : Int) == (b.Letters.1.length : Int)) = true := by rw [beq_iff_eq]; rw [hl]
  simp only [c, cond_true]
  obtain ⟨hs1, hs2⟩ := hs
  have hs1 : u = w64 (T.length : Int) := hs1
  refine (zGs hk (by omega) (fun i j => (zic T i j : Int)) hs2).bind fun r hr => Ok.pure ⟨?_, fun i j => ?_⟩
  ·show w64 _ = _
   rw [hs1, zYp, List.length_append, List.length_singleton]
   push_cast
   rfl
  ·show (zJ _ _ r.2).getD 0 = _
   rw [hr]
   unfold zic
   rw [List.countP_append, List.countP_singleton]
   push_cast
   congr 2
   by_cases h : i < q.1.length ∧ j < q.1.length ∧ q.1[i]? = q.1[j]?
   ·rw [if_pos h, if_pos (by simpa using h)]; rfl
   ·rw [if_neg h, if_neg (by simpa using h)]; rfl
 ·intro n s q hl hp _
  show zY _ _ _ _ _ _ _ = _
  unfold zY
  have hl' : q.1.length < b.Letters.1.length := hl
  have c : ((q.1.length : Int) == (b.Letters.1.length : Int)) = false := by simp; omega
  simp only [c, cond_false]
  rw [(zSj hk hp).eq, Option.bind_some]
 ·intro n s q j hl hp hj
  have c : ¬ _ := fun h => hj ((zQj hf hp j).1 h)
  simp only [zFb, c, decide_false, cond_false]
 ·intro n s q j hl hp hj ho
  have c := (zQj hf hp j).2 hj
  have hlim := zZj hf q.1
  simp only [zFb, c, decide_true, cond_true]
  obtain ⟨r, hr, hiff⟩ := zgn hf hk hm hl (j : Int)
  have e : zFc k ⟨b, m⟩ (b.Letters, b.Far, b.Apart, b.Most, m) q (zV q.1) j s.1 s.2 (zW k ⟨b, m⟩ (b.Letters, b.Far, b.Apart, b.Most, m) n) = some r := hr
  rw [e]
  obtain rfl : r = true := hiff.2 ho
  simp only [Option.bind_some, cond_true, w8 (show j < 9 by omega)]
 ·intro n s q j hl hp hj ho
  have c := (zQj hf hp j).2 hj
  have hlim := zZj hf q.1
  simp only [zFb, c, decide_true, cond_true]
  obtain ⟨r, hr, hiff⟩ := zgn hf hk hm hl (j : Int)
  have e : zFc k ⟨b, m⟩ (b.Letters, b.Far, b.Apart, b.Most, m) q (zV q.1) j s.1 s.2 (zW k ⟨b, m⟩ (b.Letters, b.Far, b.Apart, b.Most, m) n) = some r := hr
  rw [e]
  obtain rfl : r = false := by
   cases r with
   | false => rfl
   | true => exact absurd ho (hiff.1 rfl)
  simp only [Option.bind_some, cond_false, z7q, z2q hp.1, cond_true, w8 (show j < 9 by omega)]
noncomputable def zTg (b : zb) (i j : Nat) : Int := if zic (Tr b) i j = (Tr b).length then 2 else if zic (Tr b) i j = 0 then 0 else 1
theorem zcp {b : zb} {i j : Nat} (hi : i < nL b) (hj : j < nL b) : zTg b i j = 2 ↔ ∀ q ∈ Tr b, q[i]? = q[j]? := by
 have e : zic (Tr b) i j = (Tr b).length ↔ ∀ q ∈ Tr b, q[i]? = q[j]? := by
  unfold zic
  rw [List.countP_eq_length]
  constructor
  ·intro h q hq
   have := h q hq
   simp only [decide_eq_true_eq] at this
   exact this.2.2
  ·intro h q hq
   have := (zki.1 hq).1
   simp only [decide_eq_true_eq]
   exact ⟨by omega, by omega, h q hq⟩
 rw [← e]
 unfold zTg
 constructor
 ·intro h
  apply Classical.byContradiction
  intro hn
  rw [if_neg hn] at h
  split at h <;> omega
 ·intro h
  rw [if_pos h]
theorem zBq {b : zb} {i j : Nat} (hi : i < nL b) (hj : j < nL b) (ht : Tr b ≠ []) : zTg b i j = 0 ↔ ∀ q ∈ Tr b, q[i]? ≠ q[j]? := by
 have e : zic (Tr b) i j = 0 ↔ ∀ q ∈ Tr b, q[i]? ≠ q[j]? := by
  unfold zic
  rw [List.countP_eq_zero]
  constructor
  ·intro h q hq he
   have := (zki.1 hq).1
   exact h q hq (by simp only [decide_eq_true_eq]; exact ⟨by omega, by omega, he⟩)
  ·intro h q hq he
   simp only [decide_eq_true_eq] at he
   exact h q hq he.2.2
 rw [← e]
 have hpos : 0 < (Tr b).length := List.length_pos_iff.2 ht
 unfold zTg
 constructor
 ·intro h
  split at h
  ·omega
  ·split at h
   ·assumption
   ·omega
 ·intro h
  rw [if_neg (by omega), if_pos h]
theorem zAt {k : Nat} {b : zb} (hf : Fine b) {s : zZ} (hs : zbl (Tr b) (s.same, s.many)) (i j : Nat) : zCc k s i j = some (zTg b i j) := by
 obtain ⟨h1, h2⟩ := hs
 have h1 : s.many = w64 ((Tr b).length : Int) := h1
 have h2 : (zJ zp ⟨i, j⟩ s.same).getD 0 = w64 (zic (Tr b) i j : Int) := h2 i j
 have hlen := zLs hf
 have hle : zic (Tr b) i j ≤ (Tr b).length := List.countP_le_length
 unfold zCc zTg
 rw [h1, h2, ztf (by omega) (by omega), ztf (by omega) (by omega)]
 by_cases e : zic (Tr b) i j = (Tr b).length
 ·rw [if_pos e]
  have c : (((zic (Tr b) i j : Nat) : Int) == ((Tr b).length : Int)) = true := by rw [beq_iff_eq]; omega
  rw [c, cond_true]
 ·rw [if_neg e]
  have c : (((zic (Tr b) i j : Nat) : Int) == ((Tr b).length : Int)) = false := by rw [beq_eq_false_iff_ne]; omega
  rw [c, cond_false]
  by_cases e0 : zic (Tr b) i j = 0
  ·rw [if_pos e0]
   have c : (((zic (Tr b) i j : Nat) : Int) == 0) = true := by rw [beq_iff_eq]; omega
   rw [c, cond_true]
  ·rw [if_neg e0]
   have c : (((zic (Tr b) i j : Nat) : Int) == 0) = false := by rw [beq_eq_false_iff_ne]; omega
   rw [c, cond_false]
theorem zlt {k : Nat} {b : zb} (hs : zhh b) (hk : Fuel k b) : Ok (zPc k b true) (fun r => (¬ Fine b ∧ r.2 = 80) ∨ (Fine b ∧ Tr b = [] ∧ r.2 = 82) ∨ (Fine b ∧ Tr b ≠ [] ∧ r.2 = 0 ∧ zbl (Tr b) (r.1.same, r.1.many))) := by
 have k0 := hk.k0
 unfold zPc
 refine (zNn hs hk).bind fun e he => ?_
 rcases he with ⟨rfl, hf⟩ | ⟨rfl, hf⟩
 ·refine Ok.cond (fun h => by cases h) fun _ => Ok.cond (fun h => by cases h) fun _ => ?_
  refine (zgp hs.apart hk.apart).bind fun v hv => ?_
  obtain ⟨m, rfl, hm⟩ := hv
  unfold zVe zub
  rw [Option.bind_some]
  refine Ok.bind ((zts hf (by omega) hm).bind fun r hr => Ok.pure (Q := fun z : zZ => zbl (Tr b) (z.same, z.many)) hr) fun z hz => ?_
  have hlen := zLs hf
  have hz1 : z.many = w64 ((Tr b).length : Int) := hz.1
  rw [ztf (by omega) (by omega)] at hz1
  refine Ok.cond (fun h => ?_) fun h => ?_
  ·rw [beq_iff_eq, hz1] at h
   refine Ok.pure (.inr (.inl ⟨hf, List.length_eq_zero_iff.1 (by omega), rfl⟩))
  ·rw [beq_eq_false_iff_ne, hz1] at h
   exact Ok.pure (.inr (.inr ⟨hf, fun e => h (by rw [e]; rfl), rfl, hz⟩))
 ·exact Ok.cond (fun _ => Ok.pure (.inl ⟨hf, rfl⟩)) fun h => by cases h
theorem zdr {k : Nat} {b : zb} (hs : zhh b) (hk : Fuel k b) {i j : Nat} (hi : i < nL b) (hj : j < nL b) : Ok (z5d k b i j) (fun r => (¬ Fine b ∧ r = (0, 80)) ∨ (Fine b ∧ Tr b = [] ∧ r = (0, 82)) ∨ (Fine b ∧ Tr b ≠ [] ∧ r = (zTg b i j, 0))) := by
 unfold z5d zOf
 have hl := hs.letters
 have c : ∀ x : Nat, x < nL b → zN k (x : Int) 0 (w64 ((b.Letters.1.length : Int) - 1)) = some true := by
  intro x hx
  have hx' : x < b.Letters.1.length := hx
  rw [z0i, zkn hl]
  congr 1
  simp only [Bool.and_eq_true, decide_eq_true_eq]
  omega
 rw [c i hi, Option.bind_some, cond_true, c j hj, Option.bind_some]
 refine Ok.bind ((zlt hs hk).bind fun r hr => Ok.pure (Q := fun z : Int × Int × List (zl × Int) => (¬ Fine b ∧ z.1 = 80) ∨ (Fine b ∧ Tr b = [] ∧ z.1 = 82) ∨ (Fine b ∧ Tr b ≠ [] ∧ z.1 = 0 ∧ zbl (Tr b) (z.2.2, z.2.1))) hr) fun z hz => ?_
 obtain ⟨e, n, m⟩ := z
 rcases hz with ⟨h1, h2⟩ | ⟨h1, h2, h3⟩ | ⟨h1, h2, h3, h4⟩
 ·have h2 : e = 80 := h2
  subst h2
  exact Ok.pure (.inl ⟨h1, rfl⟩)
 ·have h3 : e = 82 := h3
  subst h3
  exact Ok.pure (.inr (.inl ⟨h1, h2, rfl⟩))
 ·have h3 : e = 0 := h3
  subst h3
  refine Ok.cond (fun h => by cases h) fun _ => ?_
  rw [zAt h1 (s := ⟨n, m⟩) h4]
  exact Ok.pure (.inr (.inr ⟨h1, h2, rfl⟩))
end Go.AM
set_option linter.unusedVariables false
namespace Go.AM
open Go
theorem zUp {k : Nat} {a : Int} {n : Nat} (hn : 1 ≤ n) (hn2 : n < 9223372036854775808) : Ok (zRc k a (n : Int)) (fun r => ∃ i : Nat, r = (i : Int) ∧ i < n) := by
 unfold zRc
 have c1 : decide ((n : Int) < 1) = false := by simp; omega
 have c2 : ((n : Int) == 0) = false := by simp; omega
 rw [c1, c2, cond_false, cond_false]
 have h1 := Int.tmod_lt_of_pos a (show (0 : Int) < n by omega)
 have h2 : -(n : Int) < a.tmod n := Int.lt_tmod_of_pos a (show (0 : Int) < n by omega)
 cases hc : decide (a.tmod (n : Int) < 0) with
 | true =>
  have := of_decide_eq_true hc
  simp only [zSc, cond_true, Option.bind_some]
  refine Ok.pure ⟨(a.tmod n + n).toNat, ?_, by omega⟩
  rw [ztf (by omega) (by omega)]
  omega
 | false =>
  have := of_decide_eq_false hc
  simp only [zSc, cond_false, Option.bind_some]
  exact Ok.pure ⟨(a.tmod n).toNat, by omega, by omega⟩
theorem zJl (k : Nat) (a b c : Int) : zT k a b c = some (decide (b ≤ a) && decide (a ≤ c)) := by
 simp only [zT, zBe]
theorem zhs (k : Nat) (s : zUb) (a b : Int) : z7c k s a b = some (decide (a ≤ s.Low) && (decide (s.Low ≤ s.High) && decide (s.High ≤ b))) := by
 simp only [z7c, zBe]
def zss (b : zb) : Prop := Fine b ∧ ∀ p ∈ b.Apart.1, 0 ≤ p 0 ∧ 0 ≤ p 1
theorem zpt {k : Nat} {b : zb} (hs : zhh b) (hk : Fuel k b) : Ok (zrd k b) (fun r => r = true → zss b) := by
 unfold zrd
 have c1 : ∀ {α : Type} {l : List α}, decide ((l.length : Int) < (l.length : Int)) = false := zSh
 refine Ok.bind (P := fun r => r = true → Fine b) ?_ fun r1 h1 => ?_
 ·unfold zCd
  refine (zNn hs hk).bind fun e he => ?_
  rcases he with ⟨rfl, hf⟩ | ⟨rfl, hf⟩
  ·simp only [zJl, Option.bind_some, zBe]
   exact Ok.pure fun _ => hf
  ·exact Ok.cond (fun h => by cases h) fun _ => Ok.pure fun h => by cases h
 refine Ok.bind (Ok.everyW b.Far.1 (fun r => r.1.length = b.Far.1.length ∧ ∀ n ∈ r.1, 0 ≤ n ∧ n ≤ 400) (fun j hj => ?_) (fun i => by simp [zXb, z0b]) (by simp [zXb, z0b]) hk.far) fun r2 h2 => ?_
 ·have hrow := List.getElem_mem hj
  simp only [zXb, z0b, zud hj, cond_true, zBc hj, Option.bind_some, zCf hj hs.far]
  refine Ok.bind (Ok.everyW b.Far.1[j].1 (fun n => 0 ≤ n ∧ n ≤ 400) (fun i hi => ?_) (fun i => by simp [zZb, zLb]) (by simp [zZb, zLb, zBc hj]) (hk.rows _ hrow)) fun z hz => ?_
  ·simp only [zZb, zLb, cond_true, zBc hj, Option.bind_some, zud hi, zBc hi, zJl, zCf hi (hs.rows _ hrow)]
   refine Ok.pure ⟨_, rfl, ?_⟩
   simp only [Bool.and_eq_true, decide_eq_true_eq]
  ·refine Ok.pure ⟨_, rfl, ?_⟩
   rw [hz, beq_iff_eq]
   constructor
   ·rintro ⟨h1, h2⟩
    exact ⟨by omega, h2⟩
   ·rintro ⟨h1, h2⟩
    exact ⟨by omega, h2⟩
 refine Ok.bind (Ok.everyW b.Letters.1 (fun x => (0 ≤ x.Day ∧ x.Day ≤ 20000) ∧ (0 ≤ x.Place ∧ x.Place ≤ (b.Far.1.length : Int) - 1) ∧ (0 ≤ x.Born.Low ∧ x.Born.Low ≤ x.Born.High ∧ x.Born.High ≤ 200)) (fun j hj => ?_) (fun i => by simp [zOb, zNb]) (by simp [zOb, zNb]) hk.letters) fun r3 h3 => ?_
 ·simp only [zOb, zNb, zud hj, cond_true, zBc hj, Option.bind_some, zCf hj hs.letters, zhd, zJl, zhs, zBe, zkn hs.far]
  refine Ok.pure ⟨_, rfl, ?_⟩
  simp only [Bool.and_eq_true, decide_eq_true_eq]
 refine Ok.bind (Ok.everyW b.Apart.1 (fun p => (0 ≤ p 0 ∧ p 0 ≤ (b.Letters.1.length : Int) - 1) ∧ (0 ≤ p 1 ∧ p 1 ≤ (b.Letters.1.length : Int) - 1)) (fun j hj => ?_) (fun i => by simp [zMb, zKb]) (by simp [zMb, zKb]) hk.apart) fun r4 h4 => ?_
 ·simp only [zMb, zKb, zud hj, cond_true, zBc hj, Option.bind_some, zCf hj hs.apart, zid, zJl, zBe, zkn hs.letters]
  refine Ok.pure ⟨_, rfl, ?_⟩
  simp only [Bool.and_eq_true, decide_eq_true_eq]
 refine Ok.pure fun h => ?_
 obtain ⟨h5, h6⟩ := h4.1 h
 obtain ⟨h7, _⟩ := h3.1 h5
 obtain ⟨h8, _⟩ := h2.1 h7
 exact ⟨h1 h8, fun p hp => ⟨(h6 p hp).1.1, (h6 p hp).2.1⟩⟩
structure z0m (n : Nat) (b x : zb) : Prop where
 most : b.Most ≤ x.Most
 day : ∀ i, i < n → (lt x i).Day = (lt b i).Day
 dead : ∀ i, i < n → (lt x i).Dead = (lt b i).Dead
 account : ∀ i, i < n → (lt x i).Account = (lt b i).Account
 low : ∀ i, i < n → (lt x i).Born.Low ≤ (lt b i).Born.Low
 high : ∀ i, i < n → (lt b i).Born.High ≤ (lt x i).Born.High
 far : ∀ i j, i < n → j < n → farB x i j ≤ farB b i j
 apart : ∀ i j, AP x i j → AP b i j
theorem z0m.step {n : Nat} {b x : zb} (h : z0m n b x) {p : List Int} {w : Int} (hp : p.length < n) (hs : zmo (lim b) (okP b) p w) : zmo (lim x) (okP x) p w := by
 obtain ⟨h1, h2, h3, h4⟩ := hs
 have hlim : lim b p ≤ lim x p := by
  have := h.most
  unfold lim
  split <;> split <;> omega
 have wr : ∀ i, zfh p w i = true → i < n := fun i hi => by
  have : p[i]? = some w := by simpa [zfh] using hi
  have := (List.getElem?_eq_some_iff.1 this).1
  omega
 have inn : ∀ i, InL (zfh p w) p.length i → i < n := fun i hi => by
  rcases hi with rfl | hi
  ·exact hp
  ·exact wr i hi.2
 refine ⟨h1, by omega, fun i y hy ha he => ?_, ?_⟩
 ·have hi : i < n := by
   have := (List.getElem?_eq_some_iff.1 hy).1
   omega
  rw [h.account i hi] at ha he
  rw [h.account _ hp] at he
  exact h3 i y hy ha he
 ·rcases h4 with h4 | ⟨g1, g2, g3, g4⟩
  ·exact .inl h4
  ·refine .inr ⟨fun i j hi hj => ?_, fun j hj => ?_, fun j hj => ?_, fun i hi hl ha => g4 i hi hl (h.apart _ _ ha)⟩
   ·have e1 := h.low i (inn i hi)
    have e2 := h.high j (inn j hj)
    have := g1 i j hi hj
    omega
   ·have hjn := wr j hj.2.1
    have e1 := h.far j p.length hjn hp
    rw [h.day _ hp, h.day _ hjn]
    exact Int.le_trans e1 (g2 j hj)
   ·rw [h.dead _ (wr j hj.2.1)]
    exact g3 j hj
theorem z0m.pre {n : Nat} {b x : zb} (h : z0m n b x) {q : List Int} (hq : q.length ≤ n) (hp : Pre b q) : Pre x q := by
 intro i w hw
 have hi := (List.getElem?_eq_some_iff.1 hw).1
 exact h.step (by rw [List.length_take]; omega) (hp i w hw)
theorem zNq {q : List Int} (h : ∀ x ∈ q, 0 ≤ x ∧ x ≤ 100) (i : Nat) : zV (q.take i) ≤ zV q :=
 zKs (z5o h).1 fun x hx => z3r x (List.mem_of_mem_take hx)
def z0g (b : zb) (y : zm) : zb := ⟨((b.Letters.1 ++ [y]), (rcap false (b.Letters.1 ++ [y]))), b.Far, b.Apart, b.Most⟩
theorem zNg (b : zb) (y : zm) : nL (z0g b y) = nL b + 1 := by simp [z0g, nL]
theorem zjq (b : zb) (y : zm) : z0m (nL b) (z0g b y) b := by
 have e : ∀ i, i < nL b → lt (z0g b y) i = lt b i := fun i hi => by
  unfold lt z0g
  rw [List.getElem?_append_left hi]
 refine ⟨Int.le_refl _, fun i hi => by rw [e i hi], fun i hi => by rw [e i hi], fun i hi => by rw [e i hi], fun i hi => by rw [e i hi]; exact Int.le_refl _, fun i hi => by rw [e i hi]; exact Int.le_refl _, fun i j hi hj => ?_, fun i j h => h⟩
 unfold farB
 rw [e i hi, e j hj]
 exact Int.le_refl _
theorem z2l {b : zb} {y : zm} {q : List Int} (h : q ∈ Tr (z0g b y)) : q.take (nL b) ∈ Tr b := by
 obtain ⟨h1, h2⟩ := zki.1 h
 rw [zNg] at h1
 have hl : (q.take (nL b)).length = nL b := by rw [List.length_take]; omega
 exact zki.2 ⟨hl, (zjq b y).pre (by omega) (h2.take _)⟩
theorem z4n {k : Nat} {b : zb} (hs : zhh b) (hk : Fuel k b) (hsg : zhb k = some true) (y : zm) (n : Nat → Int) : zrb k b y n = some true := by
 refine Ok.eq ?_
 have k0 := hk.k0
 unfold zrb zbc
 rw [hsg]
 simp only [Option.bind_some]
 refine Ok.bind (P := fun r : Bool => r = false → zss b ∧ nL b ≠ 8) ?_ fun r hr => Ok.cond (fun _ => Ok.pure rfl) fun h => ?_
 ·refine (zpt hs hk).bind fun r hr => Ok.cond (fun _ => Ok.pure fun h => by cases h) fun h => Ok.pure fun e => ?_
  refine ⟨hr (by simpa using h), fun e8 => ?_⟩
  rw [beq_eq_false_iff_ne] at e
  exact e (by rw [show b.Letters.1.length = 8 from e8]; rfl)
 obtain ⟨⟨hf, hap⟩, h8⟩ := hr h
 have hl := hf.nletters
 have hl' : b.Letters.1.length ≤ 8 := hl.2
 have hx : zhh (z0g b y) := ⟨by rw [zNg]; omega, hs.far, hs.rows, hs.apart⟩
 have hkx : Fuel k (z0g b y) := ⟨hk.k0, by rw [zNg]; omega, hk.far, hk.rows, hk.apart⟩
 have c1 : decide (b.Letters.1.length ≤ LIM) = true := decide_eq_true (show b.Letters.1.length ≤ 1073741824 by omega)
 have c2 : decide (b.Letters.1.length + 1 ≤ LIM) = true := decide_eq_true (show b.Letters.1.length + 1 ≤ 1073741824 by omega)
 rw [c1, c2, cond_true, cond_true]
 refine (zUp (n := nL b) (by omega) (by omega)).bind fun i hi => ?_
 obtain ⟨i, rfl, hi⟩ := hi
 refine (zUp (n := nL b) (by omega) (by omega)).bind fun j hj => ?_
 obtain ⟨j, rfl, hj⟩ := hj
 refine (zdr hs hk hi hj).bind fun v10 h10 => ?_
 refine Ok.bind (zdr hx hkx (i := i) (j := j) (by rw [zNg]; omega) (by rw [zNg]; omega)) fun v12 h12 => ?_
 refine (znp hs hk).bind fun v14 h14 => ?_
 refine Ok.bind (znp hx hkx) fun v16 h16 => ?_
 rcases h12 with ⟨g, rfl⟩ | ⟨g, g1, rfl⟩ | ⟨g, g1, rfl⟩
 ·rcases h16 with ⟨_, rfl⟩ | ⟨h, _⟩ | ⟨h, _⟩
  ·exact Ok.pure rfl
  ·exact absurd h g
  ·exact absurd h g
 ·rcases h16 with ⟨h, _⟩ | ⟨_, _, rfl⟩ | ⟨_, _, q, hq, _⟩
  ·exact absurd g h
  ·exact Ok.pure rfl
  ·have hq : q ∈ Tr (z0g b y) := hq
   rw [g1] at hq
   simp at hq
 ·have hne : Tr b ≠ [] := by
   intro e
   obtain ⟨q, hq⟩ := List.exists_mem_of_ne_nil _ g1
   have := z2l hq
   rw [e] at this
   simp at this
  rcases h10 with ⟨h, _⟩ | ⟨_, h, _⟩ | ⟨_, _, rfl⟩
  ·exact absurd hf h
  ·exact absurd h hne
  rcases h14 with ⟨h, _⟩ | ⟨_, h, _⟩ | ⟨_, e14, qb, hqb, m14, min14⟩
  ·exact absurd hf h
  ·exact absurd h hne
  rcases h16 with ⟨h, _⟩ | ⟨_, h, _⟩ | ⟨_, e16, qx, hqx, m16, min16⟩
  ·exact absurd g h
  ·exact absurd h g1
  have hge : v16.1 ≥ v14.1 := by
   rw [m16, m14]
   refine Int.le_trans (min14 _ (z2l hqx)) (zNq (fun x hx => ?_) _)
   have := (zki.1 hqx).2.ppl g x hx
   omega
  have cge : decide (v16.1 ≥ v14.1) = true := decide_eq_true hge
  have hi' : i < nL (z0g b y) := by rw [zNg]; omega
  have hj' : j < nL (z0g b y) := by rw [zNg]; omega
  have at_ : ∀ q ∈ Tr (z0g b y), q[i]? = (q.take (nL b))[i]? ∧ q[j]? = (q.take (nL b))[j]? := fun q _ => by
   rw [List.getElem?_take, List.getElem?_take, if_pos hi, if_pos hj]
   exact ⟨rfl, rfl⟩
  refine Ok.cond (fun h => by cases h) fun _ => Ok.cond (fun _ => ?_) fun h => by cases h
  rw [e14, e16]
  refine Ok.cond (fun _ => ?_) fun h => by cases h
  refine Ok.cond (fun _ => ?_) fun h => by cases h
  refine Ok.cond (fun _ => ?_) fun h => ?_
  ·rw [cge]
   exact Ok.pure rfl
  ·have hv : zTg (z0g b y) i j = zTg b i j := by
    have h : ¬ zTg b i j = 1 := by simpa using h
    have h02 : zTg b i j = 2 ∨ zTg b i j = 0 := by
     unfold zTg at h ⊢
     split
     ·exact .inl rfl
     ·split
      ·exact .inr rfl
      ·rename_i h1 h2
       rw [if_neg h1, if_neg h2] at h
       exact absurd rfl h
    rcases h02 with e | e
    ·rw [e]
     refine (zcp hi' hj').2 fun q hq => ?_
     rw [(at_ q hq).1, (at_ q hq).2]
     exact (zcp hi hj).1 e _ (z2l hq)
    ·rw [e]
     refine (zBq hi' hj' g1).2 fun q hq => ?_
     rw [(at_ q hq).1, (at_ q hq).2]
     exact (zBq hi hj hne).1 e _ (z2l hq)
   rw [cge]
   refine Ok.cond (fun _ => Ok.pure rfl) fun h => ?_
   rw [beq_eq_false_iff_ne] at h
   exact absurd hv h
end Go.AM
set_option linter.unusedVariables false
namespace Go.AM
open Go
def zDe (x : zUb) : Prop := (-9223372036854775808 ≤ x.Low ∧ x.Low ≤ 9223372036854775807) ∧ (-9223372036854775808 ≤ x.High ∧ x.High ≤ 9223372036854775807) ∧ True
def z7 (x : zm) : Prop := (-9223372036854775808 ≤ x.Day ∧ x.Day ≤ 9223372036854775807) ∧ (-9223372036854775808 ≤ x.Place ∧ x.Place ≤ 9223372036854775807) ∧ zDe x.Born ∧ True ∧ (-9223372036854775808 ≤ x.Account ∧ x.Account ≤ 9223372036854775807) ∧ True
def zrc (x : zb) : Prop := zPg (fun (a : zm) => z7 a) x.Letters ∧ zPg (fun (a : (SL Int)) => zPg (fun (a : Int) => (-9223372036854775808 ≤ a ∧ a ≤ 9223372036854775807)) a) x.Far ∧ zPg (fun (a : (Nat → Int)) => (∀ k, k < 2 → -9223372036854775808 ≤ a k ∧ a k ≤ 9223372036854775807)) x.Apart ∧ (-9223372036854775808 ≤ x.Most ∧ x.Most ≤ 9223372036854775807) ∧ True
end Go.AM
set_option linter.unusedVariables false
namespace Go.AM
open Go
theorem zTq (k : Nat) : zhb (k + 300) = some true := by kernel_rfl
end Go.AM
set_option linter.unusedVariables false
namespace Go.AM
open Go
theorem zJr {b : zb} (h : zrc b) : zhh b := by
 obtain ⟨h1, h2, h3, _⟩ := h
 have e : maxLen = 9223372036854775807 := by decide
 have l1 := h1.2.2
 have l2 := h2.2.2
 have l3 := h3.2.2
 rw [e] at l1 l2 l3
 refine ⟨show b.Letters.1.length < _ by omega, by omega, fun r hr => ?_, by omega⟩
 have := (h2.1 r hr).2.2
 rw [e] at this
 omega
def z8r (b : zb) : Nat := 500000 + b.Letters.1.length + b.Far.1.length + b.Apart.1.length + (b.Far.1.map fun r => r.1.length).sum
theorem zBu {l : List Nat} {n : Nat} : n ∈ l → n ≤ l.sum := by
 induction l with
 | nil => intro h; simp at h
 | cons x t ih =>
  intro h
  rw [List.sum_cons]
  rcases List.mem_cons.1 h with rfl | h
  ·omega
  ·have := ih h
   omega
theorem z8t (b : zb) : Fuel (z8r b + 300) b := by
 unfold z8r
 refine ⟨by omega, show b.Letters.1.length < _ by omega, by omega, fun r hr => ?_, by omega⟩
 have := zBu (List.mem_map.2 ⟨r, hr, rfl⟩ : r.1.length ∈ b.Far.1.map fun r => r.1.length)
 omega
end Go.AM
set_option linter.unusedVariables false
namespace Go.AM
open Go
theorem zft (b : zb) (y : zm) (n : Nat → Int) (hb : zrc b) (hy : z7 y) (hn : ∀ k, k < 2 → -9223372036854775808 ≤ n k ∧ n k ≤ 9223372036854775807) : ∃ k, zrb k b y n = some true :=
 ⟨_, z4n (zJr hb) (z8t b) (zTq _) y n⟩
end Go.AM
