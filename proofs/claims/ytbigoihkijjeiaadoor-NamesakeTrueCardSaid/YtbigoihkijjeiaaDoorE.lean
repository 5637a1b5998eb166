/- The statement NamesakeTrue holds for every input that its row lets in. Conditions: none. -/
import Derived.KernelRfl
import Derived.Test.YtbigoihkijjeiaaDoorD
set_option linter.all false
set_option linter.unusedVariables false
set_option maxRecDepth 100000
namespace Go.AM
open Go Go.Proofs
theorem zI (k : Nat) (v3 v7 : zt1) (v11 : zt0) (v15 : ((SL Int) × Int)) (r : Bool) (h : zng k v3 v7 v11 v15 = some r) : ev TE 22 (rgn TE 22 5) ⟨(zVx v3 v7 v11 v15), ⟨[], []⟩, []⟩ = some (.nor, zy v3 v7 v11 v15 r) := by
 unfold zng at h
 refine zm h (fun h201 g1 => ?_) (fun h201 g1 => ?_)
 ·exact zq (g := fun r => (Ex.nor, zy v3 v7 v11 v15 r)) g1 (zqe [(22, 5, 2, .q (xb true))] [] (ob (o_b h201) ob0) (by kernel_rfl))
 ·refine zm g1 (fun h202 g2 => ?_) (fun h202 g2 => ?_)
  ·exact zq (g := fun r => (Ex.nor, zy v3 v7 v11 v15 r)) g2 (zqe [(22, 5, 2, .q (xb false)), (22, 5, 6, .q (xb true))] [] (ob (o_b h201) (ob (o_b h202) ob0)) (by kernel_rfl))
  ·refine zm g2 (fun h203 g3 => ?_) (fun h203 g3 => ?_)
   ·exact zq (g := fun r => (Ex.nor, zy v3 v7 v11 v15 r)) g3 (zqe [(22, 5, 2, .q (xb false)), (22, 5, 6, .q (xb false)), (22, 5, 10, .q (xb true))] [] (ob (o_b h201) (ob (o_b h202) (ob (o_b h203) ob0))) (by kernel_rfl))
   ·refine zm g3 (fun h204 g4 => ?_) (fun h204 g4 => ?_)
    ·exact zq (g := fun r => (Ex.nor, zy v3 v7 v11 v15 r)) g4 (zqe [(22, 5, 2, .q (xb false)), (22, 5, 6, .q (xb false)), (22, 5, 10, .q (xb false)), (22, 5, 14, .q (xb true))] [] (ob (o_b h201) (ob (o_b h202) (ob (o_b h203) (ob (o_b h204) ob0)))) (by kernel_rfl))
    ·refine zm g4 (fun h205 g5 => ?_) (fun h205 g5 => ?_)
     ·exact zq (g := fun r => (Ex.nor, zy v3 v7 v11 v15 r)) g5 (zqe [(22, 5, 2, .q (xb false)), (22, 5, 6, .q (xb false)), (22, 5, 10, .q (xb false)), (22, 5, 14, .q (xb false)), (22, 5, 18, .q (xb true))] [] (ob (o_b h201) (ob (o_b h202) (ob (o_b h203) (ob (o_b h204) (ob (o_b h205) ob0))))) (by kernel_rfl))
     ·refine zm g5 (fun h206 g6 => ?_) (fun h206 g6 => ?_)
      ·exact zq (g := fun r => (Ex.nor, zy v3 v7 v11 v15 r)) g6 (zqe [(22, 5, 2, .q (xb false)), (22, 5, 6, .q (xb false)), (22, 5, 10, .q (xb false)), (22, 5, 14, .q (xb false)), (22, 5, 18, .q (xb false)), (22, 5, 22, .q (xb true))] [] (ob (o_b h201) (ob (o_b h202) (ob (o_b h203) (ob (o_b h204) (ob (o_b h205) (ob (o_b h206) ob0)))))) (by kernel_rfl))
      ·refine zm g6 (fun h207 g7 => ?_) (fun h207 g7 => ?_)
       ·exact zq (g := fun r => (Ex.nor, zy v3 v7 v11 v15 r)) g7 (zqe [(22, 5, 2, .q (xb false)), (22, 5, 6, .q (xb false)), (22, 5, 10, .q (xb false)), (22, 5, 14, .q (xb false)), (22, 5, 18, .q (xb false)), (22, 5, 22, .q (xb false)), (22, 5, 26, .q (xb true))] [] (ob (o_b h201) (ob (o_b h202) (ob (o_b h203) (ob (o_b h204) (ob (o_b h205) (ob (o_b h206) (ob (o_b h207) ob0))))))) (by kernel_rfl))
       ·refine zi g7 (fun v208 h209 g8 => ?_)
        exact zq (g := fun r => (Ex.nor, zy v3 v7 v11 v15 r)) g8 (zqe [(22, 5, 2, .q (xb false)), (22, 5, 6, .q (xb false)), (22, 5, 10, .q (xb false)), (22, 5, 14, .q (xb false)), (22, 5, 18, .q (xb false)), (22, 5, 22, .q (xb false)), (22, 5, 26, .q (xb false)), (22, 5, 29, .c (db v208))] [] (ob (o_b h201) (ob (o_b h202) (ob (o_b h203) (ob (o_b h204) (ob (o_b h205) (ob (o_b h206) (ob (o_b h207) (ob (zNg k v15.1 ([0, 1, 0, 0, 1], .ex) _ h209) ob0)))))))) (by kernel_rfl))
theorem zug (k : Nat) (r : Bool) (h : zhc k = some r) : zx TE (ev TE) 22 [] = some (zO r) := by
 unfold zhc at h
 refine zi h (fun v1 h2 g1 => ?_)
 refine zi g1 (fun v3 h4 g2 => ?_)
 refine zi g2 (fun v5 h6 g3 => ?_)
 refine zi g3 (fun v7 h8 g4 => ?_)
 refine zi g4 (fun v9 h10 g5 => ?_)
 refine zi g5 (fun v11 h12 g6 => ?_)
 refine zi g6 (fun v13 h14 g7 => ?_)
 refine zi g7 (fun v15 h16 g8 => ?_)
 refine zi g8 (fun v17 h18 g9 => ?_)
 refine zm g9 (fun h19 g10 => ?_) (fun h19 g10 => ?_)
 ·subst h19
  exact zt (g := zO) g10 (zqc [(22, 1, 0, .c (.agg (zb v1))), (22, 1, 2, .c (.tup [(db v3.1), (di v3.2)])), (22, 2, 0, .c (.agg (zb v5))), (22, 2, 2, .c (.tup [(db v7.1), (di v7.2)])), (22, 3, 0, .c (.agg (zb v9))), (22, 3, 1, .c (.tup [(di v11.1), (di v11.2)])), (22, 4, 0, .c (.agg (zb v13))), (22, 4, 1, .c (.tup [(dl eI v15.1.1 v15.1.2), (di v15.2)]))] [(22, 1000005, (.nor, zy v3 v7 v11 v15 true))] (ob (zk k 3 _ h2) (ob (zfb k v1 ([2, 3], .ex) _ h4) (ob (zk k 3 _ h6) (ob (zE k v5 ([0, 1, 2, 0, 1], .ex) _ h8) (ob (zk k 3 _ h10) (ob (zQ k v9 _ h12) (ob (zk k 3 _ h14) (ob (z9 k v13 _ h16) (ob (zI k v3 v7 v11 v15 _ h18) ob0))))))))) (by kernel_rfl))
 ·subst h19
  refine zi g10 (fun v20 h21 g11 => ?_)
  refine zi g11 (fun v22 h23 g12 => ?_)
  refine zi g12 (fun v24 h25 g13 => ?_)
  refine zi g13 (fun v26 h27 g14 => ?_)
  refine zi g14 (fun v28 h29 g15 => ?_)
  refine zi g15 (fun v30 h31 g16 => ?_)
  refine zi g16 (fun v32 h33 g17 => ?_)
  refine zi g17 (fun v34 h35 g18 => ?_)
  refine zi g18 (fun v36 h37 g19 => ?_)
  refine zi g19 (fun v38 h39 g20 => ?_)
  refine zm g20 (fun h40 g21 => ?_) (fun h40 g21 => ?_)
  ·refine zm g21 (fun h41 g22 => ?_) (fun h41 g22 => ?_)
   ·refine zm g22 (fun h42 g23 => ?_) (fun h42 g23 => ?_)
    ·refine zm g23 (fun h43 g24 => ?_) (fun h43 g24 => ?_)
     ·refine zm g24 (fun h44 g25 => ?_) (fun h44 g25 => ?_)
      ·refine zm g25 (fun h45 g26 => ?_) (fun h45 g26 => ?_)
       ·refine zm g26 (fun h46 g27 => ?_) (fun h46 g27 => ?_)
        ·refine zi g27 (fun v47 h48 g28 => ?_)
         refine zm g28 (fun h49 g29 => ?_) (fun h49 g29 => ?_)
         ·refine zm g29 (fun h50 g30 => ?_) (fun h50 g30 => ?_)
          ·refine zm g30 (fun h51 g31 => ?_) (fun h51 g31 => ?_)
           ·refine zi g31 (fun v52 h53 g32 => ?_)
            exact zt (g := zO) g32 (zqc [(22, 1, 0, .c (.agg (zb v1))), (22, 1, 2, .c (.tup [(db v3.1), (di v3.2)])), (22, 2, 0, .c (.agg (zb v5))), (22, 2, 2, .c (.tup [(db v7.1), (di v7.2)])), (22, 3, 0, .c (.agg (zb v9))), (22, 3, 1, .c (.tup [(di v11.1), (di v11.2)])), (22, 4, 0, .c (.agg (zb v13))), (22, 4, 1, .c (.tup [(dl eI v15.1.1 v15.1.2), (di v15.2)])), (22, 7, 0, .c (.agg (zb v20))), (22, 7, 1, .c (.tup [(di v22.1), (di v22.2)])), (22, 8, 0, .c (.agg (zb v24))), (22, 8, 1, .c (.tup [(di v26.1), (di v26.2)])), (22, 9, 0, .c (.agg (zb v28))), (22, 9, 1, .c (.tup [(dl (eL eI) v30.1.1 v30.1.2), (di v30.2)])), (22, 10, 0, .c (.agg (zb v32))), (22, 10, 1, .c (.tup [(di v34.1), (di v34.2.1), (di v34.2.2)])), (22, 11, 0, .c (.agg (zb v36))), (22, 11, 1, .c (.tup [(dl eI v38.1.1 v38.1.2), (di v38.2)])), (22, 12, 2, .q (xb true)), (22, 12, 6, .q (xb true)), (22, 12, 10, .q (xb true)), (22, 12, 14, .q (xb true)), (22, 12, 18, .q (xb true)), (22, 12, 22, .q (xb true)), (22, 12, 26, .q (xb true)), (22, 12, 33, .c (db v47)), (22, 12, 35, .q (xb true)), (22, 12, 39, .q (xb true)), (22, 12, 43, .q (xb true)), (22, 12, 46, .c (db v52))] [(22, 1000005, (.nor, zy v3 v7 v11 v15 false))] (ob (zk k 3 _ h2) (ob (zfb k v1 ([2, 3], .ex) _ h4) (ob (zk k 3 _ h6) (ob (zE k v5 ([0, 1, 2, 0, 1], .ex) _ h8) (ob (zk k 3 _ h10) (ob (zQ k v9 _ h12) (ob (zk k 3 _ h14) (ob (z9 k v13 _ h16) (ob (zI k v3 v7 v11 v15 _ h18) (ob (zk k 3 _ h21) (ob (zK k v20 _ h23) (ob (zk k 3 _ h25) (ob (zcb k v24 0 3 _ h27) (ob (zk k 3 _ h29) (ob (zJ k v28 _ h31) (ob (zk k 3 _ h33) (ob (zIb k v32 _ h35) (ob (zk k 1 _ h37) (ob (zxb k v36 _ h39) (ob (o_b h40) (ob (o_b h41) (ob (o_b h42) (ob (o_b h43) (ob (o_b h44) (ob (o_b h45) (ob (o_b h46) (ob (zAd k v30.1 ([([0, 3], .ex), ([1], .ex), ([2], .ex), ([4], .ex)], .ex) _ h48) (ob (o_b h49) (ob (o_b h50) (ob (o_b h51) (ob (zNg k v38.1 ([1, 4], .ex) _ h53) ob0))))))))))))))))))))))))))))))) (by kernel_rfl))
           ·exact zt (g := zO) g31 (zqc [(22, 1, 0, .c (.agg (zb v1))), (22, 1, 2, .c (.tup [(db v3.1), (di v3.2)])), (22, 2, 0, .c (.agg (zb v5))), (22, 2, 2, .c (.tup [(db v7.1), (di v7.2)])), (22, 3, 0, .c (.agg (zb v9))), (22, 3, 1, .c (.tup [(di v11.1), (di v11.2)])), (22, 4, 0, .c (.agg (zb v13))), (22, 4, 1, .c (.tup [(dl eI v15.1.1 v15.1.2), (di v15.2)])), (22, 7, 0, .c (.agg (zb v20))), (22, 7, 1, .c (.tup [(di v22.1), (di v22.2)])), (22, 8, 0, .c (.agg (zb v24))), (22, 8, 1, .c (.tup [(di v26.1), (di v26.2)])), (22, 9, 0, .c (.agg (zb v28))), (22, 9, 1, .c (.tup [(dl (eL eI) v30.1.1 v30.1.2), (di v30.2)])), (22, 10, 0, .c (.agg (zb v32))), (22, 10, 1, .c (.tup [(di v34.1), (di v34.2.1), (di v34.2.2)])), (22, 11, 0, .c (.agg (zb v36))), (22, 11, 1, .c (.tup [(dl eI v38.1.1 v38.1.2), (di v38.2)])), (22, 12, 2, .q (xb true)), (22, 12, 6, .q (xb true)), (22, 12, 10, .q (xb true)), (22, 12, 14, .q (xb true)), (22, 12, 18, .q (xb true)), (22, 12, 22, .q (xb true)), (22, 12, 26, .q (xb true)), (22, 12, 33, .c (db v47)), (22, 12, 35, .q (xb true)), (22, 12, 39, .q (xb true)), (22, 12, 43, .q (xb false))] [(22, 1000005, (.nor, zy v3 v7 v11 v15 false))] (ob (zk k 3 _ h2) (ob (zfb k v1 ([2, 3], .ex) _ h4) (ob (zk k 3 _ h6) (ob (zE k v5 ([0, 1, 2, 0, 1], .ex) _ h8) (ob (zk k 3 _ h10) (ob (zQ k v9 _ h12) (ob (zk k 3 _ h14) (ob (z9 k v13 _ h16) (ob (zI k v3 v7 v11 v15 _ h18) (ob (zk k 3 _ h21) (ob (zK k v20 _ h23) (ob (zk k 3 _ h25) (ob (zcb k v24 0 3 _ h27) (ob (zk k 3 _ h29) (ob (zJ k v28 _ h31) (ob (zk k 3 _ h33) (ob (zIb k v32 _ h35) (ob (zk k 1 _ h37) (ob (zxb k v36 _ h39) (ob (o_b h40) (ob (o_b h41) (ob (o_b h42) (ob (o_b h43) (ob (o_b h44) (ob (o_b h45) (ob (o_b h46) (ob (zAd k v30.1 ([([0, 3], .ex), ([1], .ex), ([2], .ex), ([4], .ex)], .ex) _ h48) (ob (o_b h49) (ob (o_b h50) (ob (o_b h51) ob0)))))))))))))))))))))))))))))) (by kernel_rfl))
          ·exact zt (g := zO) g30 (zqc [(22, 1, 0, .c (.agg (zb v1))), (22, 1, 2, .c (.tup [(db v3.1), (di v3.2)])), (22, 2, 0, .c (.agg (zb v5))), (22, 2, 2, .c (.tup [(db v7.1), (di v7.2)])), (22, 3, 0, .c (.agg (zb v9))), (22, 3, 1, .c (.tup [(di v11.1), (di v11.2)])), (22, 4, 0, .c (.agg (zb v13))), (22, 4, 1, .c (.tup [(dl eI v15.1.1 v15.1.2), (di v15.2)])), (22, 7, 0, .c (.agg (zb v20))), (22, 7, 1, .c (.tup [(di v22.1), (di v22.2)])), (22, 8, 0, .c (.agg (zb v24))), (22, 8, 1, .c (.tup [(di v26.1), (di v26.2)])), (22, 9, 0, .c (.agg (zb v28))), (22, 9, 1, .c (.tup [(dl (eL eI) v30.1.1 v30.1.2), (di v30.2)])), (22, 10, 0, .c (.agg (zb v32))), (22, 10, 1, .c (.tup [(di v34.1), (di v34.2.1), (di v34.2.2)])), (22, 11, 0, .c (.agg (zb v36))), (22, 11, 1, .c (.tup [(dl eI v38.1.1 v38.1.2), (di v38.2)])), (22, 12, 2, .q (xb true)), (22, 12, 6, .q (xb true)), (22, 12, 10, .q (xb true)), (22, 12, 14, .q (xb true)), (22, 12, 18, .q (xb true)), (22, 12, 22, .q (xb true)), (22, 12, 26, .q (xb true)), (22, 12, 33, .c (db v47)), (22, 12, 35, .q (xb true)), (22, 12, 39, .q (xb false))] [(22, 1000005, (.nor, zy v3 v7 v11 v15 false))] (ob (zk k 3 _ h2) (ob (zfb k v1 ([2, 3], .ex) _ h4) (ob (zk k 3 _ h6) (ob (zE k v5 ([0, 1, 2, 0, 1], .ex) _ h8) (ob (zk k 3 _ h10) (ob (zQ k v9 _ h12) (ob (zk k 3 _ h14) (ob (z9 k v13 _ h16) (ob (zI k v3 v7 v11 v15 _ h18) (ob (zk k 3 _ h21) (ob (zK k v20 _ h23) (ob (zk k 3 _ h25) (ob (zcb k v24 0 3 _ h27) (ob (zk k 3 _ h29) (ob (zJ k v28 _ h31) (ob (zk k 3 _ h33) (ob (zIb k v32 _ h35) (ob (zk k 1 _ h37) (ob (zxb k v36 _ h39) (ob (o_b h40) (ob (o_b h41) (ob (o_b h42) (ob (o_b h43) (ob (o_b h44) (ob (o_b h45) (ob (o_b h46) (ob (zAd k v30.1 ([([0, 3], .ex), ([1], .ex), ([2], .ex), ([4], .ex)], .ex) _ h48) (ob (o_b h49) (ob (o_b h50) ob0))))))))))))))))))))))))))))) (by kernel_rfl))
         ·exact zt (g := zO) g29 (zqc [(22, 1, 0, .c (.agg (zb v1))), (22, 1, 2, .c (.tup [(db v3.1), (di v3.2)])), (22, 2, 0, .c (.agg (zb v5))), (22, 2, 2, .c (.tup [(db v7.1), (di v7.2)])), (22, 3, 0, .c (.agg (zb v9))), (22, 3, 1, .c (.tup [(di v11.1), (di v11.2)])), (22, 4, 0, .c (.agg (zb v13))), (22, 4, 1, .c (.tup [(dl eI v15.1.1 v15.1.2), (di v15.2)])), (22, 7, 0, .c (.agg (zb v20))), (22, 7, 1, .c (.tup [(di v22.1), (di v22.2)])), (22, 8, 0, .c (.agg (zb v24))), (22, 8, 1, .c (.tup [(di v26.1), (di v26.2)])), (22, 9, 0, .c (.agg (zb v28))), (22, 9, 1, .c (.tup [(dl (eL eI) v30.1.1 v30.1.2), (di v30.2)])), (22, 10, 0, .c (.agg (zb v32))), (22, 10, 1, .c (.tup [(di v34.1), (di v34.2.1), (di v34.2.2)])), (22, 11, 0, .c (.agg (zb v36))), (22, 11, 1, .c (.tup [(dl eI v38.1.1 v38.1.2), (di v38.2)])), (22, 12, 2, .q (xb true)), (22, 12, 6, .q (xb true)), (22, 12, 10, .q (xb true)), (22, 12, 14, .q (xb true)), (22, 12, 18, .q (xb true)), (22, 12, 22, .q (xb true)), (22, 12, 26, .q (xb true)), (22, 12, 33, .c (db v47)), (22, 12, 35, .q (xb false))] [(22, 1000005, (.nor, zy v3 v7 v11 v15 false))] (ob (zk k 3 _ h2) (ob (zfb k v1 ([2, 3], .ex) _ h4) (ob (zk k 3 _ h6) (ob (zE k v5 ([0, 1, 2, 0, 1], .ex) _ h8) (ob (zk k 3 _ h10) (ob (zQ k v9 _ h12) (ob (zk k 3 _ h14) (ob (z9 k v13 _ h16) (ob (zI k v3 v7 v11 v15 _ h18) (ob (zk k 3 _ h21) (ob (zK k v20 _ h23) (ob (zk k 3 _ h25) (ob (zcb k v24 0 3 _ h27) (ob (zk k 3 _ h29) (ob (zJ k v28 _ h31) (ob (zk k 3 _ h33) (ob (zIb k v32 _ h35) (ob (zk k 1 _ h37) (ob (zxb k v36 _ h39) (ob (o_b h40) (ob (o_b h41) (ob (o_b h42) (ob (o_b h43) (ob (o_b h44) (ob (o_b h45) (ob (o_b h46) (ob (zAd k v30.1 ([([0, 3], .ex), ([1], .ex), ([2], .ex), ([4], .ex)], .ex) _ h48) (ob (o_b h49) ob0)))))))))))))))))))))))))))) (by kernel_rfl))
        ·exact zt (g := zO) g27 (zqc [(22, 1, 0, .c (.agg (zb v1))), (22, 1, 2, .c (.tup [(db v3.1), (di v3.2)])), (22, 2, 0, .c (.agg (zb v5))), (22, 2, 2, .c (.tup [(db v7.1), (di v7.2)])), (22, 3, 0, .c (.agg (zb v9))), (22, 3, 1, .c (.tup [(di v11.1), (di v11.2)])), (22, 4, 0, .c (.agg (zb v13))), (22, 4, 1, .c (.tup [(dl eI v15.1.1 v15.1.2), (di v15.2)])), (22, 7, 0, .c (.agg (zb v20))), (22, 7, 1, .c (.tup [(di v22.1), (di v22.2)])), (22, 8, 0, .c (.agg (zb v24))), (22, 8, 1, .c (.tup [(di v26.1), (di v26.2)])), (22, 9, 0, .c (.agg (zb v28))), (22, 9, 1, .c (.tup [(dl (eL eI) v30.1.1 v30.1.2), (di v30.2)])), (22, 10, 0, .c (.agg (zb v32))), (22, 10, 1, .c (.tup [(di v34.1), (di v34.2.1), (di v34.2.2)])), (22, 11, 0, .c (.agg (zb v36))), (22, 11, 1, .c (.tup [(dl eI v38.1.1 v38.1.2), (di v38.2)])), (22, 12, 2, .q (xb true)), (22, 12, 6, .q (xb true)), (22, 12, 10, .q (xb true)), (22, 12, 14, .q (xb true)), (22, 12, 18, .q (xb true)), (22, 12, 22, .q (xb true)), (22, 12, 26, .q (xb false))] [(22, 1000005, (.nor, zy v3 v7 v11 v15 false))] (ob (zk k 3 _ h2) (ob (zfb k v1 ([2, 3], .ex) _ h4) (ob (zk k 3 _ h6) (ob (zE k v5 ([0, 1, 2, 0, 1], .ex) _ h8) (ob (zk k 3 _ h10) (ob (zQ k v9 _ h12) (ob (zk k 3 _ h14) (ob (z9 k v13 _ h16) (ob (zI k v3 v7 v11 v15 _ h18) (ob (zk k 3 _ h21) (ob (zK k v20 _ h23) (ob (zk k 3 _ h25) (ob (zcb k v24 0 3 _ h27) (ob (zk k 3 _ h29) (ob (zJ k v28 _ h31) (ob (zk k 3 _ h33) (ob (zIb k v32 _ h35) (ob (zk k 1 _ h37) (ob (zxb k v36 _ h39) (ob (o_b h40) (ob (o_b h41) (ob (o_b h42) (ob (o_b h43) (ob (o_b h44) (ob (o_b h45) (ob (o_b h46) ob0)))))))))))))))))))))))))) (by kernel_rfl))
       ·exact zt (g := zO) g26 (zqc [(22, 1, 0, .c (.agg (zb v1))), (22, 1, 2, .c (.tup [(db v3.1), (di v3.2)])), (22, 2, 0, .c (.agg (zb v5))), (22, 2, 2, .c (.tup [(db v7.1), (di v7.2)])), (22, 3, 0, .c (.agg (zb v9))), (22, 3, 1, .c (.tup [(di v11.1), (di v11.2)])), (22, 4, 0, .c (.agg (zb v13))), (22, 4, 1, .c (.tup [(dl eI v15.1.1 v15.1.2), (di v15.2)])), (22, 7, 0, .c (.agg (zb v20))), (22, 7, 1, .c (.tup [(di v22.1), (di v22.2)])), (22, 8, 0, .c (.agg (zb v24))), (22, 8, 1, .c (.tup [(di v26.1), (di v26.2)])), (22, 9, 0, .c (.agg (zb v28))), (22, 9, 1, .c (.tup [(dl (eL eI) v30.1.1 v30.1.2), (di v30.2)])), (22, 10, 0, .c (.agg (zb v32))), (22, 10, 1, .c (.tup [(di v34.1), (di v34.2.1), (di v34.2.2)])), (22, 11, 0, .c (.agg (zb v36))), (22, 11, 1, .c (.tup [(dl eI v38.1.1 v38.1.2), (di v38.2)])), (22, 12, 2, .q (xb true)), (22, 12, 6, .q (xb true)), (22, 12, 10, .q (xb true)), (22, 12, 14, .q (xb true)), (22, 12, 18, .q (xb true)), (22, 12, 22, .q (xb false))] [(22, 1000005, (.nor, zy v3 v7 v11 v15 false))] (ob (zk k 3 _ h2) (ob (zfb k v1 ([2, 3], .ex) _ h4) (ob (zk k 3 _ h6) (ob (zE k v5 ([0, 1, 2, 0, 1], .ex) _ h8) (ob (zk k 3 _ h10) (ob (zQ k v9 _ h12) (ob (zk k 3 _ h14) (ob (z9 k v13 _ h16) (ob (zI k v3 v7 v11 v15 _ h18) (ob (zk k 3 _ h21) (ob (zK k v20 _ h23) (ob (zk k 3 _ h25) (ob (zcb k v24 0 3 _ h27) (ob (zk k 3 _ h29) (ob (zJ k v28 _ h31) (ob (zk k 3 _ h33) (ob (zIb k v32 _ h35) (ob (zk k 1 _ h37) (ob (zxb k v36 _ h39) (ob (o_b h40) (ob (o_b h41) (ob (o_b h42) (ob (o_b h43) (ob (o_b h44) (ob (o_b h45) ob0))))))))))))))))))))))))) (by kernel_rfl))
      ·exact zt (g := zO) g25 (zqc [(22, 1, 0, .c (.agg (zb v1))), (22, 1, 2, .c (.tup [(db v3.1), (di v3.2)])), (22, 2, 0, .c (.agg (zb v5))), (22, 2, 2, .c (.tup [(db v7.1), (di v7.2)])), (22, 3, 0, .c (.agg (zb v9))), (22, 3, 1, .c (.tup [(di v11.1), (di v11.2)])), (22, 4, 0, .c (.agg (zb v13))), (22, 4, 1, .c (.tup [(dl eI v15.1.1 v15.1.2), (di v15.2)])), (22, 7, 0, .c (.agg (zb v20))), (22, 7, 1, .c (.tup [(di v22.1), (di v22.2)])), (22, 8, 0, .c (.agg (zb v24))), (22, 8, 1, .c (.tup [(di v26.1), (di v26.2)])), (22, 9, 0, .c (.agg (zb v28))), (22, 9, 1, .c (.tup [(dl (eL eI) v30.1.1 v30.1.2), (di v30.2)])), (22, 10, 0, .c (.agg (zb v32))), (22, 10, 1, .c (.tup [(di v34.1), (di v34.2.1), (di v34.2.2)])), (22, 11, 0, .c (.agg (zb v36))), (22, 11, 1, .c (.tup [(dl eI v38.1.1 v38.1.2), (di v38.2)])), (22, 12, 2, .q (xb true)), (22, 12, 6, .q (xb true)), (22, 12, 10, .q (xb true)), (22, 12, 14, .q (xb true)), (22, 12, 18, .q (xb false))] [(22, 1000005, (.nor, zy v3 v7 v11 v15 false))] (ob (zk k 3 _ h2) (ob (zfb k v1 ([2, 3], .ex) _ h4) (ob (zk k 3 _ h6) (ob (zE k v5 ([0, 1, 2, 0, 1], .ex) _ h8) (ob (zk k 3 _ h10) (ob (zQ k v9 _ h12) (ob (zk k 3 _ h14) (ob (z9 k v13 _ h16) (ob (zI k v3 v7 v11 v15 _ h18) (ob (zk k 3 _ h21) (ob (zK k v20 _ h23) (ob (zk k 3 _ h25) (ob (zcb k v24 0 3 _ h27) (ob (zk k 3 _ h29) (ob (zJ k v28 _ h31) (ob (zk k 3 _ h33) (ob (zIb k v32 _ h35) (ob (zk k 1 _ h37) (ob (zxb k v36 _ h39) (ob (o_b h40) (ob (o_b h41) (ob (o_b h42) (ob (o_b h43) (ob (o_b h44) ob0)))))))))))))))))))))))) (by kernel_rfl))
     ·exact zt (g := zO) g24 (zqc [(22, 1, 0, .c (.agg (zb v1))), (22, 1, 2, .c (.tup [(db v3.1), (di v3.2)])), (22, 2, 0, .c (.agg (zb v5))), (22, 2, 2, .c (.tup [(db v7.1), (di v7.2)])), (22, 3, 0, .c (.agg (zb v9))), (22, 3, 1, .c (.tup [(di v11.1), (di v11.2)])), (22, 4, 0, .c (.agg (zb v13))), (22, 4, 1, .c (.tup [(dl eI v15.1.1 v15.1.2), (di v15.2)])), (22, 7, 0, .c (.agg (zb v20))), (22, 7, 1, .c (.tup [(di v22.1), (di v22.2)])), (22, 8, 0, .c (.agg (zb v24))), (22, 8, 1, .c (.tup [(di v26.1), (di v26.2)])), (22, 9, 0, .c (.agg (zb v28))), (22, 9, 1, .c (.tup [(dl (eL eI) v30.1.1 v30.1.2), (di v30.2)])), (22, 10, 0, .c (.agg (zb v32))), (22, 10, 1, .c (.tup [(di v34.1), (di v34.2.1), (di v34.2.2)])), (22, 11, 0, .c (.agg (zb v36))), (22, 11, 1, .c (.tup [(dl eI v38.1.1 v38.1.2), (di v38.2)])), (22, 12, 2, .q (xb true)), (22, 12, 6, .q (xb true)), (22, 12, 10, .q (xb true)), (22, 12, 14, .q (xb false))] [(22, 1000005, (.nor, zy v3 v7 v11 v15 false))] (ob (zk k 3 _ h2) (ob (zfb k v1 ([2, 3], .ex) _ h4) (ob (zk k 3 _ h6) (ob (zE k v5 ([0, 1, 2, 0, 1], .ex) _ h8) (ob (zk k 3 _ h10) (ob (zQ k v9 _ h12) (ob (zk k 3 _ h14) (ob (z9 k v13 _ h16) (ob (zI k v3 v7 v11 v15 _ h18) (ob (zk k 3 _ h21) (ob (zK k v20 _ h23) (ob (zk k 3 _ h25) (ob (zcb k v24 0 3 _ h27) (ob (zk k 3 _ h29) (ob (zJ k v28 _ h31) (ob (zk k 3 _ h33) (ob (zIb k v32 _ h35) (ob (zk k 1 _ h37) (ob (zxb k v36 _ h39) (ob (o_b h40) (ob (o_b h41) (ob (o_b h42) (ob (o_b h43) ob0))))))))))))))))))))))) (by kernel_rfl))
    ·exact zt (g := zO) g23 (zqc [(22, 1, 0, .c (.agg (zb v1))), (22, 1, 2, .c (.tup [(db v3.1), (di v3.2)])), (22, 2, 0, .c (.agg (zb v5))), (22, 2, 2, .c (.tup [(db v7.1), (di v7.2)])), (22, 3, 0, .c (.agg (zb v9))), (22, 3, 1, .c (.tup [(di v11.1), (di v11.2)])), (22, 4, 0, .c (.agg (zb v13))), (22, 4, 1, .c (.tup [(dl eI v15.1.1 v15.1.2), (di v15.2)])), (22, 7, 0, .c (.agg (zb v20))), (22, 7, 1, .c (.tup [(di v22.1), (di v22.2)])), (22, 8, 0, .c (.agg (zb v24))), (22, 8, 1, .c (.tup [(di v26.1), (di v26.2)])), (22, 9, 0, .c (.agg (zb v28))), (22, 9, 1, .c (.tup [(dl (eL eI) v30.1.1 v30.1.2), (di v30.2)])), (22, 10, 0, .c (.agg (zb v32))), (22, 10, 1, .c (.tup [(di v34.1), (di v34.2.1), (di v34.2.2)])), (22, 11, 0, .c (.agg (zb v36))), (22, 11, 1, .c (.tup [(dl eI v38.1.1 v38.1.2), (di v38.2)])), (22, 12, 2, .q (xb true)), (22, 12, 6, .q (xb true)), (22, 12, 10, .q (xb false))] [(22, 1000005, (.nor, zy v3 v7 v11 v15 false))] (ob (zk k 3 _ h2) (ob (zfb k v1 ([2, 3], .ex) _ h4) (ob (zk k 3 _ h6) (ob (zE k v5 ([0, 1, 2, 0, 1], .ex) _ h8) (ob (zk k 3 _ h10) (ob (zQ k v9 _ h12) (ob (zk k 3 _ h14) (ob (z9 k v13 _ h16) (ob (zI k v3 v7 v11 v15 _ h18) (ob (zk k 3 _ h21) (ob (zK k v20 _ h23) (ob (zk k 3 _ h25) (ob (zcb k v24 0 3 _ h27) (ob (zk k 3 _ h29) (ob (zJ k v28 _ h31) (ob (zk k 3 _ h33) (ob (zIb k v32 _ h35) (ob (zk k 1 _ h37) (ob (zxb k v36 _ h39) (ob (o_b h40) (ob (o_b h41) (ob (o_b h42) ob0)))))))))))))))))))))) (by kernel_rfl))
   ·exact zt (g := zO) g22 (zqc [(22, 1, 0, .c (.agg (zb v1))), (22, 1, 2, .c (.tup [(db v3.1), (di v3.2)])), (22, 2, 0, .c (.agg (zb v5))), (22, 2, 2, .c (.tup [(db v7.1), (di v7.2)])), (22, 3, 0, .c (.agg (zb v9))), (22, 3, 1, .c (.tup [(di v11.1), (di v11.2)])), (22, 4, 0, .c (.agg (zb v13))), (22, 4, 1, .c (.tup [(dl eI v15.1.1 v15.1.2), (di v15.2)])), (22, 7, 0, .c (.agg (zb v20))), (22, 7, 1, .c (.tup [(di v22.1), (di v22.2)])), (22, 8, 0, .c (.agg (zb v24))), (22, 8, 1, .c (.tup [(di v26.1), (di v26.2)])), (22, 9, 0, .c (.agg (zb v28))), (22, 9, 1, .c (.tup [(dl (eL eI) v30.1.1 v30.1.2), (di v30.2)])), (22, 10, 0, .c (.agg (zb v32))), (22, 10, 1, .c (.tup [(di v34.1), (di v34.2.1), (di v34.2.2)])), (22, 11, 0, .c (.agg (zb v36))), (22, 11, 1, .c (.tup [(dl eI v38.1.1 v38.1.2), (di v38.2)])), (22, 12, 2, .q (xb true)), (22, 12, 6, .q (xb false))] [(22, 1000005, (.nor, zy v3 v7 v11 v15 false))] (ob (zk k 3 _ h2) (ob (zfb k v1 ([2, 3], .ex) _ h4) (ob (zk k 3 _ h6) (ob (zE k v5 ([0, 1, 2, 0, 1], .ex) _ h8) (ob (zk k 3 _ h10) (ob (zQ k v9 _ h12) (ob (zk k 3 _ h14) (ob (z9 k v13 _ h16) (ob (zI k v3 v7 v11 v15 _ h18) (ob (zk k 3 _ h21) (ob (zK k v20 _ h23) (ob (zk k 3 _ h25) (ob (zcb k v24 0 3 _ h27) (ob (zk k 3 _ h29) (ob (zJ k v28 _ h31) (ob (zk k 3 _ h33) (ob (zIb k v32 _ h35) (ob (zk k 1 _ h37) (ob (zxb k v36 _ h39) (ob (o_b h40) (ob (o_b h41) ob0))))))))))))))))))))) (by kernel_rfl))
  ·exact zt (g := zO) g21 (zqc [(22, 1, 0, .c (.agg (zb v1))), (22, 1, 2, .c (.tup [(db v3.1), (di v3.2)])), (22, 2, 0, .c (.agg (zb v5))), (22, 2, 2, .c (.tup [(db v7.1), (di v7.2)])), (22, 3, 0, .c (.agg (zb v9))), (22, 3, 1, .c (.tup [(di v11.1), (di v11.2)])), (22, 4, 0, .c (.agg (zb v13))), (22, 4, 1, .c (.tup [(dl eI v15.1.1 v15.1.2), (di v15.2)])), (22, 7, 0, .c (.agg (zb v20))), (22, 7, 1, .c (.tup [(di v22.1), (di v22.2)])), (22, 8, 0, .c (.agg (zb v24))), (22, 8, 1, .c (.tup [(di v26.1), (di v26.2)])), (22, 9, 0, .c (.agg (zb v28))), (22, 9, 1, .c (.tup [(dl (eL eI) v30.1.1 v30.1.2), (di v30.2)])), (22, 10, 0, .c (.agg (zb v32))), (22, 10, 1, .c (.tup [(di v34.1), (di v34.2.1), (di v34.2.2)])), (22, 11, 0, .c (.agg (zb v36))), (22, 11, 1, .c (.tup [(dl eI v38.1.1 v38.1.2), (di v38.2)])), (22, 12, 2, .q (xb false))] [(22, 1000005, (.nor, zy v3 v7 v11 v15 false))] (ob (zk k 3 _ h2) (ob (zfb k v1 ([2, 3], .ex) _ h4) (ob (zk k 3 _ h6) (ob (zE k v5 ([0, 1, 2, 0, 1], .ex) _ h8) (ob (zk k 3 _ h10) (ob (zQ k v9 _ h12) (ob (zk k 3 _ h14) (ob (z9 k v13 _ h16) (ob (zI k v3 v7 v11 v15 _ h18) (ob (zk k 3 _ h21) (ob (zK k v20 _ h23) (ob (zk k 3 _ h25) (ob (zcb k v24 0 3 _ h27) (ob (zk k 3 _ h29) (ob (zJ k v28 _ h31) (ob (zk k 3 _ h33) (ob (zIb k v32 _ h35) (ob (zk k 1 _ h37) (ob (zxb k v36 _ h39) (ob (o_b h40) ob0)))))))))))))))))))) (by kernel_rfl))
noncomputable def zpz (p0 p1 : Int) (r : (Int × Bool)) : TM := [(0, (xi p0)), (1, (xi p1)), (4, (xi 0)), (7, (xb false)), (5, (xi r.1)), (12, (xb r.2))]
noncomputable def zue (p0 p1 : Int) (cb : Bool) (r : (Int × Bool)) : St := ⟨(zpz p0 p1 r), ⟨[], []⟩, []⟩
noncomputable def zny (p0 p1 : Int) (cb : Bool) : TM := [(0, (xi p0)), (1, (xi p1)), (4, (xi 0)), (7, (xb false)), (5, (xi (p0.tmod p1))), (12, (xb cb))]
theorem zRm (k : Nat) (p0 p1 : Int) (cb : Bool) (r : (Int × Bool)) (h : zGd k p0 p1 cb = some r) : ev TE 45 (cnd TE 45 12) ⟨(zny p0 p1 cb), ⟨[], []⟩, []⟩ = some (.nor, zue p0 p1 cb r) := by
 unfold zGd at h
 refine zm h (fun h201 g1 => ?_) (fun h201 g1 => ?_)
 ·subst h201
  exact zq (g := fun r => (Ex.nor, zue p0 p1 true r)) g1 (zqe [] [] ob0 (by kernel_rfl))
 ·subst h201
  exact zq (g := fun r => (Ex.nor, zue p0 p1 false r)) g1 (zqe [] [] ob0 (by kernel_rfl))
theorem zhh (k : Nat) (p0 p1 r : Int) (h : zNd k p0 p1 = some r) : zx TE (ev TE) 45 [(di p0), (di p1)] = some (zFh r) := by
 unfold zNd at h
 refine zm h (fun h1 g1 => ?_) (fun h1 g1 => ?_)
 ·exact zt (g := zFh) g1 (zqc [(45, 1, 1, .q (xb true))] [] (ob (o_b h1) ob0) (by kernel_rfl))
 ·refine zm g1 (fun h2 g2 => ?_) (fun h2 g2 => ?_)
  ·cases g2
  ·refine zi g2 (fun v3 h4 g3 => ?_)
   exact zt (g := zFh) g3 (zqc [(45, 1, 1, .q (xb false)), (45, 3, 2, .q (xi (p0.tmod p1)))] [(45, 2000012, (.nor, zue p0 p1 (decide ((p0.tmod p1) < 0)) v3))] (ob (o_b h1) (ob (zXy (x := p0) .i64 h2) (ob (zRm k p0 p1 (decide ((p0.tmod p1) < 0)) _ h4) ob0))) (by kernel_rfl))
theorem zJj (k : Nat) (p0 : (SL Int)) (p1 r : Int) (h : zWe k p0 p1 = some r) : zx TE (ev TE) 77 [(dl eI p0.1 p0.2), (di p1)] = some (zDh r) := by
 unfold zWe at h
 refine zm h (fun h1 g1 => ?_) (fun h1 g1 => ?_)
 ·exact zt (g := zDh) g1 (zqc [(77, 1, 1, .q (xi (p0.1.length : Int))), (77, 1, 2, .q (xb true))] [] (ob (zp eI p0.1) (ob (o_b h1) ob0)) (by kernel_rfl))
 ·refine zi g1 (fun v2 h3 g2 => ?_)
  refine zi g2 (fun v4 h5 g3 => ?_)
  exact zt (g := zDh) g3 (zqc [(77, 1, 1, .q (xi (p0.1.length : Int))), (77, 1, 2, .q (xb false)), (77, 3, 3, .q (xi (p0.1.length : Int))), (77, 3, 4, .c (di v2)), (77, 3, 5, .q (.d (.pin [(di v4)])))] [] (ob (zp eI p0.1) (ob (o_b h1) (ob (zp eI p0.1) (ob (zhh k p1 (p0.1.length : Int) _ h3) (ob (o_ia (e := eI) 1 h5 rfl) ob0))))) (by kernel_rfl))
theorem zdf (k : Nat) (p0 : (SL Int)) (p1 : Int) (r : (SL Int)) (h : zTc k p0 p1 = some r) : zx TE (ev TE) 79 [(dl eI p0.1 p0.2), (di p1)] = some (z9j r) := by
 unfold zTc at h
 refine zib h (fun h1 g1 => ?_)
 refine zib g1 (fun h2 g2 => ?_)
 exact zt (g := z9j) g2 (zqr [(79, 1, 2, .ns (p0.1.map eI) p0.1.length), (79, 1, 5, .ap (p0.1 ++ [p1]).length (rowO false 1 eI (p0.1 ++ [p1]) true))] [] [(dl eI (p0.1 ++ [p1]) (rcap false (p0.1 ++ [p1])))] (ob (zxw p0.1 eI) (ob (o_ns (P := TE.P) (φ := fun _ _ => none) (T := 27) (q := (1, [(di 0)])) (c := p0.2) (e := eI) p0.1 (by kernel_rfl) (fun _ => rfl) h1) (ob (rfl : (([] : List (List D)).isEmpty || !(p0.1.map eI).isEmpty) = true) (ob (o_ap (b := false) (z := 1) (e := eI) (l := p0.1) (w := true) p1 (fun _ => rfl) h2) (ob (show zFc ⟨[(7, (rowO false 1 eI (p0.1 ++ [p1]) true))], []⟩ _ = _ from (o_s1 (x := (.row 0 7 (p0.1 ++ [p1]).length)) (zen false 1 eI (p0.1 ++ [p1]) true rfl) o_s0)) ob0))))) (by kernel_rfl))
theorem zQi (k : Nat) (p0 p1 r : zN) (h : zZf k p0 p1 = some r) : zx TE (ev TE) 83 [(.agg [(di p0.Low), (di p0.High)]), (.agg [(di p1.Low), (di p1.High)])] = some (z6i r) := by
 unfold zZf at h
 refine zi h (fun v1 h2 g1 => ?_)
 exact zt (g := z6i) g1 (zqc [(83, 1, 10, .c (.agg [(di v1.Low), (di v1.High)]))] [] (ob (zwk k (if p1.Low > p0.Low then p1.Low else p0.Low) (if p1.High < p0.High then p1.High else p0.High) _ h2) ob0) (by kernel_rfl))
noncomputable def zGz (p0 : za) (p1 : (SL Int)) (p2 s1_8 s5_10 : Int) (r : Bool) : TM := [(0, (.d (.agg (zb p0)))), (1, (.d (dl eI p1.1 p1.2))), (2, (xi p2)), (zsp 3), (6, (xb false)), (14, (xb false)), (zsp 7), (zsp 8), (zsp 9), (10, (xi s1_8)), (35, (xb true)), (11, (xi s5_10)), (53, (xb true)), (99, (xb r))]
noncomputable def zbb (p0 : za) (p1 : (SL Int)) (p2 : Int) (v4 v6 : zn) (s1_8 : Int) (v506 : zN) (s5_10 : Int) (r : Bool) : St := ⟨(zGz p0 p1 p2 s1_8 s5_10 r), ⟨[(zc 3 (zb p0)), (zc 7 (zd v4)), (zc 8 (zd v6)), (9, (.cells [(xi v506.Low), (xi v506.High)]))], []⟩, []⟩
noncomputable def zCz (p0 : za) (p1 : (SL Int)) (p2 s1_8 s5_10 : Int) : TM := [(0, (.d (.agg (zb p0)))), (1, (.d (dl eI p1.1 p1.2))), (2, (xi p2)), (zsp 3), (6, (xb false)), (14, (xb false)), (zsp 7), (zsp 8), (zsp 9), (10, (xi s1_8)), (35, (xb true)), (11, (xi s5_10)), (53, (xb true))]
theorem zVh (k : Nat) (p0 : za) (p1 : (SL Int)) (p2 : Int) (v4 v6 : zn) (s1_8 : Int) (v506 : zN) (s5_10 : Int) (r : Bool) (h : zbd k p0 p1 p2 v4 v6 s1_8 v506 s5_10 = some r) : ev TE 78 (rgn TE 78 12) ⟨(zCz p0 p1 p2 s1_8 s5_10), ⟨[(zc 3 (zb p0)), (zc 7 (zd v4)), (zc 8 (zd v6)), (9, (.cells [(xi v506.Low), (xi v506.High)]))], []⟩, []⟩ = some (.nor, zbb p0 p1 p2 v4 v6 s1_8 v506 s5_10 r) := by
 unfold zbd at h
 refine zi h (fun v801 h802 g1 => ?_)
 refine zi g1 (fun v803 h804 g2 => ?_)
 refine zm g2 (fun h805 g3 => ?_) (fun h805 g3 => ?_)
 ·refine zi g3 (fun v806 h807 g4 => ?_)
  refine zm g4 (fun h808 g5 => ?_) (fun h808 g5 => ?_)
  ·exact zq (g := fun r => (Ex.nor, zbb p0 p1 p2 v4 v6 s1_8 v506 s5_10 r)) g5 (zqe [(78, 12, 3, .q (.d (.pin (aI 2 v801)))), (78, 12, 8, .q (.d (.pin [(di v803)]))), (78, 12, 11, .q (xb true)), (78, 12, 15, .q (.d (.pin (aI 2 v806)))), (78, 12, 21, .q (xb true))] [] (ob (o_ia (e := (aI 2)) 2 h802 rfl) (ob (o_ia (e := eI) 1 h804 rfl) (ob (o_b h805) (ob (o_ia (e := (aI 2)) 2 h807 rfl) (ob (o_b h808) ob0))))) (by kernel_rfl))
  ·refine zi g5 (fun v809 h810 g6 => ?_)
   refine zi g6 (fun v811 h812 g7 => ?_)
   refine zm g7 (fun h813 g8 => ?_) (fun h813 g8 => ?_)
   ·refine zi g8 (fun v814 h815 g9 => ?_)
    exact zq (g := fun r => (Ex.nor, zbb p0 p1 p2 v4 v6 s1_8 v506 s5_10 r)) g9 (zqe [(78, 12, 3, .q (.d (.pin (aI 2 v801)))), (78, 12, 8, .q (.d (.pin [(di v803)]))), (78, 12, 11, .q (xb true)), (78, 12, 15, .q (.d (.pin (aI 2 v806)))), (78, 12, 21, .q (xb false)), (78, 12, 25, .q (.d (.pin (aI 2 v809)))), (78, 12, 30, .q (.d (.pin [(di v811)]))), (78, 12, 33, .q (xb true)), (78, 12, 37, .q (.d (.pin (aI 2 v814))))] [] (ob (o_ia (e := (aI 2)) 2 h802 rfl) (ob (o_ia (e := eI) 1 h804 rfl) (ob (o_b h805) (ob (o_ia (e := (aI 2)) 2 h807 rfl) (ob (o_b h808) (ob (o_ia (e := (aI 2)) 2 h810 rfl) (ob (o_ia (e := eI) 1 h812 rfl) (ob (o_b h813) (ob (o_ia (e := (aI 2)) 2 h815 rfl) ob0))))))))) (by kernel_rfl))
   ·exact zq (g := fun r => (Ex.nor, zbb p0 p1 p2 v4 v6 s1_8 v506 s5_10 r)) g8 (zqe [(78, 12, 3, .q (.d (.pin (aI 2 v801)))), (78, 12, 8, .q (.d (.pin [(di v803)]))), (78, 12, 11, .q (xb true)), (78, 12, 15, .q (.d (.pin (aI 2 v806)))), (78, 12, 21, .q (xb false)), (78, 12, 25, .q (.d (.pin (aI 2 v809)))), (78, 12, 30, .q (.d (.pin [(di v811)]))), (78, 12, 33, .q (xb false))] [] (ob (o_ia (e := (aI 2)) 2 h802 rfl) (ob (o_ia (e := eI) 1 h804 rfl) (ob (o_b h805) (ob (o_ia (e := (aI 2)) 2 h807 rfl) (ob (o_b h808) (ob (o_ia (e := (aI 2)) 2 h810 rfl) (ob (o_ia (e := eI) 1 h812 rfl) (ob (o_b h813) ob0)))))))) (by kernel_rfl))
 ·refine zi g3 (fun v806 h807 g4 => ?_)
  refine zi g4 (fun v808 h809 g5 => ?_)
  refine zm g5 (fun h810 g6 => ?_) (fun h810 g6 => ?_)
  ·refine zi g6 (fun v811 h812 g7 => ?_)
   exact zq (g := fun r => (Ex.nor, zbb p0 p1 p2 v4 v6 s1_8 v506 s5_10 r)) g7 (zqe [(78, 12, 3, .q (.d (.pin (aI 2 v801)))), (78, 12, 8, .q (.d (.pin [(di v803)]))), (78, 12, 11, .q (xb false)), (78, 12, 25, .q (.d (.pin (aI 2 v806)))), (78, 12, 30, .q (.d (.pin [(di v808)]))), (78, 12, 33, .q (xb true)), (78, 12, 37, .q (.d (.pin (aI 2 v811))))] [] (ob (o_ia (e := (aI 2)) 2 h802 rfl) (ob (o_ia (e := eI) 1 h804 rfl) (ob (o_b h805) (ob (o_ia (e := (aI 2)) 2 h807 rfl) (ob (o_ia (e := eI) 1 h809 rfl) (ob (o_b h810) (ob (o_ia (e := (aI 2)) 2 h812 rfl) ob0))))))) (by kernel_rfl))
  ·exact zq (g := fun r => (Ex.nor, zbb p0 p1 p2 v4 v6 s1_8 v506 s5_10 r)) g6 (zqe [(78, 12, 3, .q (.d (.pin (aI 2 v801)))), (78, 12, 8, .q (.d (.pin [(di v803)]))), (78, 12, 11, .q (xb false)), (78, 12, 25, .q (.d (.pin (aI 2 v806)))), (78, 12, 30, .q (.d (.pin [(di v808)]))), (78, 12, 33, .q (xb false))] [] (ob (o_ia (e := (aI 2)) 2 h802 rfl) (ob (o_ia (e := eI) 1 h804 rfl) (ob (o_b h805) (ob (o_ia (e := (aI 2)) 2 h807 rfl) (ob (o_ia (e := eI) 1 h809 rfl) (ob (o_b h810) ob0)))))) (by kernel_rfl))
noncomputable def zAz (p0 : za) (p1 : (SL Int)) (p2 s1_8 s5_10 : Int) : TM := [(0, (.d (.agg (zb p0)))), (1, (.d (dl eI p1.1 p1.2))), (2, (xi p2)), (zsp 3), (6, (xb false)), (14, (xb false)), (zsp 7), (zsp 8), (zsp 9), (10, (xi s1_8)), (35, (xb true)), (11, (xi s5_10))]
noncomputable def zNl (p0 : za) (p1 : (SL Int)) (p2 : Int) (v4 v6 : zn) (s1_8 : Int) (v506 : zN) (s5_10 : Int) : St := ⟨(zAz p0 p1 p2 s1_8 s5_10), ⟨[(zc 3 (zb p0)), (zc 7 (zd v4)), (zc 8 (zd v6)), (9, (.cells [(xi v506.Low), (xi v506.High)]))], []⟩, []⟩
noncomputable def zsy (p0 : za) (p1 : (SL Int)) (p2 s1_8 r : Int) : TM := [(0, (.d (.agg (zb p0)))), (1, (.d (dl eI p1.1 p1.2))), (2, (xi p2)), (zsp 3), (6, (xb false)), (14, (xb false)), (zsp 7), (zsp 8), (zsp 9), (10, (xi s1_8)), (35, (xb true)), (11, (xi r)), (53, (xb true)), (99, (xb true))]
noncomputable def zkf (p0 : za) (p1 : (SL Int)) (p2 : Int) (v4 v6 : zn) (s1_8 : Int) (v506 : zN) (r : Int) : St := ⟨(zsy p0 p1 p2 s1_8 r), ⟨[(zc 3 (zb p0)), (zc 7 (zd v4)), (zc 8 (zd v6)), (9, (.cells [(xi v506.Low), (xi v506.High)]))], []⟩, []⟩
noncomputable def z3y (p0 : za) (p1 : (SL Int)) (p2 s1_8 r : Int) : TM := [(0, (.d (.agg (zb p0)))), (1, (.d (dl eI p1.1 p1.2))), (2, (xi p2)), (zsp 3), (6, (xb false)), (14, (xb false)), (zsp 7), (zsp 8), (zsp 9), (10, (xi s1_8)), (35, (xb true)), (11, (xi r)), (53, (xb false))]
noncomputable def zpf (p0 : za) (p1 : (SL Int)) (p2 : Int) (v4 v6 : zn) (s1_8 : Int) (v506 : zN) (r : Int) : St := ⟨(z3y p0 p1 p2 s1_8 r), ⟨[(zc 3 (zb p0)), (zc 7 (zd v4)), (zc 8 (zd v6)), (9, (.cells [(xi v506.Low), (xi v506.High)]))], []⟩, []⟩
noncomputable def z8l (p0 : za) (p1 : (SL Int)) (p2 : Int) (v4 v6 : zn) (s1_8 : Int) (v506 : zN) : (Int ⊕ Int) → Ex × St := Sum.elim (fun r => (.ret, zkf p0 p1 p2 v4 v6 s1_8 v506 r)) (fun r => ((.exit 2), zpf p0 p1 p2 v4 v6 s1_8 v506 r))
theorem zNh (k : Nat) (p0 : za) (p1 : (SL Int)) (p2 : Int) (v4 v6 : zn) (s1_8 : Int) (v506 : zN) (s5_10 : Int) (x : Int ⊕ (Int ⊕ Int)) (h : zdd k p0 p1 p2 v4 v6 s1_8 v506 s5_10 = some x) : zF TE 78 (blk TE 78 2) (fun s : Int => zNl p0 p1 p2 v4 v6 s1_8 v506 s) (z8l p0 p1 p2 v4 v6 s1_8 v506) s5_10 x := by
 unfold zdd at h
 refine zm h (fun h701 g1 => ?_) (fun h701 g1 => ?_)
 ·refine zi g1 (fun v702 h703 g2 => ?_)
  refine zm g2 (fun h704 g3 => ?_) (fun h704 g3 => ?_)
  ·subst h704
   exact zqo [(78, 10, 3, .q (xi (p0.Apart.1.length : Int))), (78, 10, 4, .q (xb true))] [(78, 1000012, (.nor, zbb p0 p1 p2 v4 v6 s1_8 v506 s5_10 true))] g3 (ob (zp (aI 2) p0.Apart.1) (ob (o_b h701) (ob (zVh k p0 p1 p2 v4 v6 s1_8 v506 s5_10 _ h703) ob0))) (by kernel_rfl)
  ·subst h704
   exact zqn (w64 (s5_10 + 1)) [] [(78, 10, 3, .q (xi (p0.Apart.1.length : Int))), (78, 10, 4, .q (xb true))] [(78, 1000012, (.nor, zbb p0 p1 p2 v4 v6 s1_8 v506 s5_10 false))] g3 (ob (zp (aI 2) p0.Apart.1) (ob (o_b h701) (ob (zVh k p0 p1 p2 v4 v6 s1_8 v506 s5_10 _ h703) ob0))) (by kernel_rfl)
 ·exact zqo [(78, 10, 3, .q (xi (p0.Apart.1.length : Int))), (78, 10, 4, .q (xb false))] [] g1 (ob (zp (aI 2) p0.Apart.1) (ob (o_b h701) ob0)) (by kernel_rfl)
noncomputable def zPy (p0 : za) (p1 : (SL Int)) (p2 s1_8 : Int) : TM := [(0, (.d (.agg (zb p0)))), (1, (.d (dl eI p1.1 p1.2))), (2, (xi p2)), (zsp 3), (6, (xb false)), (14, (xb false)), (zsp 7), (zsp 8), (zsp 9), (10, (xi s1_8))]
noncomputable def z4l (p0 : za) (p1 : (SL Int)) (p2 : Int) (v4 v6 : zn) (s1_8 s1_25 s1_26 : Int) : St := ⟨(zPy p0 p1 p2 s1_8), ⟨[(zc 3 (zb p0)), (zc 7 (zd v4)), (zc 8 (zd v6)), (9, (.cells [(xi s1_25), (xi s1_26)]))], []⟩, []⟩
noncomputable def zHy (p0 : za) (p1 : (SL Int)) (p2 : Int) (r : (Int × Int × Int × Int)) : TM := [(0, (.d (.agg (zb p0)))), (1, (.d (dl eI p1.1 p1.2))), (2, (xi p2)), (zsp 3), (6, (xb false)), (14, (xb false)), (zsp 7), (zsp 8), (zsp 9), (10, (xi r.1)), (35, (xb true)), (11, (xi r.2.1)), (53, (xb true)), (99, (xb true))]
noncomputable def zAf (p0 : za) (p1 : (SL Int)) (p2 : Int) (v4 v6 : zn) (r : (Int × Int × Int × Int)) : St := ⟨(zHy p0 p1 p2 r), ⟨[(zc 3 (zb p0)), (zc 7 (zd v4)), (zc 8 (zd v6)), (9, (.cells [(xi r.2.2.1), (xi r.2.2.2)]))], []⟩, []⟩
noncomputable def zNx (p0 : za) (p1 : (SL Int)) (p2 : Int) (r : (Int × Int × Int)) : TM := [(0, (.d (.agg (zb p0)))), (1, (.d (dl eI p1.1 p1.2))), (2, (xi p2)), (zsp 3), (6, (xb false)), (14, (xb false)), (zsp 7), (zsp 8), (zsp 9), (10, (xi r.1)), (35, (xb false))]
noncomputable def zlb (p0 : za) (p1 : (SL Int)) (p2 : Int) (v4 v6 : zn) (r : (Int × Int × Int)) : St := ⟨(zNx p0 p1 p2 r), ⟨[(zc 3 (zb p0)), (zc 7 (zd v4)), (zc 8 (zd v6)), (9, (.cells [(xi r.2.1), (xi r.2.2)]))], []⟩, []⟩
noncomputable def zTl (p0 : za) (p1 : (SL Int)) (p2 : Int) (v4 v6 : zn) : ((Int × Int × Int × Int) ⊕ (Int × Int × Int)) → Ex × St := Sum.elim (fun r => (.ret, zAf p0 p1 p2 v4 v6 r)) (fun r => ((.exit 0), zlb p0 p1 p2 v4 v6 r))
theorem zBd (k : Nat) (p0 : za) (p1 : (SL Int)) (p2 : Int) (v4 v6 : zn) (s1_8 s1_25 s1_26 : Int) (x : (Int × Int × Int) ⊕ ((Int × Int × Int × Int) ⊕ (Int × Int × Int))) (h : z8c k p0 p1 p2 v4 v6 s1_8 s1_25 s1_26 = some x) : zF TE 78 (blk TE 78 0) (fun s : (Int × Int × Int) => z4l p0 p1 p2 v4 v6 s.1 s.2.1 s.2.2) (zTl p0 p1 p2 v4 v6) (s1_8, s1_25, s1_26) x := by
 unfold z8c at h
 refine zm h (fun h501 g1 => ?_) (fun h501 g1 => ?_)
 ·refine zi g1 (fun v502 h503 g2 => ?_)
  refine zi g2 (fun v504 h505 g3 => ?_)
  refine zi g3 (fun v506 h507 g4 => ?_)
  refine zi g4 (fun v508 h509 g5 => ?_)
  refine zJb g5 (fun v511 hh g6_0 => ?_) (fun v511 hh g6_0 => ?_)
  ·subst hh
   exact zqo [(78, 6, 2, .q (xi (p1.1.length : Int))), (78, 6, 3, .q (xb true)), (78, 8, 5, .q (.d (.pin [(di v502)]))), (78, 8, 7, .q (.d (.pin (zd v504)))), (78, 8, 10, .c (.agg [(di v506.Low), (di v506.High)]))] [(78, 2, (.ret, zkf p0 p1 p2 v4 v6 s1_8 v506 v511))] g6_0 (ob (zp eI p1.1) (ob (o_b h501) (ob (o_ia (e := eI) 1 h503 rfl) (ob (o_ia (e := zd) 6 h505 rfl) (ob (zQi k (⟨s1_25, s1_26⟩ : zN) v504.Born _ h507) (ob (zu (id := 2) (r' := (.ret, zkf p0 p1 p2 v4 v6 s1_8 v506 v511)) (znc (zNh k p0 p1 p2 v4 v6 s1_8 v506) k _ _ h509) rfl) ob0)))))) (by kernel_rfl)
  ·subst hh
   exact zqn ((w64 (s1_8 + 1)), v506.Low, v506.High) [] [(78, 6, 2, .q (xi (p1.1.length : Int))), (78, 6, 3, .q (xb true)), (78, 8, 5, .q (.d (.pin [(di v502)]))), (78, 8, 7, .q (.d (.pin (zd v504)))), (78, 8, 10, .c (.agg [(di v506.Low), (di v506.High)]))] [(78, 2, (.nor, zpf p0 p1 p2 v4 v6 s1_8 v506 v511))] g6_0 (ob (zp eI p1.1) (ob (o_b h501) (ob (o_ia (e := eI) 1 h503 rfl) (ob (o_ia (e := zd) 6 h505 rfl) (ob (zQi k (⟨s1_25, s1_26⟩ : zN) v504.Born _ h507) (ob (zu (id := 2) (r' := (.nor, zpf p0 p1 p2 v4 v6 s1_8 v506 v511)) (znc (zNh k p0 p1 p2 v4 v6 s1_8 v506) k _ _ h509) rfl) ob0)))))) (by kernel_rfl)
 ·exact zqo [(78, 6, 2, .q (xi (p1.1.length : Int))), (78, 6, 3, .q (xb false))] [] g1 (ob (zp eI p1.1) (ob (o_b h501) ob0)) (by kernel_rfl)
theorem zPi (k : Nat) (p0 : za) (p1 : (SL Int)) (p2 : Int) (r : Bool) (h : zmc k p0 p1 p2 = some r) : zx TE (ev TE) 78 [(.agg (zb p0)), (dl eI p1.1 p1.2), (di p2)] = some (zsc r) := by
 unfold zmc at h
 refine zm h (fun h1 g1 => ?_) (fun h1 g1 => ?_)
 ·exact zt (g := zsc) g1 (zqc [(78, 1, 1, .q (xi (p1.1.length : Int))), (78, 1, 2, .q (xb true))] [] (ob (zp eI p1.1) (ob (o_b h1) ob0)) (by kernel_rfl))
 ·refine zi g1 (fun v2 h3 g2 => ?_)
  refine zi g2 (fun v4 h5 g3 => ?_)
  refine zi g3 (fun v6 h7 g4 => ?_)
  refine zi g4 (fun v8 h9 g5 => ?_)
  refine zJb g5 (fun v11 hh g6_0 => ?_) (fun v11 hh g6_0 => ?_)
  ·subst hh
   exact zt (g := zsc) g6_0 (zqc [(78, 1, 1, .q (xi (p1.1.length : Int))), (78, 1, 2, .q (xb false)), (78, 3, 4, .q (xi (p1.1.length : Int))), (78, 3, 6, .q (.d (.pin [(di v2)]))), (78, 3, 8, .q (.d (.pin (zd v4)))), (78, 3, 13, .q (.d (.pin (zd v6))))] [(78, 0, (.ret, zAf p0 p1 p2 v4 v6 v11))] (ob (zp eI p1.1) (ob (o_b h1) (ob (zp eI p1.1) (ob (o_ia (e := eI) 1 h3 rfl) (ob (o_ia (e := zd) 6 h5 rfl) (ob (o_ia (e := zd) 6 h7 rfl) (ob (zu (id := 0) (r' := (.ret, zAf p0 p1 p2 v4 v6 v11)) (zYi (zBd k p0 p1 p2 v4 v6) k _ _ h9) rfl) ob0))))))) (by kernel_rfl))
  ·subst hh
   refine zm g6_0 (fun h12 g7 => ?_) (fun h12 g7 => ?_)
   ·refine zi g7 (fun v13 h14 g8 => ?_)
    refine zi g8 (fun v15 h16 g9 => ?_)
    refine zm g9 (fun h17 g10 => ?_) (fun h17 g10 => ?_)
    ·exact zt (g := zsc) g10 (zqc [(78, 1, 1, .q (xi (p1.1.length : Int))), (78, 1, 2, .q (xb false)), (78, 3, 4, .q (xi (p1.1.length : Int))), (78, 3, 6, .q (.d (.pin [(di v2)]))), (78, 3, 8, .q (.d (.pin (zd v4)))), (78, 3, 13, .q (.d (.pin (zd v6)))), (78, 14, 3, .q (xb true)), (78, 14, 13, .q (.d (.pin [(dl eI v13.1 v13.2)]))), (78, 14, 17, .q (.d (.pin [(di v15)]))), (78, 14, 21, .q (xb true))] [(78, 0, (.nor, zlb p0 p1 p2 v4 v6 v11))] (ob (zp eI p1.1) (ob (o_b h1) (ob (zp eI p1.1) (ob (o_ia (e := eI) 1 h3 rfl) (ob (o_ia (e := zd) 6 h5 rfl) (ob (o_ia (e := zd) 6 h7 rfl) (ob (zu (id := 0) (r' := (.nor, zlb p0 p1 p2 v4 v6 v11)) (zYi (zBd k p0 p1 p2 v4 v6) k _ _ h9) rfl) (ob (o_b h12) (ob (o_ia (e := (eL eI)) 1 h14 rfl) (ob (o_ia (e := eI) 1 h16 rfl) (ob (o_b h17) ob0))))))))))) (by kernel_rfl))
    ·exact zt (g := zsc) g10 (zqc [(78, 1, 1, .q (xi (p1.1.length : Int))), (78, 1, 2, .q (xb false)), (78, 3, 4, .q (xi (p1.1.length : Int))), (78, 3, 6, .q (.d (.pin [(di v2)]))), (78, 3, 8, .q (.d (.pin (zd v4)))), (78, 3, 13, .q (.d (.pin (zd v6)))), (78, 14, 3, .q (xb true)), (78, 14, 13, .q (.d (.pin [(dl eI v13.1 v13.2)]))), (78, 14, 17, .q (.d (.pin [(di v15)]))), (78, 14, 21, .q (xb false))] [(78, 0, (.nor, zlb p0 p1 p2 v4 v6 v11))] (ob (zp eI p1.1) (ob (o_b h1) (ob (zp eI p1.1) (ob (o_ia (e := eI) 1 h3 rfl) (ob (o_ia (e := zd) 6 h5 rfl) (ob (o_ia (e := zd) 6 h7 rfl) (ob (zu (id := 0) (r' := (.nor, zlb p0 p1 p2 v4 v6 v11)) (zYi (zBd k p0 p1 p2 v4 v6) k _ _ h9) rfl) (ob (o_b h12) (ob (o_ia (e := (eL eI)) 1 h14 rfl) (ob (o_ia (e := eI) 1 h16 rfl) (ob (o_b h17) ob0))))))))))) (by kernel_rfl))
   ·exact zt (g := zsc) g7 (zqc [(78, 1, 1, .q (xi (p1.1.length : Int))), (78, 1, 2, .q (xb false)), (78, 3, 4, .q (xi (p1.1.length : Int))), (78, 3, 6, .q (.d (.pin [(di v2)]))), (78, 3, 8, .q (.d (.pin (zd v4)))), (78, 3, 13, .q (.d (.pin (zd v6)))), (78, 14, 3, .q (xb false))] [(78, 0, (.nor, zlb p0 p1 p2 v4 v6 v11))] (ob (zp eI p1.1) (ob (o_b h1) (ob (zp eI p1.1) (ob (o_ia (e := eI) 1 h3 rfl) (ob (o_ia (e := zd) 6 h5 rfl) (ob (o_ia (e := zd) 6 h7 rfl) (ob (zu (id := 0) (r' := (.nor, zlb p0 p1 p2 v4 v6 v11)) (zYi (zBd k p0 p1 p2 v4 v6) k _ _ h9) rfl) (ob (o_b h12) ob0)))))))) (by kernel_rfl))
noncomputable def z5x (p0 : za) (p1 : (SL Int)) (s1_12 : zt6) (s1_14 : zt7) (s1_7 s8_9 s8_10 : Int) (r : Bool) : TM := [(0, (.d (.agg (zb p0)))), (1, (.d (dl eI p1.1 p1.2))), (zsp 2), (4, (.d (.sl [] .nil))), (5, (xb false)), (6, (.row 0 6 s1_12.length)), (7, (.row 0 7 s1_14.length)), (8, (xi s1_7)), (18, (xb true)), (9, (xi s8_9)), (10, (xi s8_10)), (30, (xb true)), (54, (xb r))]
noncomputable def zVd (p0 : za) (p1 : (SL Int)) (s1_7 : Int) (s1_12 : zt6) (s1_14 : zt7) (s8_9 s8_10 : Int) (r : Bool) : St := ⟨(z5x p0 p1 s1_12 s1_14 s1_7 s8_9 s8_10 r), ⟨[(zc 2 (zb p0)), (6, (rowO true 1 eI s1_12 true)), (7, (rowO true 1 (eL eI) s1_14 true))], []⟩, []⟩
noncomputable def zvw (p0 : za) (p1 : (SL Int)) (s1_12 : zt6) (s1_14 : zt7) (s1_7 s8_9 s8_10 : Int) : TM := [(0, (.d (.agg (zb p0)))), (1, (.d (dl eI p1.1 p1.2))), (zsp 2), (4, (.d (.sl [] .nil))), (5, (xb false)), (6, (.row 0 6 s1_12.length)), (7, (.row 0 7 s1_14.length)), (8, (xi s1_7)), (18, (xb true)), (9, (xi s8_9)), (10, (xi s8_10)), (30, (xb true))]
theorem zel (k : Nat) (p0 : za) (p1 : (SL Int)) (s1_7 : Int) (s1_12 : zt6) (s1_14 : zt7) (s8_9 s8_10 : Int) (r : Bool) (h : zoe k p0 p1 s1_7 s1_12 s1_14 s8_9 s8_10 = some r) : ev TE 38 (rgn TE 38 10) ⟨(zvw p0 p1 s1_12 s1_14 s1_7 s8_9 s8_10), ⟨[(zc 2 (zb p0)), (6, (rowO true 1 eI s1_12 true)), (7, (rowO true 1 (eL eI) s1_14 true))], []⟩, []⟩ = some (.nor, zVd p0 p1 s1_7 s1_12 s1_14 s8_9 s8_10 r) := by
 unfold zoe at h
 refine zi h (fun v1201 h1202 g1 => ?_)
 refine zm g1 (fun h1203 g2 => ?_) (fun h1203 g2 => ?_)
 ·refine zi g2 (fun v1204 h1205 g3 => ?_)
  refine zi g3 (fun v1206 h1207 g4 => ?_)
  exact zq (g := fun r => (Ex.nor, zVd p0 p1 s1_7 s1_12 s1_14 s8_9 s8_10 r)) g4 (zqe [(38, 10, 3, .q (.d (.pin (zd v1201)))), (38, 10, 7, .q (xb true)), (38, 10, 11, .q (.d (.pin (zd v1204)))), (38, 10, 17, .q (.d (.pin (zd v1206))))] [] (ob (o_ia (e := zd) 6 h1202 rfl) (ob (o_b h1203) (ob (o_ia (e := zd) 6 h1205 rfl) (ob (o_ia (e := zd) 6 h1207 rfl) ob0)))) (by kernel_rfl))
 ·exact zq (g := fun r => (Ex.nor, zVd p0 p1 s1_7 s1_12 s1_14 s8_9 s8_10 r)) g2 (zqe [(38, 10, 3, .q (.d (.pin (zd v1201)))), (38, 10, 7, .q (xb false))] [] (ob (o_ia (e := zd) 6 h1202 rfl) (ob (o_b h1203) ob0)) (by kernel_rfl))
noncomputable def zRy (p0 : za) (p1 : (SL Int)) (s1_12 : zt6) (s1_14 : zt7) (s1_7 : Int) (r : (Int × Bool)) (s8_10 : Int) : TM := [(0, (.d (.agg (zb p0)))), (1, (.d (dl eI p1.1 p1.2))), (zsp 2), (4, (.d (.sl [] .nil))), (5, (xb false)), (6, (.row 0 6 s1_12.length)), (7, (.row 0 7 s1_14.length)), (8, (xi s1_7)), (18, (xb true)), (9, (xi r.1)), (10, (xi s8_10)), (30, (xb true)), (54, (xb r.2))]
noncomputable def zXd (p0 : za) (p1 : (SL Int)) (s1_7 : Int) (s1_12 : zt6) (s1_14 : zt7) (s8_9 s8_10 : Int) (v1102 : Bool) (r : (Int × Bool)) : St := ⟨(zRy p0 p1 s1_12 s1_14 s1_7 r s8_10), ⟨[(zc 2 (zb p0)), (6, (rowO true 1 eI s1_12 true)), (7, (rowO true 1 (eL eI) s1_14 true))], []⟩, []⟩
theorem zvl (k : Nat) (p0 : za) (p1 : (SL Int)) (s1_7 : Int) (s1_12 : zt6) (s1_14 : zt7) (s8_9 s8_10 : Int) (v1102 : Bool) (r : (Int × Bool)) (h : zte k p0 p1 s1_7 s1_12 s1_14 s8_9 s8_10 v1102 = some r) : ev TE 38 (cnd TE 38 54) ⟨(zvw p0 p1 s1_12 s1_14 s1_7 s8_9 s8_10 ++ [(54, (xb v1102))]), ⟨[(zc 2 (zb p0)), (6, (rowO true 1 eI s1_12 true)), (7, (rowO true 1 (eL eI) s1_14 true))], []⟩, []⟩ = some (.nor, zXd p0 p1 s1_7 s1_12 s1_14 s8_9 s8_10 v1102 r) := by
 unfold zte at h
 refine zm h (fun h1301 g1 => ?_) (fun h1301 g1 => ?_)
 ·subst h1301
  refine zi g1 (fun v1302 h1303 g2 => ?_)
  exact zq (g := fun r => (Ex.nor, zXd p0 p1 s1_7 s1_12 s1_14 s8_9 s8_10 true r)) g2 (zqe [(38, 11, 2, .q (.rp 0 6 s1_12.length s8_10.toNat 0)), (38, 11, 3, .q (xi v1302))] [] (ob (zqa 27 8 0 6 s8_10 true 1 eI s1_12 true (by kernel_rfl) (by kernel_rfl) h1303) (ob (zql 3 (1, false) 0 6 0 s8_10 (xi v1302) true 1 eI s1_12 true (by kernel_rfl) h1303 (by kernel_rfl)) ob0)) (by kernel_rfl))
 ·subst h1301
  exact zq (g := fun r => (Ex.nor, zXd p0 p1 s1_7 s1_12 s1_14 s8_9 s8_10 false r)) g1 (zqe [] [] ob0 (by kernel_rfl))
noncomputable def zgz (p0 : za) (p1 : (SL Int)) (s1_12 : zt6) (s1_14 : zt7) (s1_7 s8_9 s8_10 : Int) : TM := [(0, (.d (.agg (zb p0)))), (1, (.d (dl eI p1.1 p1.2))), (zsp 2), (4, (.d (.sl [] .nil))), (5, (xb false)), (6, (.row 0 6 s1_12.length)), (7, (.row 0 7 s1_14.length)), (8, (xi s1_7)), (18, (xb true)), (9, (xi s8_9)), (10, (xi s8_10))]
noncomputable def zOm (p0 : za) (p1 : (SL Int)) (s1_7 : Int) (s1_12 : zt6) (s1_14 : zt7) (s8_9 s8_10 : Int) : St := ⟨(zgz p0 p1 s1_12 s1_14 s1_7 s8_9 s8_10), ⟨[(zc 2 (zb p0)), (6, (rowO true 1 eI s1_12 true)), (7, (rowO true 1 (eL eI) s1_14 true))], []⟩, []⟩
noncomputable def zwy (p0 : za) (p1 : (SL Int)) (s1_12 : zt6) (s1_14 : zt7) (s1_7 : Int) (r : zt0) : TM := [(0, (.d (.agg (zb p0)))), (1, (.d (dl eI p1.1 p1.2))), (zsp 2), (4, (.d (.sl [] .nil))), (5, (xb false)), (6, (.row 0 6 s1_12.length)), (7, (.row 0 7 s1_14.length)), (8, (xi s1_7)), (18, (xb true)), (9, (xi r.1)), (10, (xi r.2)), (30, (xb false))]
noncomputable def zEc (p0 : za) (p1 : (SL Int)) (s1_7 : Int) (s1_12 : zt6) (s1_14 : zt7) (r : zt0) : St := ⟨(zwy p0 p1 s1_12 s1_14 s1_7 r), ⟨[(zc 2 (zb p0)), (6, (rowO true 1 eI s1_12 true)), (7, (rowO true 1 (eL eI) s1_14 true))], []⟩, []⟩
noncomputable def zKm (p0 : za) (p1 : (SL Int)) (s1_7 : Int) (s1_12 : zt6) (s1_14 : zt7) : (Int × Int) → Ex × St := fun r => ((.exit 2), zEc p0 p1 s1_7 s1_12 s1_14 r)
theorem zfi (k : Nat) (p0 : za) (p1 : (SL Int)) (s1_7 : Int) (s1_12 : zt6) (s1_14 : zt7) (s8_9 s8_10 : Int) (x : (Int × Int) ⊕ (Int × Int)) (h : zrd k p0 p1 s1_7 s1_12 s1_14 s8_9 s8_10 = some x) : zF TE 38 (blk TE 38 2) (fun s : (Int × Int) => zOm p0 p1 s1_7 s1_12 s1_14 s.1 s.2) (zKm p0 p1 s1_7 s1_12 s1_14) (s8_9, s8_10) x := by
 unfold zrd at h
 refine zm h (fun h1101 g1 => ?_) (fun h1101 g1 => ?_)
 ·refine zi g1 (fun v1102 h1103 g2 => ?_)
  refine zi g2 (fun v1104 h1105 g3 => ?_)
  exact zqn (v1104.1, (w64 (s8_10 + 1))) [6, 7] [(38, 8, 2, .q (xb true))] [(38, 1000010, (.nor, zVd p0 p1 s1_7 s1_12 s1_14 s8_9 s8_10 v1102)), (38, 2000054, (.nor, zXd p0 p1 s1_7 s1_12 s1_14 s8_9 s8_10 v1102 v1104))] g3 (ob (o_b h1101) (ob (zel k p0 p1 s1_7 s1_12 s1_14 s8_9 s8_10 _ h1103) (ob (zvl k p0 p1 s1_7 s1_12 s1_14 s8_9 s8_10 v1102 _ h1105) (ob (zWd true 1 eI s1_12 true) (ob (zWd true 1 (eL eI) s1_14 true) ob0))))) (by kernel_rfl)
 ·exact zqo [(38, 8, 2, .q (xb false))] [] g1 (ob (o_b h1101) ob0) (by kernel_rfl)
noncomputable def zZy (p0 : za) (p1 : (SL Int)) (s1_12 : zt6) (s1_14 : zt7) (s1_7 : Int) (v806 : zt0) (r : Bool) : TM := [(0, (.d (.agg (zb p0)))), (1, (.d (dl eI p1.1 p1.2))), (zsp 2), (4, (.d (.sl [] .nil))), (5, (xb false)), (6, (.row 0 6 s1_12.length)), (7, (.row 0 7 s1_14.length)), (8, (xi s1_7)), (18, (xb true)), (9, (xi v806.1)), (10, (xi v806.2)), (30, (xb false)), (72, (xb r))]
noncomputable def zzc (p0 : za) (p1 : (SL Int)) (s1_7 : Int) (s1_12 : zt6) (s1_14 : zt7) (v806 : zt0) (r : Bool) : St := ⟨(zZy p0 p1 s1_12 s1_14 s1_7 v806 r), ⟨[(zc 2 (zb p0)), (6, (rowO true 1 eI s1_12 true)), (7, (rowO true 1 (eL eI) s1_14 true))], []⟩, []⟩
noncomputable def zHw (p0 : za) (p1 : (SL Int)) (s1_12 : zt6) (s1_14 : zt7) (s1_7 : Int) (v806 : zt0) : TM := [(0, (.d (.agg (zb p0)))), (1, (.d (dl eI p1.1 p1.2))), (zsp 2), (4, (.d (.sl [] .nil))), (5, (xb false)), (6, (.row 0 6 s1_12.length)), (7, (.row 0 7 s1_14.length)), (8, (xi s1_7)), (18, (xb true)), (9, (xi v806.1)), (10, (xi v806.2)), (30, (xb false))]
theorem zLh (k : Nat) (p0 : za) (p1 : (SL Int)) (s1_7 : Int) (s1_12 : zt6) (s1_14 : zt7) (v806 : zt0) (r : Bool) (h : zwe k p0 p1 s1_7 s1_12 s1_14 v806 = some r) : ev TE 38 (rgn TE 38 12) ⟨(zHw p0 p1 s1_12 s1_14 s1_7 v806), ⟨[(zc 2 (zb p0)), (6, (rowO true 1 eI s1_12 true)), (7, (rowO true 1 (eL eI) s1_14 true))], []⟩, []⟩ = some (.nor, zzc p0 p1 s1_7 s1_12 s1_14 v806 r) := by
 unfold zwe at h
 refine zm h (fun h1401 g1 => ?_) (fun h1401 g1 => ?_)
 ·refine zi g1 (fun v1402 h1403 g2 => ?_)
  refine zi g2 (fun v1404 h1405 g3 => ?_)
  exact zq (g := fun r => (Ex.nor, zzc p0 p1 s1_7 s1_12 s1_14 v806 r)) g3 (zqe [(38, 12, 2, .q (xi (s1_14.length : Int))), (38, 12, 4, .q (xb true)), (38, 12, 8, .q (.rp 0 7 s1_14.length v806.1.toNat 0)), (38, 12, 9, .q (.d (dl eI v1402.1 v1402.2))), (38, 12, 11, .c (db v1404))] [] (ob (z2e true 1 (eL eI) s1_14 true) (ob (o_b h1401) (ob (zqa 23 24 0 7 v806.1 true 1 (eL eI) s1_14 true (by kernel_rfl) (by kernel_rfl) h1403) (ob (zql 27 (1, false) 0 7 0 v806.1 (.d (dl eI v1402.1 v1402.2)) true 1 (eL eI) s1_14 true (by kernel_rfl) h1403 (by kernel_rfl)) (ob (zPi k p0 v1402 s1_7 _ h1405) ob0))))) (by kernel_rfl))
 ·exact zq (g := fun r => (Ex.nor, zzc p0 p1 s1_7 s1_12 s1_14 v806 r)) g1 (zqe [(38, 12, 2, .q (xi (s1_14.length : Int))), (38, 12, 4, .q (xb false))] [] (ob (z2e true 1 (eL eI) s1_14 true) (ob (o_b h1401) ob0)) (by kernel_rfl))
noncomputable def zrz (p0 : za) (p1 : (SL Int)) (s1_12 : zt6) (s1_14 : zt7) (s1_7 : Int) (r : (Int × Bool)) (v806 : zt0) : TM := [(0, (.d (.agg (zb p0)))), (1, (.d (dl eI p1.1 p1.2))), (zsp 2), (4, (.d (.sl [] .nil))), (5, (xb false)), (6, (.row 0 6 s1_12.length)), (7, (.row 0 7 s1_14.length)), (8, (xi s1_7)), (18, (xb true)), (9, (xi r.1)), (10, (xi v806.2)), (30, (xb false)), (72, (xb r.2))]
noncomputable def zDc (p0 : za) (p1 : (SL Int)) (s1_7 : Int) (s1_12 : zt6) (s1_14 : zt7) (v806 : zt0) (v808 : Bool) (r : (Int × Bool)) : St := ⟨(zrz p0 p1 s1_12 s1_14 s1_7 r v806), ⟨[(zc 2 (zb p0)), (6, (rowO true 1 eI s1_12 true)), (7, (rowO true 1 (eL eI) s1_14 true))], []⟩, []⟩
theorem zUh (k : Nat) (p0 : za) (p1 : (SL Int)) (s1_7 : Int) (s1_12 : zt6) (s1_14 : zt7) (v806 : zt0) (v808 : Bool) (r : (Int × Bool)) (h : zne k p0 p1 s1_7 s1_12 s1_14 v806 v808 = some r) : ev TE 38 (cnd TE 38 72) ⟨(zHw p0 p1 s1_12 s1_14 s1_7 v806 ++ [(72, (xb v808))]), ⟨[(zc 2 (zb p0)), (6, (rowO true 1 eI s1_12 true)), (7, (rowO true 1 (eL eI) s1_14 true))], []⟩, []⟩ = some (.nor, zDc p0 p1 s1_7 s1_12 s1_14 v806 v808 r) := by
 unfold zne at h
 refine zm h (fun h1501 g1 => ?_) (fun h1501 g1 => ?_)
 ·subst h1501
  exact zq (g := fun r => (Ex.nor, zDc p0 p1 s1_7 s1_12 s1_14 v806 true r)) g1 (zqe [(38, 13, 1, .q (xi (s1_14.length : Int)))] [] (ob (z2e true 1 (eL eI) s1_14 true) ob0) (by kernel_rfl))
 ·subst h1501
  exact zq (g := fun r => (Ex.nor, zDc p0 p1 s1_7 s1_12 s1_14 v806 false r)) g1 (zqe [] [] ob0 (by kernel_rfl))
noncomputable def zxy (p0 : za) (p1 : (SL Int)) (s1_12 : zt6) (s1_14 : zt7) (s1_7 : Int) : TM := [(0, (.d (.agg (zb p0)))), (1, (.d (dl eI p1.1 p1.2))), (zsp 2), (4, (.d (.sl [] .nil))), (5, (xb false)), (6, (.row 0 6 s1_12.length)), (7, (.row 0 7 s1_14.length)), (8, (xi s1_7))]
noncomputable def zUm (p0 : za) (p1 : (SL Int)) (s1_7 : Int) (s1_12 : zt6) (s1_14 : zt7) : St := ⟨(zxy p0 p1 s1_12 s1_14 s1_7), ⟨[(zc 2 (zb p0)), (6, (rowO true 1 eI s1_12 true)), (7, (rowO true 1 (eL eI) s1_14 true))], []⟩, []⟩
noncomputable def z9x (p0 : za) (p1 : (SL Int)) (r : zt14) : TM := [(0, (.d (.agg (zb p0)))), (1, (.d (dl eI p1.1 p1.2))), (zsp 2), (4, (.d (.sl [] .nil))), (5, (xb false)), (6, (.row 0 6 r.2.1.length)), (7, (.row 0 7 r.2.2.length)), (8, (xi r.1)), (18, (xb false))]
noncomputable def zNf (p0 : za) (p1 : (SL Int)) (r : zt14) : St := ⟨(z9x p0 p1 r), ⟨[(zc 2 (zb p0)), (6, (rowO true 1 eI r.2.1 true)), (7, (rowO true 1 (eL eI) r.2.2 true))], []⟩, []⟩
noncomputable def zzm (p0 : za) (p1 : (SL Int)) : (Int × (List Int) × (List (SL Int))) → Ex × St := fun r => ((.exit 0), zNf p0 p1 r)
theorem zMl (k : Nat) (p0 : za) (p1 : (SL Int)) (s1_7 : Int) (s1_12 : zt6) (s1_14 : zt7) (x : (Int × (List Int) × (List (SL Int))) ⊕ (Int × (List Int) × (List (SL Int)))) (h : zrc k p0 p1 s1_7 s1_12 s1_14 = some x) : zF TE 38 (blk TE 38 0) (fun s : (Int × (List Int) × (List (SL Int))) => zUm p0 p1 s.1 s.2.1 s.2.2) (zzm p0 p1) (s1_7, s1_12, s1_14) x := by
 unfold zrc at h
 refine zm h (fun h801 g1 => ?_) (fun h801 g1 => ?_)
 ·refine zi g1 (fun v802 h803 g2 => ?_)
  refine zi g2 (fun v804 h805 g3 => ?_)
  refine zi g3 (fun v806 h807 g4 => ?_)
  refine zi g4 (fun v808 h809 g5 => ?_)
  refine zi g5 (fun v810 h811 g6 => ?_)
  refine zm g6 (fun h812 g7 => ?_) (fun h812 g7 => ?_)
  ·refine zib g7 (fun h813 g8 => ?_)
   refine zi g8 (fun v814 h815 g9 => ?_)
   refine zi g9 (fun v816 h817 g10 => ?_)
   refine zi g10 (fun v818 h819 g11 => ?_)
   refine zib g11 (fun h820 g12 => ?_)
   exact zqn ((w64 (s1_7 + 1)), (s1_12 ++ [v810.1]), ((s1_14 ++ [([], Cap.nil)]).set v810.1.toNat v816)) [6, 7] [(38, 4, 3, .q (xi (p0.Letters.1.length : Int))), (38, 4, 4, .q (xb true)), (38, 6, 2, .c (di v802)), (38, 6, 4, .q (xi (s1_14.length : Int))), (38, 6, 6, .c (di v804)), (38, 14, 2, .q (xi (s1_14.length : Int))), (38, 14, 3, .q (xb true)), (38, 15, 2, .ap (s1_14 ++ [([], Cap.nil)]).length (rowO true 1 (eL eI) (s1_14 ++ [([], Cap.nil)]) true)), (38, 16, 4, .q (.rp 0 7 (s1_14 ++ [([], Cap.nil)]).length v810.1.toNat 0)), (38, 16, 5, .q (.d (dl eI v814.1 v814.2))), (38, 16, 7, .c (dl eI v816.1 v816.2)), (38, 16, 8, .q (.rp 0 7 (s1_14 ++ [([], Cap.nil)]).length v810.1.toNat 0)), (38, 16, 9, .rs (rowO true 1 (eL eI) ((s1_14 ++ [([], Cap.nil)]).set v810.1.toNat v816) true)), (38, 16, 999, .nm [(7, ((s1_14 ++ [([], Cap.nil)]).set v810.1.toNat v816).length)] []), (38, 17, 3, .ap (s1_12 ++ [v810.1]).length (rowO true 1 eI (s1_12 ++ [v810.1]) true))] [(38, 2, (.nor, zEc p0 p1 s1_7 s1_12 s1_14 v806)), (38, 1000012, (.nor, zzc p0 p1 s1_7 s1_12 s1_14 v806 v808)), (38, 2000072, (.nor, zDc p0 p1 s1_7 s1_12 s1_14 v806 v808 v810))] g12 (ob (zp zd p0.Letters.1) (ob (o_b h801) (ob (zJj k p1 s1_7 _ h803) (ob (z2e true 1 (eL eI) s1_14 true) (ob (zhh k v802 (w64 ((s1_14.length : Int) + 1)) _ h805) (ob (zu (id := 2) (r' := (.nor, zEc p0 p1 s1_7 s1_12 s1_14 v806)) (zQb (zfi k p0 p1 s1_7 s1_12 s1_14) k _ _ h807) rfl) (ob (zLh k p0 p1 s1_7 s1_12 s1_14 v806 _ h809) (ob (zUh k p0 p1 s1_7 s1_12 s1_14 v806 v808 _ h811) (ob (z2e true 1 (eL eI) s1_14 true) (ob (o_b h812) (ob (o_ap (b := true) (z := 1) (e := (eL eI)) (l := s1_14) (w := true) ([], Cap.nil) (fun _ => rfl) h813) (ob (zqa 23 24 0 7 v810.1 true 1 (eL eI) (s1_14 ++ [([], Cap.nil)]) true (by kernel_rfl) (by kernel_rfl) h815) (ob (zql 27 (1, false) 0 7 0 v810.1 (.d (dl eI v814.1 v814.2)) true 1 (eL eI) (s1_14 ++ [([], Cap.nil)]) true (by kernel_rfl) h815 (by kernel_rfl)) (ob (zdf k v814 s1_7 _ h817) (ob (zqa 23 24 0 7 v810.1 true 1 (eL eI) (s1_14 ++ [([], Cap.nil)]) true (by kernel_rfl) (by kernel_rfl) h819) (ob (o_rs (b := true) (z := 1) (e := (eL eI)) (l := (s1_14 ++ [([], Cap.nil)])) (o := 0) (n := 1) (ds := [(dl eI v816.1 v816.2)]) (i := v810.1) (y' := v816) h819 (Nat.le_of_ble_eq_true rfl) rfl) (ob (show (s1_14 ++ [([], Cap.nil)]).length = ((s1_14 ++ [([], Cap.nil)]).set v810.1.toNat v816).length by simp) (ob (o_ap (b := true) (z := 1) (e := eI) (l := s1_12) (w := true) v810.1 (fun _ => rfl) h820) (ob (zWd true 1 eI (s1_12 ++ [v810.1]) true) (ob (zWd true 1 (eL eI) ((s1_14 ++ [([], Cap.nil)]).set v810.1.toNat v816) true) ob0)))))))))))))))))))) (by kernel_rfl)
  ·refine zi g7 (fun v813 h814 g8 => ?_)
   refine zi g8 (fun v815 h816 g9 => ?_)
   refine zi g9 (fun v817 h818 g10 => ?_)
   refine zib g10 (fun h819 g11 => ?_)
   exact zqn ((w64 (s1_7 + 1)), (s1_12 ++ [v810.1]), (s1_14.set v810.1.toNat v815)) [6, 7] [(38, 4, 3, .q (xi (p0.Letters.1.length : Int))), (38, 4, 4, .q (xb true)), (38, 6, 2, .c (di v802)), (38, 6, 4, .q (xi (s1_14.length : Int))), (38, 6, 6, .c (di v804)), (38, 14, 2, .q (xi (s1_14.length : Int))), (38, 14, 3, .q (xb false)), (38, 16, 4, .q (.rp 0 7 s1_14.length v810.1.toNat 0)), (38, 16, 5, .q (.d (dl eI v813.1 v813.2))), (38, 16, 7, .c (dl eI v815.1 v815.2)), (38, 16, 8, .q (.rp 0 7 s1_14.length v810.1.toNat 0)), (38, 16, 9, .rs (rowO true 1 (eL eI) (s1_14.set v810.1.toNat v815) true)), (38, 16, 999, .nm [(7, (s1_14.set v810.1.toNat v815).length)] []), (38, 17, 3, .ap (s1_12 ++ [v810.1]).length (rowO true 1 eI (s1_12 ++ [v810.1]) true))] [(38, 2, (.nor, zEc p0 p1 s1_7 s1_12 s1_14 v806)), (38, 1000012, (.nor, zzc p0 p1 s1_7 s1_12 s1_14 v806 v808)), (38, 2000072, (.nor, zDc p0 p1 s1_7 s1_12 s1_14 v806 v808 v810))] g11 (ob (zp zd p0.Letters.1) (ob (o_b h801) (ob (zJj k p1 s1_7 _ h803) (ob (z2e true 1 (eL eI) s1_14 true) (ob (zhh k v802 (w64 ((s1_14.length : Int) + 1)) _ h805) (ob (zu (id := 2) (r' := (.nor, zEc p0 p1 s1_7 s1_12 s1_14 v806)) (zQb (zfi k p0 p1 s1_7 s1_12 s1_14) k _ _ h807) rfl) (ob (zLh k p0 p1 s1_7 s1_12 s1_14 v806 _ h809) (ob (zUh k p0 p1 s1_7 s1_12 s1_14 v806 v808 _ h811) (ob (z2e true 1 (eL eI) s1_14 true) (ob (o_b h812) (ob (zqa 23 24 0 7 v810.1 true 1 (eL eI) s1_14 true (by kernel_rfl) (by kernel_rfl) h814) (ob (zql 27 (1, false) 0 7 0 v810.1 (.d (dl eI v813.1 v813.2)) true 1 (eL eI) s1_14 true (by kernel_rfl) h814 (by kernel_rfl)) (ob (zdf k v813 s1_7 _ h816) (ob (zqa 23 24 0 7 v810.1 true 1 (eL eI) s1_14 true (by kernel_rfl) (by kernel_rfl) h818) (ob (o_rs (b := true) (z := 1) (e := (eL eI)) (l := s1_14) (o := 0) (n := 1) (ds := [(dl eI v815.1 v815.2)]) (i := v810.1) (y' := v815) h818 (Nat.le_of_ble_eq_true rfl) rfl) (ob (show s1_14.length = (s1_14.set v810.1.toNat v815).length by simp) (ob (o_ap (b := true) (z := 1) (e := eI) (l := s1_12) (w := true) v810.1 (fun _ => rfl) h819) (ob (zWd true 1 eI (s1_12 ++ [v810.1]) true) (ob (zWd true 1 (eL eI) (s1_14.set v810.1.toNat v815) true) ob0))))))))))))))))))) (by kernel_rfl)
 ·exact zqo [(38, 4, 3, .q (xi (p0.Letters.1.length : Int))), (38, 4, 4, .q (xb false))] [] g1 (ob (zp zd p0.Letters.1) (ob (o_b h801) ob0)) (by kernel_rfl)
noncomputable def ziy (p0 : za) (p1 : (SL Int)) (v1 : zt14) (r : Bool) (s15_10 s20_12 : Int) : TM := [(0, (.d (.agg (zb p0)))), (1, (.d (dl eI p1.1 p1.2))), (zsp 2), (4, (.d (.sl [] .nil))), (5, (xb false)), (6, (.row 0 6 v1.2.1.length)), (7, (.row 0 7 v1.2.2.length)), (8, (xi v1.1)), (18, (xb false)), (11, (xb r)), (12, (xi s15_10)), (103, (xb true)), (13, (xi s20_12)), (108, (xb true))]
noncomputable def zSb (p0 : za) (p1 : (SL Int)) (v1 : zt14) (s15_10 : Int) (s20_9 : Bool) (s20_12 : Int) (r : Bool) : St := ⟨(ziy p0 p1 v1 r s15_10 s20_12), ⟨[(zc 2 (zb p0)), (6, (rowO true 1 eI v1.2.1 true)), (7, (rowO true 1 (eL eI) v1.2.2 true))], []⟩, []⟩
noncomputable def zYx (p0 : za) (p1 : (SL Int)) (v1 : zt14) (s20_9 : Bool) (s15_10 s20_12 : Int) : TM := [(0, (.d (.agg (zb p0)))), (1, (.d (dl eI p1.1 p1.2))), (zsp 2), (4, (.d (.sl [] .nil))), (5, (xb false)), (6, (.row 0 6 v1.2.1.length)), (7, (.row 0 7 v1.2.2.length)), (8, (xi v1.1)), (18, (xb false)), (11, (xb s20_9)), (12, (xi s15_10)), (103, (xb true)), (13, (xi s20_12)), (108, (xb true))]
theorem zsl (k : Nat) (p0 : za) (p1 : (SL Int)) (v1 : zt14) (s15_10 : Int) (s20_9 : Bool) (s20_12 : Int) (r : Bool) (h : zpe k p0 p1 v1 s15_10 s20_9 s20_12 = some r) : ev TE 38 (rgn TE 38 25) ⟨(zYx p0 p1 v1 s20_9 s15_10 s20_12), ⟨[(zc 2 (zb p0)), (6, (rowO true 1 eI v1.2.1 true)), (7, (rowO true 1 (eL eI) v1.2.2 true))], []⟩, []⟩ = some (.nor, zSb p0 p1 v1 s15_10 s20_9 s20_12 r) := by
 unfold zpe at h
 refine zm h (fun h2301 g1 => ?_) (fun h2301 g1 => ?_)
 ·refine zi g1 (fun v2302 h2303 g2 => ?_)
  refine zm g2 (fun h2304 g3 => ?_) (fun h2304 g3 => ?_)
  ·exact zq (g := fun r => (Ex.nor, zSb p0 p1 v1 s15_10 s20_9 s20_12 r)) g3 (zqe [(38, 25, 1, .q (xb true)), (38, 25, 5, .q (.d (.pin (zd v2302)))), (38, 25, 9, .q (xb true))] [] (ob (o_b h2301) (ob (o_ia (e := zd) 6 h2303 rfl) (ob (o_b h2304) ob0))) (by kernel_rfl))
  ·refine zi g3 (fun v2305 h2306 g4 => ?_)
   refine zi g4 (fun v2307 h2308 g5 => ?_)
   refine zm g5 (fun h2309 g6 => ?_) (fun h2309 g6 => ?_)
   ·exact zq (g := fun r => (Ex.nor, zSb p0 p1 v1 s15_10 s20_9 s20_12 r)) g6 (zqe [(38, 25, 1, .q (xb true)), (38, 25, 5, .q (.d (.pin (zd v2302)))), (38, 25, 9, .q (xb false)), (38, 25, 13, .q (.d (.pin (zd v2305)))), (38, 25, 19, .q (.d (.pin (zd v2307)))), (38, 25, 24, .q (xb true))] [] (ob (o_b h2301) (ob (o_ia (e := zd) 6 h2303 rfl) (ob (o_b h2304) (ob (o_ia (e := zd) 6 h2306 rfl) (ob (o_ia (e := zd) 6 h2308 rfl) (ob (o_b h2309) ob0)))))) (by kernel_rfl))
   ·refine zi g6 (fun v2310 h2311 g7 => ?_)
    refine zi g7 (fun v2312 h2313 g8 => ?_)
    exact zq (g := fun r => (Ex.nor, zSb p0 p1 v1 s15_10 s20_9 s20_12 r)) g8 (zqe [(38, 25, 1, .q (xb true)), (38, 25, 5, .q (.d (.pin (zd v2302)))), (38, 25, 9, .q (xb false)), (38, 25, 13, .q (.d (.pin (zd v2305)))), (38, 25, 19, .q (.d (.pin (zd v2307)))), (38, 25, 24, .q (xb false)), (38, 25, 27, .q (.rp 0 6 v1.2.1.length s15_10.toNat 0)), (38, 25, 28, .q (xi v2310)), (38, 25, 31, .q (.rp 0 6 v1.2.1.length s20_12.toNat 0)), (38, 25, 32, .q (xi v2312))] [] (ob (o_b h2301) (ob (o_ia (e := zd) 6 h2303 rfl) (ob (o_b h2304) (ob (o_ia (e := zd) 6 h2306 rfl) (ob (o_ia (e := zd) 6 h2308 rfl) (ob (o_b h2309) (ob (zqa 27 8 0 6 s15_10 true 1 eI v1.2.1 true (by kernel_rfl) (by kernel_rfl) h2311) (ob (zql 3 (1, false) 0 6 0 s15_10 (xi v2310) true 1 eI v1.2.1 true (by kernel_rfl) h2311 (by kernel_rfl)) (ob (zqa 27 8 0 6 s20_12 true 1 eI v1.2.1 true (by kernel_rfl) (by kernel_rfl) h2313) (ob (zql 3 (1, false) 0 6 0 s20_12 (xi v2312) true 1 eI v1.2.1 true (by kernel_rfl) h2313 (by kernel_rfl)) ob0)))))))))) (by kernel_rfl))
 ·exact zq (g := fun r => (Ex.nor, zSb p0 p1 v1 s15_10 s20_9 s20_12 r)) g1 (zqe [(38, 25, 1, .q (xb false))] [] (ob (o_b h2301) ob0) (by kernel_rfl))
noncomputable def zFy (p0 : za) (p1 : (SL Int)) (v1 : zt14) (s20_9 : Bool) (s15_10 s20_12 : Int) : TM := [(0, (.d (.agg (zb p0)))), (1, (.d (dl eI p1.1 p1.2))), (zsp 2), (4, (.d (.sl [] .nil))), (5, (xb false)), (6, (.row 0 6 v1.2.1.length)), (7, (.row 0 7 v1.2.2.length)), (8, (xi v1.1)), (18, (xb false)), (11, (xb s20_9)), (12, (xi s15_10)), (103, (xb true)), (13, (xi s20_12))]
noncomputable def zUl (p0 : za) (p1 : (SL Int)) (v1 : zt14) (s15_10 : Int) (s20_9 : Bool) (s20_12 : Int) : St := ⟨(zFy p0 p1 v1 s20_9 s15_10 s20_12), ⟨[(zc 2 (zb p0)), (6, (rowO true 1 eI v1.2.1 true)), (7, (rowO true 1 (eL eI) v1.2.2 true))], []⟩, []⟩
noncomputable def zHz (p0 : za) (p1 : (SL Int)) (v1 : zt14) (r : zt1) (s15_10 : Int) : TM := [(0, (.d (.agg (zb p0)))), (1, (.d (dl eI p1.1 p1.2))), (zsp 2), (4, (.d (.sl [] .nil))), (5, (xb false)), (6, (.row 0 6 v1.2.1.length)), (7, (.row 0 7 v1.2.2.length)), (8, (xi v1.1)), (18, (xb false)), (11, (xb r.1)), (12, (xi s15_10)), (103, (xb true)), (13, (xi r.2)), (108, (xb false))]
noncomputable def zwf (p0 : za) (p1 : (SL Int)) (v1 : zt14) (s15_10 : Int) (r : zt1) : St := ⟨(zHz p0 p1 v1 r s15_10), ⟨[(zc 2 (zb p0)), (6, (rowO true 1 eI v1.2.1 true)), (7, (rowO true 1 (eL eI) v1.2.2 true))], []⟩, []⟩
noncomputable def z1l (p0 : za) (p1 : (SL Int)) (v1 : zt14) (s15_10 : Int) : (Bool × Int) → Ex × St := fun r => ((.exit 6), zwf p0 p1 v1 s15_10 r)
theorem zml (k : Nat) (p0 : za) (p1 : (SL Int)) (v1 : zt14) (s15_10 : Int) (s20_9 : Bool) (s20_12 : Int) (x : (Bool × Int) ⊕ (Bool × Int)) (h : z4c k p0 p1 v1 s15_10 s20_9 s20_12 = some x) : zF TE 38 (blk TE 38 6) (fun s : (Bool × Int) => zUl p0 p1 v1 s15_10 s.1 s.2) (z1l p0 p1 v1 s15_10) (s20_9, s20_12) x := by
 unfold z4c at h
 refine zm h (fun h2201 g1 => ?_) (fun h2201 g1 => ?_)
 ·refine zi g1 (fun v2202 h2203 g2 => ?_)
  exact zqn (v2202, (w64 (s20_12 + 1))) [6, 7] [(38, 23, 2, .q (xb true))] [(38, 1000025, (.nor, zSb p0 p1 v1 s15_10 s20_9 s20_12 v2202))] g2 (ob (o_b h2201) (ob (zsl k p0 p1 v1 s15_10 s20_9 s20_12 _ h2203) (ob (zWd true 1 eI v1.2.1 true) (ob (zWd true 1 (eL eI) v1.2.2 true) ob0)))) (by kernel_rfl)
 ·exact zqo [(38, 23, 2, .q (xb false))] [] g1 (ob (o_b h2201) ob0) (by kernel_rfl)
noncomputable def zUy (p0 : za) (p1 : (SL Int)) (v1 : zt14) (s15_9 : Bool) (s15_10 : Int) : TM := [(0, (.d (.agg (zb p0)))), (1, (.d (dl eI p1.1 p1.2))), (zsp 2), (4, (.d (.sl [] .nil))), (5, (xb false)), (6, (.row 0 6 v1.2.1.length)), (7, (.row 0 7 v1.2.2.length)), (8, (xi v1.1)), (18, (xb false)), (11, (xb s15_9)), (12, (xi s15_10))]
noncomputable def zdm (p0 : za) (p1 : (SL Int)) (v1 : zt14) (s15_9 : Bool) (s15_10 : Int) : St := ⟨(zUy p0 p1 v1 s15_9 s15_10), ⟨[(zc 2 (zb p0)), (6, (rowO true 1 eI v1.2.1 true)), (7, (rowO true 1 (eL eI) v1.2.2 true))], []⟩, []⟩
noncomputable def zYy (p0 : za) (p1 : (SL Int)) (v1 : zt14) (r : zt1) : TM := [(0, (.d (.agg (zb p0)))), (1, (.d (dl eI p1.1 p1.2))), (zsp 2), (4, (.d (.sl [] .nil))), (5, (xb false)), (6, (.row 0 6 v1.2.1.length)), (7, (.row 0 7 v1.2.2.length)), (8, (xi v1.1)), (18, (xb false)), (11, (xb r.1)), (12, (xi r.2)), (103, (xb false))]
noncomputable def zlf (p0 : za) (p1 : (SL Int)) (v1 : zt14) (r : zt1) : St := ⟨(zYy p0 p1 v1 r), ⟨[(zc 2 (zb p0)), (6, (rowO true 1 eI v1.2.1 true)), (7, (rowO true 1 (eL eI) v1.2.2 true))], []⟩, []⟩
noncomputable def zbm (p0 : za) (p1 : (SL Int)) (v1 : zt14) : (Bool × Int) → Ex × St := fun r => ((.exit 4), zlf p0 p1 v1 r)
theorem zil (k : Nat) (p0 : za) (p1 : (SL Int)) (v1 : zt14) (s15_9 : Bool) (s15_10 : Int) (x : (Bool × Int) ⊕ (Bool × Int)) (h : z3c k p0 p1 v1 s15_9 s15_10 = some x) : zF TE 38 (blk TE 38 4) (fun s : (Bool × Int) => zdm p0 p1 v1 s.1 s.2) (zbm p0 p1 v1) (s15_9, s15_10) x := by
 unfold z3c at h
 refine zm h (fun h2001 g1 => ?_) (fun h2001 g1 => ?_)
 ·refine zi g1 (fun v2002 h2003 g2 => ?_)
  exact zqn (v2002.1, (w64 (s15_10 + 1))) [6, 7] [(38, 20, 2, .q (xi (v1.2.1.length : Int))), (38, 20, 3, .q (xb true))] [(38, 6, (.nor, zwf p0 p1 v1 s15_10 v2002))] g2 (ob (z2e true 1 eI v1.2.1 true) (ob (o_b h2001) (ob (zu (id := 6) (r' := (.nor, zwf p0 p1 v1 s15_10 v2002)) (zQb (zml k p0 p1 v1 s15_10) k _ _ h2003) rfl) (ob (zWd true 1 eI v1.2.1 true) (ob (zWd true 1 (eL eI) v1.2.2 true) ob0))))) (by kernel_rfl)
 ·exact zqo [(38, 20, 2, .q (xi (v1.2.1.length : Int))), (38, 20, 3, .q (xb false))] [] g1 (ob (z2e true 1 eI v1.2.1 true) (ob (o_b h2001) ob0)) (by kernel_rfl)
theorem ztb (k : Nat) (p0 : za) (p1 : (SL Int)) (r : zt4) (h : zze k p0 p1 = some r) : zx TE (ev TE) 38 [(.agg (zb p0)), (dl eI p1.1 p1.2)] = some (zyj r) := by
 unfold zze at h
 refine zi h (fun v1 h2 g1 => ?_)
 refine zi g1 (fun v3 h4 g2 => ?_)
 exact zt (g := zyj) g2 (zqr [(38, 18, 1, .q (xi (v1.2.2.length : Int)))] [(38, 0, (.nor, zNf p0 p1 v1)), (38, 4, (.nor, zlf p0 p1 v1 v3))] [(dl eI v1.2.1 (rcap true v1.2.1)), (db v3.1)] (ob (zu (id := 0) (r' := (.nor, zNf p0 p1 v1)) (zYi (zMl k p0 p1) k _ _ h2) rfl) (ob (z2e true 1 (eL eI) v1.2.2 true) (ob (zu (id := 4) (r' := (.nor, zlf p0 p1 v1 v3)) (zQb (zil k p0 p1 v1) k _ _ h4) rfl) (ob (show zFc ⟨[(6, (rowO true 1 eI v1.2.1 true))], []⟩ _ = _ from (o_s1 (x := (.row 0 6 v1.2.1.length)) (zen true 1 eI v1.2.1 true rfl) (o_s1 (x := (xb v3.1)) rfl o_s0))) ob0)))) (by kernel_rfl))
noncomputable def z5y (p0 : za) (p1 : (SL Int)) (s1_7 s1_8 : Int) (r : Bool) : TM := [(0, (.d (.agg (zb p0)))), (1, (.d (dl eI p1.1 p1.2))), (zsp 2), (4, (xb false)), (14, (xb false)), (zsp 5), (6, (xi s1_7)), (7, (xi s1_8)), (18, (xb true)), (39, (xb r))]
noncomputable def zTb (p0 : za) (p1 : (SL Int)) (s1_7 s1_8 : Int) (s1_13 : zt15) (r : Bool) : St := ⟨(z5y p0 p1 s1_7 s1_8 r), ⟨[(zc 2 (zb p0)), (5, (.cells ((aL 8 eI s1_13).map .d)))], []⟩, []⟩
noncomputable def zmz (p0 : za) (p1 : (SL Int)) (s1_7 s1_8 : Int) : TM := [(0, (.d (.agg (zb p0)))), (1, (.d (dl eI p1.1 p1.2))), (zsp 2), (4, (xb false)), (14, (xb false)), (zsp 5), (6, (xi s1_7)), (7, (xi s1_8)), (18, (xb true))]
theorem ztf (k : Nat) (p0 : za) (p1 : (SL Int)) (s1_7 s1_8 : Int) (s1_13 : zt15) (r : Bool) (h : z6c k p0 p1 s1_7 s1_8 s1_13 = some r) : ev TE 39 (rgn TE 39 8) ⟨(zmz p0 p1 s1_7 s1_8), ⟨[(zc 2 (zb p0)), (5, (.cells ((aL 8 eI s1_13).map .d)))], []⟩, []⟩ = some (.nor, zTb p0 p1 s1_7 s1_8 s1_13 r) := by
 unfold z6c at h
 refine zi h (fun v501 h502 g1 => ?_)
 refine zi g1 (fun v503 h504 g2 => ?_)
 refine zm g2 (fun h505 g3 => ?_) (fun h505 g3 => ?_)
 ·exact zq (g := fun r => (Ex.nor, zTb p0 p1 s1_7 s1_8 s1_13 r)) g3 (zqe [(39, 8, 2, .q (.d (.pin [(di v501)]))), (39, 8, 5, .c (db v503)), (39, 8, 7, .q (xb true))] [] (ob (o_ia (e := eI) 1 h502 rfl) (ob (zz k v501 0 s1_7 _ h504) (ob (o_b h505) ob0))) (by kernel_rfl))
 ·refine zi g3 (fun v506 h507 g4 => ?_)
  refine zib g4 (fun h508 g5 => ?_)
  refine zi g5 (fun v509 h510 g6 => ?_)
  exact zq (g := fun r => (Ex.nor, zTb p0 p1 s1_7 s1_8 s1_13 r)) g6 (zqe [(39, 8, 2, .q (.d (.pin [(di v501)]))), (39, 8, 5, .c (db v503)), (39, 8, 7, .q (xb false)), (39, 8, 11, .q (.d (.pin [(di v506)]))), (39, 8, 13, .q (.ptr 0 5 (v506.toNat))), (39, 8, 14, .q (.d (dl eI (s1_13 v506.toNat).1 (s1_13 v506.toNat).2))), (39, 8, 16, .c (db v509))] [] (ob (o_ia (e := eI) 1 h502 rfl) (ob (zz k v501 0 s1_7 _ h504) (ob (o_b h505) (ob (o_ia (e := eI) 1 h507 rfl) (ob (z5i (m := 8) 0 5 0 1 v506.toNat h508 (by omega)) (ob (zEu 8 eI s1_13 v506.toNat (by have := h508; simp only [Bool.and_eq_true, decide_eq_true_eq] at this; omega)) (ob (zPi k p0 (s1_13 v506.toNat) s1_8 _ h510) ob0))))))) (by kernel_rfl))
noncomputable def zay (p0 : za) (p1 : (SL Int)) (v405 s1_7 s1_8 s5_11 : Int) (r : Bool) : TM := [(0, (.d (.agg (zb p0)))), (1, (.d (dl eI p1.1 p1.2))), (zsp 2), (4, (xb false)), (14, (xb false)), (zsp 5), (6, (xi (if (w64 (v405 + 1)) > s1_7 then (w64 (v405 + 1)) else s1_7))), (7, (xi s1_8)), (18, (xb true)), (39, (xb false)), (8, (xi s5_11)), (62, (xb true)), (97, (xb r))]
noncomputable def zRb (p0 : za) (p1 : (SL Int)) (s1_7 s1_8 : Int) (s1_13 : zt15) (v405 v407 : Int) (v412 : (SL Int)) (s5_11 : Int) (r : Bool) : St := ⟨(zay p0 p1 v405 s1_7 s1_8 s5_11 r), ⟨[(zc 2 (zb p0)), (5, (.cells ((aL 8 eI (upd s1_13 v407.toNat v412)).map .d)))], []⟩, []⟩
noncomputable def z7x (p0 : za) (p1 : (SL Int)) (v405 s1_7 s1_8 s5_11 : Int) : TM := [(0, (.d (.agg (zb p0)))), (1, (.d (dl eI p1.1 p1.2))), (zsp 2), (4, (xb false)), (14, (xb false)), (zsp 5), (6, (xi (if (w64 (v405 + 1)) > s1_7 then (w64 (v405 + 1)) else s1_7))), (7, (xi s1_8)), (18, (xb true)), (39, (xb false)), (8, (xi s5_11)), (62, (xb true))]
theorem zKh (k : Nat) (p0 : za) (p1 : (SL Int)) (s1_7 s1_8 : Int) (s1_13 : zt15) (v405 v407 : Int) (v412 : (SL Int)) (s5_11 : Int) (r : Bool) (h : zad k p0 p1 s1_7 s1_8 s1_13 v405 v407 v412 s5_11 = some r) : ev TE 39 (rgn TE 39 15) ⟨(z7x p0 p1 v405 s1_7 s1_8 s5_11), ⟨[(zc 2 (zb p0)), (5, (.cells ((aL 8 eI (upd s1_13 v407.toNat v412)).map .d)))], []⟩, []⟩ = some (.nor, zRb p0 p1 s1_7 s1_8 s1_13 v405 v407 v412 s5_11 r) := by
 unfold zad at h
 refine zi h (fun v801 h802 g1 => ?_)
 refine zm g1 (fun h803 g2 => ?_) (fun h803 g2 => ?_)
 ·refine zi g2 (fun v804 h805 g3 => ?_)
  refine zi g3 (fun v806 h807 g4 => ?_)
  refine zm g4 (fun h808 g5 => ?_) (fun h808 g5 => ?_)
  ·refine zi g5 (fun v809 h810 g6 => ?_)
   refine zi g6 (fun v811 h812 g7 => ?_)
   exact zq (g := fun r => (Ex.nor, zRb p0 p1 s1_7 s1_8 s1_13 v405 v407 v412 s5_11 r)) g7 (zqe [(39, 15, 3, .q (.d (.pin (zd v801)))), (39, 15, 7, .q (xb true)), (39, 15, 11, .q (.d (.pin (zd v804)))), (39, 15, 17, .q (.d (.pin (zd v806)))), (39, 15, 22, .q (xb true)), (39, 15, 25, .q (.d (.pin [(di v809)]))), (39, 15, 29, .q (.d (.pin [(di v811)])))] [] (ob (o_ia (e := zd) 6 h802 rfl) (ob (o_b h803) (ob (o_ia (e := zd) 6 h805 rfl) (ob (o_ia (e := zd) 6 h807 rfl) (ob (o_b h808) (ob (o_ia (e := eI) 1 h810 rfl) (ob (o_ia (e := eI) 1 h812 rfl) ob0))))))) (by kernel_rfl))
  ·exact zq (g := fun r => (Ex.nor, zRb p0 p1 s1_7 s1_8 s1_13 v405 v407 v412 s5_11 r)) g5 (zqe [(39, 15, 3, .q (.d (.pin (zd v801)))), (39, 15, 7, .q (xb true)), (39, 15, 11, .q (.d (.pin (zd v804)))), (39, 15, 17, .q (.d (.pin (zd v806)))), (39, 15, 22, .q (xb false))] [] (ob (o_ia (e := zd) 6 h802 rfl) (ob (o_b h803) (ob (o_ia (e := zd) 6 h805 rfl) (ob (o_ia (e := zd) 6 h807 rfl) (ob (o_b h808) ob0))))) (by kernel_rfl))
 ·exact zq (g := fun r => (Ex.nor, zRb p0 p1 s1_7 s1_8 s1_13 v405 v407 v412 s5_11 r)) g2 (zqe [(39, 15, 3, .q (.d (.pin (zd v801)))), (39, 15, 7, .q (xb false))] [] (ob (o_ia (e := zd) 6 h802 rfl) (ob (o_b h803) ob0)) (by kernel_rfl))
noncomputable def zby (p0 : za) (p1 : (SL Int)) (v405 s1_7 s1_8 s5_11 : Int) : TM := [(0, (.d (.agg (zb p0)))), (1, (.d (dl eI p1.1 p1.2))), (zsp 2), (4, (xb false)), (14, (xb false)), (zsp 5), (6, (xi (if (w64 (v405 + 1)) > s1_7 then (w64 (v405 + 1)) else s1_7))), (7, (xi s1_8)), (18, (xb true)), (39, (xb false)), (8, (xi s5_11))]
noncomputable def zVl (p0 : za) (p1 : (SL Int)) (s1_7 s1_8 : Int) (s1_13 : zt15) (v405 v407 : Int) (v412 : (SL Int)) (s5_11 : Int) : St := ⟨(zby p0 p1 v405 s1_7 s1_8 s5_11), ⟨[(zc 2 (zb p0)), (5, (.cells ((aL 8 eI (upd s1_13 v407.toNat v412)).map .d)))], []⟩, []⟩
noncomputable def zKy (p0 : za) (p1 : (SL Int)) (v405 s1_7 s1_8 r : Int) : TM := [(0, (.d (.agg (zb p0)))), (1, (.d (dl eI p1.1 p1.2))), (zsp 2), (4, (xb false)), (14, (xb false)), (zsp 5), (6, (xi (if (w64 (v405 + 1)) > s1_7 then (w64 (v405 + 1)) else s1_7))), (7, (xi s1_8)), (18, (xb true)), (39, (xb false)), (8, (xi r)), (62, (xb true)), (97, (xb true))]
noncomputable def znf (p0 : za) (p1 : (SL Int)) (s1_7 s1_8 : Int) (s1_13 : zt15) (v405 v407 : Int) (v412 : (SL Int)) (r : Int) : St := ⟨(zKy p0 p1 v405 s1_7 s1_8 r), ⟨[(zc 2 (zb p0)), (5, (.cells ((aL 8 eI (upd s1_13 v407.toNat v412)).map .d)))], []⟩, []⟩
noncomputable def zBz (p0 : za) (p1 : (SL Int)) (v405 s1_7 s1_8 r : Int) : TM := [(0, (.d (.agg (zb p0)))), (1, (.d (dl eI p1.1 p1.2))), (zsp 2), (4, (xb false)), (14, (xb false)), (zsp 5), (6, (xi (if (w64 (v405 + 1)) > s1_7 then (w64 (v405 + 1)) else s1_7))), (7, (xi s1_8)), (18, (xb true)), (39, (xb false)), (8, (xi r)), (62, (xb false))]
noncomputable def zyf (p0 : za) (p1 : (SL Int)) (s1_7 s1_8 : Int) (s1_13 : zt15) (v405 v407 : Int) (v412 : (SL Int)) (r : Int) : St := ⟨(zBz p0 p1 v405 s1_7 s1_8 r), ⟨[(zc 2 (zb p0)), (5, (.cells ((aL 8 eI (upd s1_13 v407.toNat v412)).map .d)))], []⟩, []⟩
noncomputable def z5l (p0 : za) (p1 : (SL Int)) (s1_7 s1_8 : Int) (s1_13 : zt15) (v405 v407 : Int) (v412 : (SL Int)) : (Int ⊕ Int) → Ex × St := Sum.elim (fun r => (.ret, znf p0 p1 s1_7 s1_8 s1_13 v405 v407 v412 r)) (fun r => ((.exit 2), zyf p0 p1 s1_7 s1_8 s1_13 v405 v407 v412 r))
theorem zQh (k : Nat) (p0 : za) (p1 : (SL Int)) (s1_7 s1_8 : Int) (s1_13 : zt15) (v405 v407 : Int) (v412 : (SL Int)) (s5_11 : Int) (x : Int ⊕ (Int ⊕ Int)) (h : z5c k p0 p1 s1_7 s1_8 s1_13 v405 v407 v412 s5_11 = some x) : zF TE 39 (blk TE 39 2) (fun s : Int => zVl p0 p1 s1_7 s1_8 s1_13 v405 v407 v412 s) (z5l p0 p1 s1_7 s1_8 s1_13 v405 v407 v412) s5_11 x := by
 unfold z5c at h
 refine zm h (fun h701 g1 => ?_) (fun h701 g1 => ?_)
 ·refine zi g1 (fun v702 h703 g2 => ?_)
  refine zm g2 (fun h704 g3 => ?_) (fun h704 g3 => ?_)
  ·subst h704
   exact zqo [(39, 13, 2, .q (xb true))] [(39, 1000015, (.nor, zRb p0 p1 s1_7 s1_8 s1_13 v405 v407 v412 s5_11 true))] g3 (ob (o_b h701) (ob (zKh k p0 p1 s1_7 s1_8 s1_13 v405 v407 v412 s5_11 _ h703) ob0)) (by kernel_rfl)
  ·subst h704
   exact zqn (w64 (s5_11 + 1)) [] [(39, 13, 2, .q (xb true))] [(39, 1000015, (.nor, zRb p0 p1 s1_7 s1_8 s1_13 v405 v407 v412 s5_11 false))] g3 (ob (o_b h701) (ob (zKh k p0 p1 s1_7 s1_8 s1_13 v405 v407 v412 s5_11 _ h703) ob0)) (by kernel_rfl)
 ·exact zqo [(39, 13, 2, .q (xb false))] [] g1 (ob (o_b h701) ob0) (by kernel_rfl)
noncomputable def zsz (p0 : za) (p1 : (SL Int)) (s1_7 s1_8 : Int) : TM := [(0, (.d (.agg (zb p0)))), (1, (.d (dl eI p1.1 p1.2))), (zsp 2), (4, (xb false)), (14, (xb false)), (zsp 5), (6, (xi s1_7)), (7, (xi s1_8))]
noncomputable def zJl (p0 : za) (p1 : (SL Int)) (s1_7 s1_8 : Int) (s1_13 : zt15) : St := ⟨(zsz p0 p1 s1_7 s1_8), ⟨[(zc 2 (zb p0)), (5, (.cells ((aL 8 eI s1_13).map .d)))], []⟩, []⟩
noncomputable def zuz (p0 : za) (p1 : (SL Int)) (r : (Int × Int × (Nat → SL Int))) : TM := [(0, (.d (.agg (zb p0)))), (1, (.d (dl eI p1.1 p1.2))), (zsp 2), (4, (xb false)), (14, (xb false)), (zsp 5), (6, (xi r.1)), (7, (xi r.2.1)), (18, (xb true)), (39, (xb true))]
noncomputable def zxf (p0 : za) (p1 : (SL Int)) (r : (Int × Int × (Nat → SL Int))) : St := ⟨(zuz p0 p1 r), ⟨[(zc 2 (zb p0)), (5, (.cells ((aL 8 eI r.2.2).map .d)))], []⟩, []⟩
noncomputable def zOx (p0 : za) (p1 : (SL Int)) (r : (Int × Int × Int × (Nat → SL Int))) : TM := [(0, (.d (.agg (zb p0)))), (1, (.d (dl eI p1.1 p1.2))), (zsp 2), (4, (xb false)), (14, (xb false)), (zsp 5), (6, (xi r.1)), (7, (xi r.2.1)), (18, (xb true)), (39, (xb false)), (8, (xi r.2.2.1)), (62, (xb true)), (97, (xb true))]
noncomputable def zuf (p0 : za) (p1 : (SL Int)) (r : (Int × Int × Int × (Nat → SL Int))) : St := ⟨(zOx p0 p1 r), ⟨[(zc 2 (zb p0)), (5, (.cells ((aL 8 eI r.2.2.2).map .d)))], []⟩, []⟩
noncomputable def z6y (p0 : za) (p1 : (SL Int)) (r : (Int × Int × (Nat → SL Int))) : TM := [(0, (.d (.agg (zb p0)))), (1, (.d (dl eI p1.1 p1.2))), (zsp 2), (4, (xb false)), (14, (xb false)), (zsp 5), (6, (xi r.1)), (7, (xi r.2.1)), (18, (xb false))]
noncomputable def zof (p0 : za) (p1 : (SL Int)) (r : (Int × Int × (Nat → SL Int))) : St := ⟨(z6y p0 p1 r), ⟨[(zc 2 (zb p0)), (5, (.cells ((aL 8 eI r.2.2).map .d)))], []⟩, []⟩
noncomputable def zOl (p0 : za) (p1 : (SL Int)) : ((Int × Int × (Nat → SL Int)) ⊕ ((Int × Int × Int × (Nat → SL Int)) ⊕ (Int × Int × (Nat → SL Int)))) → Ex × St := Sum.elim (fun r => (.ret, zxf p0 p1 r)) (Sum.elim (fun r => (.ret, zuf p0 p1 r)) (fun r => ((.exit 0), zof p0 p1 r)))
theorem zCf (k : Nat) (p0 : za) (p1 : (SL Int)) (s1_7 s1_8 : Int) (s1_13 : zt15) (x : (Int × Int × (Nat → SL Int)) ⊕ ((Int × Int × (Nat → SL Int)) ⊕ ((Int × Int × Int × (Nat → SL Int)) ⊕ (Int × Int × (Nat → SL Int))))) (h : z9c k p0 p1 s1_7 s1_8 s1_13 = some x) : zF TE 39 (blk TE 39 0) (fun s : (Int × Int × (Nat → SL Int)) => zJl p0 p1 s.1 s.2.1 s.2.2) (zOl p0 p1) (s1_7, s1_8, s1_13) x := by
 unfold z9c at h
 refine zm h (fun h401 g1 => ?_) (fun h401 g1 => ?_)
 ·refine zi g1 (fun v402 h403 g2 => ?_)
  refine zm g2 (fun h404 g3 => ?_) (fun h404 g3 => ?_)
  ·subst h404
   exact zqo [(39, 6, 2, .q (xi (p1.1.length : Int))), (39, 6, 3, .q (xb true))] [(39, 1000008, (.nor, zTb p0 p1 s1_7 s1_8 s1_13 true))] g3 (ob (zp eI p1.1) (ob (o_b h401) (ob (ztf k p0 p1 s1_7 s1_8 s1_13 _ h403) ob0))) (by kernel_rfl)
  ·subst h404
   refine zi g3 (fun v405 h406 g4 => ?_)
   refine zi g4 (fun v407 h408 g5 => ?_)
   refine zi g5 (fun v409 h410 g6 => ?_)
   refine zib g6 (fun h411 g7 => ?_)
   refine zi g7 (fun v412 h413 g8 => ?_)
   refine zib g8 (fun h414 g9 => ?_)
   refine zi g9 (fun v415 h416 g10 => ?_)
   refine zJb g10 (fun v418 hh g11_0 => ?_) (fun v418 hh g11_0 => ?_)
   ·subst hh
    exact zqo [(39, 6, 2, .q (xi (p1.1.length : Int))), (39, 6, 3, .q (xb true)), (39, 10, 3, .q (.d (.pin [(di v405)]))), (39, 11, 2, .q (.d (.pin [(di v407)]))), (39, 11, 6, .q (.d (.pin [(di v409)]))), (39, 11, 8, .q (.ptr 0 5 (v409.toNat))), (39, 11, 9, .q (.d (dl eI (s1_13 v409.toNat).1 (s1_13 v409.toNat).2))), (39, 11, 11, .c (dl eI v412.1 v412.2)), (39, 11, 12, .q (.ptr 0 5 (v407.toNat))), (39, 11, 13, .st ((aL 8 eI (upd s1_13 v407.toNat v412)).map .d))] [(39, 1000008, (.nor, zTb p0 p1 s1_7 s1_8 s1_13 false)), (39, 2, (.ret, znf p0 p1 s1_7 s1_8 s1_13 v405 v407 v412 v418))] g11_0 (ob (zp eI p1.1) (ob (o_b h401) (ob (ztf k p0 p1 s1_7 s1_8 s1_13 _ h403) (ob (o_ia (e := eI) 1 h406 rfl) (ob (o_ia (e := eI) 1 h408 rfl) (ob (o_ia (e := eI) 1 h410 rfl) (ob (z5i (m := 8) 0 5 0 1 v409.toNat h411 (by omega)) (ob (zEu 8 eI s1_13 v409.toNat (by have := h411; simp only [Bool.and_eq_true, decide_eq_true_eq] at this; omega)) (ob (zdf k (s1_13 v409.toNat) s1_8 _ h413) (ob (z5i (m := 8) 0 5 0 1 v407.toNat h414 (by omega)) (ob (zuw 8 eI s1_13 v407.toNat v412 (by have := h414; simp only [Bool.and_eq_true, decide_eq_true_eq] at this; omega)) (ob (zu (id := 2) (r' := (.ret, znf p0 p1 s1_7 s1_8 s1_13 v405 v407 v412 v418)) (znc (zQh k p0 p1 s1_7 s1_8 s1_13 v405 v407 v412) k _ _ h416) rfl) ob0)))))))))))) (by kernel_rfl)
   ·subst hh
    exact zqn ((if (w64 (v405 + 1)) > s1_7 then (w64 (v405 + 1)) else s1_7), (w64 (s1_8 + 1)), (upd s1_13 v407.toNat v412)) [] [(39, 6, 2, .q (xi (p1.1.length : Int))), (39, 6, 3, .q (xb true)), (39, 10, 3, .q (.d (.pin [(di v405)]))), (39, 11, 2, .q (.d (.pin [(di v407)]))), (39, 11, 6, .q (.d (.pin [(di v409)]))), (39, 11, 8, .q (.ptr 0 5 (v409.toNat))), (39, 11, 9, .q (.d (dl eI (s1_13 v409.toNat).1 (s1_13 v409.toNat).2))), (39, 11, 11, .c (dl eI v412.1 v412.2)), (39, 11, 12, .q (.ptr 0 5 (v407.toNat))), (39, 11, 13, .st ((aL 8 eI (upd s1_13 v407.toNat v412)).map .d))] [(39, 1000008, (.nor, zTb p0 p1 s1_7 s1_8 s1_13 false)), (39, 2, (.nor, zyf p0 p1 s1_7 s1_8 s1_13 v405 v407 v412 v418))] g11_0 (ob (zp eI p1.1) (ob (o_b h401) (ob (ztf k p0 p1 s1_7 s1_8 s1_13 _ h403) (ob (o_ia (e := eI) 1 h406 rfl) (ob (o_ia (e := eI) 1 h408 rfl) (ob (o_ia (e := eI) 1 h410 rfl) (ob (z5i (m := 8) 0 5 0 1 v409.toNat h411 (by omega)) (ob (zEu 8 eI s1_13 v409.toNat (by have := h411; simp only [Bool.and_eq_true, decide_eq_true_eq] at this; omega)) (ob (zdf k (s1_13 v409.toNat) s1_8 _ h413) (ob (z5i (m := 8) 0 5 0 1 v407.toNat h414 (by omega)) (ob (zuw 8 eI s1_13 v407.toNat v412 (by have := h414; simp only [Bool.and_eq_true, decide_eq_true_eq] at this; omega)) (ob (zu (id := 2) (r' := (.nor, zyf p0 p1 s1_7 s1_8 s1_13 v405 v407 v412 v418)) (znc (zQh k p0 p1 s1_7 s1_8 s1_13 v405 v407 v412) k _ _ h416) rfl) ob0)))))))))))) (by kernel_rfl)
 ·exact zqo [(39, 6, 2, .q (xi (p1.1.length : Int))), (39, 6, 3, .q (xb false))] [] g1 (ob (zp eI p1.1) (ob (o_b h401) ob0)) (by kernel_rfl)
theorem z1m (k : Nat) (p0 : za) (p1 : (SL Int)) (r : Bool) (h : zfe k p0 p1 = some r) : zx TE (ev TE) 39 [(.agg (zb p0)), (dl eI p1.1 p1.2)] = some (zvd r) := by
 unfold zfe at h
 refine zm h (fun h1 g1 => ?_) (fun h1 g1 => ?_)
 ·exact zt (g := zvd) g1 (zqc [(39, 1, 1, .q (xi (p1.1.length : Int))), (39, 1, 4, .q (xi (p0.Letters.1.length : Int))), (39, 1, 5, .q (xb true))] [] (ob (zp eI p1.1) (ob (zp zd p0.Letters.1) (ob (o_b h1) ob0))) (by kernel_rfl))
 ·refine zi g1 (fun v2 h3 g2 => ?_)
  refine zJb g2 (fun v5 hh g3_0 => ?_) (fun w2_0 hh g3_0 => ?_)
  ·subst hh
   exact zt (g := zvd) g3_0 (zqc [(39, 1, 1, .q (xi (p1.1.length : Int))), (39, 1, 4, .q (xi (p0.Letters.1.length : Int))), (39, 1, 5, .q (xb false))] [(39, 0, (.ret, zxf p0 p1 v5))] (ob (zp eI p1.1) (ob (zp zd p0.Letters.1) (ob (o_b h1) (ob (zu (id := 0) (r' := (.ret, zxf p0 p1 v5)) (zYi (zCf k p0 p1) k _ _ h3) rfl) ob0)))) (by kernel_rfl))
  ·subst hh
   refine zJb g3_0 (fun v5 hh g3_1 => ?_) (fun v5 hh g3_1 => ?_)
   ·subst hh
    exact zt (g := zvd) g3_1 (zqc [(39, 1, 1, .q (xi (p1.1.length : Int))), (39, 1, 4, .q (xi (p0.Letters.1.length : Int))), (39, 1, 5, .q (xb false))] [(39, 0, (.ret, zuf p0 p1 v5))] (ob (zp eI p1.1) (ob (zp zd p0.Letters.1) (ob (o_b h1) (ob (zu (id := 0) (r' := (.ret, zuf p0 p1 v5)) (zYi (zCf k p0 p1) k _ _ h3) rfl) ob0)))) (by kernel_rfl))
   ·subst hh
    exact zt (g := zvd) g3_1 (zqc [(39, 1, 1, .q (xi (p1.1.length : Int))), (39, 1, 4, .q (xi (p0.Letters.1.length : Int))), (39, 1, 5, .q (xb false))] [(39, 0, (.nor, zof p0 p1 v5))] (ob (zp eI p1.1) (ob (zp zd p0.Letters.1) (ob (o_b h1) (ob (zu (id := 0) (r' := (.nor, zof p0 p1 v5)) (zYi (zCf k p0 p1) k _ _ h3) rfl) ob0)))) (by kernel_rfl))
noncomputable def zoz (p0 : (SL Int)) (s1_2 s1_3 : Int) : TM := [(0, (.d (dl eI p0.1 p0.2))), (2, (xi 0)), (3, (xi s1_2)), (4, (xi s1_3))]
noncomputable def zhl (p0 : (SL Int)) (s1_2 s1_3 : Int) : St := ⟨(zoz p0 s1_2 s1_3), ⟨[], []⟩, []⟩
noncomputable def zly (p0 : (SL Int)) (r : zt0) : TM := [(0, (.d (dl eI p0.1 p0.2))), (2, (xi 0)), (3, (xi r.1)), (4, (xi r.2)), (8, (xb false))]
noncomputable def zZe (p0 : (SL Int)) (r : zt0) : St := ⟨(zly p0 r), ⟨[], []⟩, []⟩
noncomputable def zgl (p0 : (SL Int)) : (Int × Int) → Ex × St := fun r => ((.exit 0), zZe p0 r)
theorem zXk (k : Nat) (p0 : (SL Int)) (s1_2 s1_3 : Int) (x : (Int × Int) ⊕ (Int × Int)) (h : zOc k p0 s1_2 s1_3 = some x) : zF TE 41 (blk TE 41 0) (fun s : (Int × Int) => zhl p0 s.1 s.2) (zgl p0) (s1_2, s1_3) x := by
 unfold zOc at h
 refine zm h (fun h201 g1 => ?_) (fun h201 g1 => ?_)
 ·refine zi g1 (fun v202 h203 g2 => ?_)
  exact zqn ((if (w64 (v202 + 1)) > s1_2 then (w64 (v202 + 1)) else s1_2), (w64 (s1_3 + 1))) [] [(41, 3, 2, .q (xi (p0.1.length : Int))), (41, 3, 3, .q (xb true)), (41, 5, 3, .q (.d (.pin [(di v202)])))] [] g2 (ob (zp eI p0.1) (ob (o_b h201) (ob (o_ia (e := eI) 1 h203 rfl) ob0))) (by kernel_rfl)
 ·exact zqo [(41, 3, 2, .q (xi (p0.1.length : Int))), (41, 3, 3, .q (xb false))] [] g1 (ob (zp eI p0.1) (ob (o_b h201) ob0)) (by kernel_rfl)
theorem z0m (k : Nat) (p0 : (SL Int)) (r : Int) (h : zRd k p0 = some r) : zx TE (ev TE) 41 [(dl eI p0.1 p0.2)] = some (zRi r) := by
 unfold zRd at h
 refine zi h (fun v1 h2 g1 => ?_)
 exact zt (g := zRi) g1 (zqc [] [(41, 0, (.nor, zZe p0 v1))] (ob (zu (id := 0) (r' := (.nor, zZe p0 v1)) (zQb (zXk k p0) k _ _ h2) rfl) ob0) (by kernel_rfl))
noncomputable def zTy (p0 : (SL Int)) (p1 s1_3 s1_4 : Int) (r : Bool) : TM := [(0, (.d (dl eI p0.1 p0.2))), (1, (xi p1)), (4, (xb false)), (5, (xi s1_3)), (6, (xi s1_4)), (10, (xb true)), (26, (xb r))]
noncomputable def zHc (p0 : (SL Int)) (p1 s1_3 s1_4 : Int) (r : Bool) : St := ⟨(zTy p0 p1 s1_3 s1_4 r), ⟨[], []⟩, []⟩
noncomputable def zGy (p0 : (SL Int)) (p1 s1_3 s1_4 : Int) : TM := [(0, (.d (dl eI p0.1 p0.2))), (1, (xi p1)), (4, (xb false)), (5, (xi s1_3)), (6, (xi s1_4)), (10, (xb true))]
theorem zOh (k : Nat) (p0 : (SL Int)) (p1 s1_3 s1_4 : Int) (r : Bool) (h : zve k p0 p1 s1_3 s1_4 = some r) : ev TE 42 (rgn TE 42 5) ⟨(zGy p0 p1 s1_3 s1_4), ⟨[], []⟩, []⟩ = some (.nor, zHc p0 p1 s1_3 s1_4 r) := by
 unfold zve at h
 refine zi h (fun v401 h402 g1 => ?_)
 refine zm g1 (fun h403 g2 => ?_) (fun h403 g2 => ?_)
 ·exact zq (g := fun r => (Ex.nor, zHc p0 p1 s1_3 s1_4 r)) g2 (zqe [(42, 5, 2, .q (.d (.pin [(di v401)]))), (42, 5, 6, .q (xb true))] [] (ob (o_ia (e := eI) 1 h402 rfl) (ob (o_b h403) ob0)) (by kernel_rfl))
 ·refine zi g2 (fun v404 h405 g3 => ?_)
  exact zq (g := fun r => (Ex.nor, zHc p0 p1 s1_3 s1_4 r)) g3 (zqe [(42, 5, 2, .q (.d (.pin [(di v401)]))), (42, 5, 6, .q (xb false)), (42, 5, 9, .q (.d (.pin [(di v404)])))] [] (ob (o_ia (e := eI) 1 h402 rfl) (ob (o_b h403) (ob (o_ia (e := eI) 1 h405 rfl) ob0))) (by kernel_rfl))
noncomputable def z2y (p0 : (SL Int)) (p1 s1_3 s1_4 : Int) : TM := [(0, (.d (dl eI p0.1 p0.2))), (1, (xi p1)), (4, (xb false)), (5, (xi s1_3)), (6, (xi s1_4))]
noncomputable def z0l (p0 : (SL Int)) (p1 s1_3 s1_4 : Int) : St := ⟨(z2y p0 p1 s1_3 s1_4), ⟨[], []⟩, []⟩
noncomputable def zHx (p0 : (SL Int)) (p1 : Int) (r : zt0) : TM := [(0, (.d (dl eI p0.1 p0.2))), (1, (xi p1)), (4, (xb false)), (5, (xi r.1)), (6, (xi r.2)), (10, (xb true)), (26, (xb true))]
noncomputable def zrf (p0 : (SL Int)) (p1 : Int) (r : zt0) : St := ⟨(zHx p0 p1 r), ⟨[], []⟩, []⟩
noncomputable def zKx (p0 : (SL Int)) (p1 : Int) (r : zt0) : TM := [(0, (.d (dl eI p0.1 p0.2))), (1, (xi p1)), (4, (xb false)), (5, (xi r.1)), (6, (xi r.2)), (10, (xb false))]
noncomputable def zEf (p0 : (SL Int)) (p1 : Int) (r : zt0) : St := ⟨(zKx p0 p1 r), ⟨[], []⟩, []⟩
noncomputable def zRl (p0 : (SL Int)) (p1 : Int) : ((Int × Int) ⊕ (Int × Int)) → Ex × St := Sum.elim (fun r => (.ret, zrf p0 p1 r)) (fun r => ((.exit 0), zEf p0 p1 r))
theorem zRh (k : Nat) (p0 : (SL Int)) (p1 s1_3 s1_4 : Int) (x : (Int × Int) ⊕ ((Int × Int) ⊕ (Int × Int))) (h : zed k p0 p1 s1_3 s1_4 = some x) : zF TE 42 (blk TE 42 0) (fun s : (Int × Int) => z0l p0 p1 s.1 s.2) (zRl p0 p1) (s1_3, s1_4) x := by
 unfold zed at h
 refine zm h (fun h301 g1 => ?_) (fun h301 g1 => ?_)
 ·refine zi g1 (fun v302 h303 g2 => ?_)
  refine zm g2 (fun h304 g3 => ?_) (fun h304 g3 => ?_)
  ·subst h304
   exact zqo [(42, 3, 2, .q (xi (p0.1.length : Int))), (42, 3, 3, .q (xb true))] [(42, 1000005, (.nor, zHc p0 p1 s1_3 s1_4 true))] g3 (ob (zp eI p0.1) (ob (o_b h301) (ob (zOh k p0 p1 s1_3 s1_4 _ h303) ob0))) (by kernel_rfl)
  ·subst h304
   refine zi g3 (fun v305 h306 g4 => ?_)
   exact zqn (v305, (w64 (s1_4 + 1))) [] [(42, 3, 2, .q (xi (p0.1.length : Int))), (42, 3, 3, .q (xb true)), (42, 7, 2, .q (.d (.pin [(di v305)])))] [(42, 1000005, (.nor, zHc p0 p1 s1_3 s1_4 false))] g4 (ob (zp eI p0.1) (ob (o_b h301) (ob (zOh k p0 p1 s1_3 s1_4 _ h303) (ob (o_ia (e := eI) 1 h306 rfl) ob0)))) (by kernel_rfl)
 ·exact zqo [(42, 3, 2, .q (xi (p0.1.length : Int))), (42, 3, 3, .q (xb false))] [] g1 (ob (zp eI p0.1) (ob (o_b h301) ob0)) (by kernel_rfl)
theorem z3m (k : Nat) (p0 : (SL Int)) (p1 : Int) (r : Bool) (h : z2d k p0 p1 = some r) : zx TE (ev TE) 42 [(dl eI p0.1 p0.2), (di p1)] = some (zSg r) := by
 unfold z2d at h
 refine zi h (fun v1 h2 g1 => ?_)
 refine zJb g1 (fun v4 hh g2_0 => ?_) (fun v4 hh g2_0 => ?_)
 ·subst hh
  exact zt (g := zSg) g2_0 (zqc [] [(42, 0, (.ret, zrf p0 p1 v4))] (ob (zu (id := 0) (r' := (.ret, zrf p0 p1 v4)) (zQb (zRh k p0 p1) k _ _ h2) rfl) ob0) (by kernel_rfl))
 ·subst hh
  exact zt (g := zSg) g2_0 (zqc [] [(42, 0, (.nor, zEf p0 p1 v4))] (ob (zu (id := 0) (r' := (.nor, zEf p0 p1 v4)) (zQb (zRh k p0 p1) k _ _ h2) rfl) ob0) (by kernel_rfl))
noncomputable def zDz (p0 : za) (p1 : (SL Int)) (v4 : zt4) (v6 : zt1) (r : Bool) : TM := [(0, (.d (.agg (zb p0)))), (1, (.d (dl eI p1.1 p1.2))), (zsp 2), (4, (xb false)), (23, (xb false)), (5, (.d (dl eI v4.1.1 v4.1.2))), (6, (xb v4.2)), (7, (xb v6.1)), (8, (xi v6.2)), (50, (xb r))]
noncomputable def zC (p0 : za) (p1 : (SL Int)) (v4 : zt4) (v6 : zt1) (r : Bool) : St := ⟨(zDz p0 p1 v4 v6 r), ⟨[(zc 2 (zb p0))], []⟩, []⟩
noncomputable def zaz (p0 : za) (p1 : (SL Int)) (v4 : zt4) (v6 : zt1) : TM := [(0, (.d (.agg (zb p0)))), (1, (.d (dl eI p1.1 p1.2))), (zsp 2), (4, (xb false)), (23, (xb false)), (5, (.d (dl eI v4.1.1 v4.1.2))), (6, (xb v4.2)), (7, (xb v6.1)), (8, (xi v6.2))]
theorem zS (k : Nat) (p0 : za) (p1 : (SL Int)) (v4 : zt4) (v6 : zt1) (r : Bool) (h : zXb k p0 p1 v4 v6 = some r) : ev TE 6 (rgn TE 6 5) ⟨(zaz p0 p1 v4 v6), ⟨[(zc 2 (zb p0))], []⟩, []⟩ = some (.nor, zC p0 p1 v4 v6 r) := by
 unfold zXb at h
 refine zm h (fun h201 g1 => ?_) (fun h201 g1 => ?_)
 ·exact zq (g := fun r => (Ex.nor, zC p0 p1 v4 v6 r)) g1 (zqe [(6, 5, 2, .q (xb true))] [] (ob (o_b h201) ob0) (by kernel_rfl))
 ·refine zm g1 (fun h202 g2 => ?_) (fun h202 g2 => ?_)
  ·exact zq (g := fun r => (Ex.nor, zC p0 p1 v4 v6 r)) g2 (zqe [(6, 5, 2, .q (xb false)), (6, 5, 7, .q (xb true))] [] (ob (o_b h201) (ob (o_b h202) ob0)) (by kernel_rfl))
  ·refine zi g2 (fun v203 h204 g3 => ?_)
   exact zq (g := fun r => (Ex.nor, zC p0 p1 v4 v6 r)) g3 (zqe [(6, 5, 2, .q (xb false)), (6, 5, 7, .q (xb false)), (6, 5, 11, .c (db v203))] [] (ob (o_b h201) (ob (o_b h202) (ob (z1m k p0 v4.1 _ h204) ob0))) (by kernel_rfl))
noncomputable def zdy (p0 : za) (p1 : (SL Int)) (v4 : zt4) (v6 : zt1) (v12 v14 : zt0) (v16 : zt5) (r : Bool) : TM := [(0, (.d (.agg (zb p0)))), (1, (.d (dl eI p1.1 p1.2))), (zsp 2), (4, (xb false)), (23, (xb false)), (5, (.d (dl eI v4.1.1 v4.1.2))), (6, (xb v4.2)), (7, (xb v6.1)), (8, (xi v12.2)), (50, (xb false)), (52, (xb false)), (9, (xi v12.1)), (10, (xi v14.1)), (11, (xi v14.2)), (12, (.d (dl (eL eI) v16.1.1 v16.1.2))), (13, (xi v16.2)), (89, (xb r))]
noncomputable def zB (p0 : za) (p1 : (SL Int)) (v4 : zt4) (v6 : zt1) (v12 v14 : zt0) (v16 : zt5) (r : Bool) : St := ⟨(zdy p0 p1 v4 v6 v12 v14 v16 r), ⟨[(zc 2 (zb p0))], []⟩, []⟩
noncomputable def zig (p0 : za) (p1 : (SL Int)) (v4 : zt4) (v6 : zt1) (v12 v14 : zt0) (v16 : zt5) : TM := [(0, (.d (.agg (zb p0)))), (1, (.d (dl eI p1.1 p1.2))), (zsp 2), (4, (xb false)), (23, (xb false)), (5, (.d (dl eI v4.1.1 v4.1.2))), (6, (xb v4.2)), (7, (xb v6.1)), (8, (xi v12.2)), (50, (xb false)), (52, (xb false)), (9, (xi v12.1)), (10, (xi v14.1)), (11, (xi v14.2)), (12, (.d (dl (eL eI) v16.1.1 v16.1.2))), (13, (xi v16.2))]
theorem zeb (k : Nat) (p0 : za) (p1 : (SL Int)) (v4 : zt4) (v6 : zt1) (v12 v14 : zt0) (v16 : zt5) (r : Bool) (h : zYb k p0 p1 v4 v6 v12 v14 v16 = some r) : ev TE 6 (rgn TE 6 12) ⟨(zig p0 p1 v4 v6 v12 v14 v16), ⟨[(zc 2 (zb p0))], []⟩, []⟩ = some (.nor, zB p0 p1 v4 v6 v12 v14 v16 r) := by
 unfold zYb at h
 refine zm h (fun h301 g1 => ?_) (fun h301 g1 => ?_)
 ·exact zq (g := fun r => (Ex.nor, zB p0 p1 v4 v6 v12 v14 v16 r)) g1 (zqe [(6, 12, 2, .q (xb true))] [] (ob (o_b h301) ob0) (by kernel_rfl))
 ·refine zm g1 (fun h302 g2 => ?_) (fun h302 g2 => ?_)
  ·exact zq (g := fun r => (Ex.nor, zB p0 p1 v4 v6 v12 v14 v16 r)) g2 (zqe [(6, 12, 2, .q (xb false)), (6, 12, 6, .q (xb true))] [] (ob (o_b h301) (ob (o_b h302) ob0)) (by kernel_rfl))
  ·refine zm g2 (fun h303 g3 => ?_) (fun h303 g3 => ?_)
   ·exact zq (g := fun r => (Ex.nor, zB p0 p1 v4 v6 v12 v14 v16 r)) g3 (zqe [(6, 12, 2, .q (xb false)), (6, 12, 6, .q (xb false)), (6, 12, 10, .q (xb true))] [] (ob (o_b h301) (ob (o_b h302) (ob (o_b h303) ob0))) (by kernel_rfl))
   ·refine zm g3 (fun h304 g4 => ?_) (fun h304 g4 => ?_)
    ·exact zq (g := fun r => (Ex.nor, zB p0 p1 v4 v6 v12 v14 v16 r)) g4 (zqe [(6, 12, 2, .q (xb false)), (6, 12, 6, .q (xb false)), (6, 12, 10, .q (xb false)), (6, 12, 14, .q (xb true))] [] (ob (o_b h301) (ob (o_b h302) (ob (o_b h303) (ob (o_b h304) ob0)))) (by kernel_rfl))
    ·refine zi g4 (fun v305 h306 g5 => ?_)
     refine zi g5 (fun v307 h308 g6 => ?_)
     exact zq (g := fun r => (Ex.nor, zB p0 p1 v4 v6 v12 v14 v16 r)) g6 (zqe [(6, 12, 2, .q (xb false)), (6, 12, 6, .q (xb false)), (6, 12, 10, .q (xb false)), (6, 12, 14, .q (xb false)), (6, 12, 17, .c (di v305)), (6, 12, 18, .c (db v307))] [] (ob (o_b h301) (ob (o_b h302) (ob (o_b h303) (ob (o_b h304) (ob (z0m k v4.1 _ h306) (ob (zz k v14.1 1 v305 _ h308) ob0)))))) (by kernel_rfl))
noncomputable def zcz (p0 : za) (p1 : (SL Int)) (v4 : zt4) (v6 : zt1) (v12 v14 : zt0) (v16 : zt5) (s3_19 s7_21 : Int) (v902 : zt0) (r : Bool) : TM := zig p0 p1 v4 v6 v12 v14 v16 ++ [(89, (xb false)), (14, (xi s3_19)), (93, (xb true)), (15, (xi s7_21)), (99, (xb true)), (16, (xi v902.1)), (17, (xi v902.2)), (140, (xb r))]
noncomputable def zM (p0 : za) (p1 : (SL Int)) (v4 : zt4) (v6 : zt1) (v12 v14 : zt0) (v16 : zt5) (s3_19 s7_21 : Int) (v902 : zt0) (r : Bool) : St := ⟨(zcz p0 p1 v4 v6 v12 v14 v16 s3_19 s7_21 v902 r), ⟨[(zc 2 (zb p0))], []⟩, []⟩
noncomputable def zGx (p0 : za) (p1 : (SL Int)) (v4 : zt4) (v6 : zt1) (v12 v14 : zt0) (v16 : zt5) (s3_19 s7_21 : Int) (v902 : zt0) : TM := zig p0 p1 v4 v6 v12 v14 v16 ++ [(89, (xb false)), (14, (xi s3_19)), (93, (xb true)), (15, (xi s7_21)), (99, (xb true)), (16, (xi v902.1)), (17, (xi v902.2))]
theorem zfg (k : Nat) (p0 : za) (p1 : (SL Int)) (v4 : zt4) (v6 : zt1) (v12 v14 : zt0) (v16 : zt5) (s3_19 s7_21 : Int) (v902 : zt0) (r : Bool) (h : zWb k p0 p1 v4 v6 v12 v14 v16 s3_19 s7_21 v902 = some r) : ev TE 6 (rgn TE 6 21) ⟨(zGx p0 p1 v4 v6 v12 v14 v16 s3_19 s7_21 v902), ⟨[(zc 2 (zb p0))], []⟩, []⟩ = some (.nor, zM p0 p1 v4 v6 v12 v14 v16 s3_19 s7_21 v902 r) := by
 unfold zWb at h
 refine zm h (fun h1001 g1 => ?_) (fun h1001 g1 => ?_)
 ·exact zq (g := fun r => (Ex.nor, zM p0 p1 v4 v6 v12 v14 v16 s3_19 s7_21 v902 r)) g1 (zqe [(6, 21, 2, .q (xb true))] [] (ob (o_b h1001) ob0) (by kernel_rfl))
 ·refine zi g1 (fun v1002 h1003 g2 => ?_)
  refine zi g2 (fun v1004 h1005 g3 => ?_)
  refine zm g3 (fun h1006 g4 => ?_) (fun h1006 g4 => ?_)
  ·refine zm g4 (fun h1007 g5 => ?_) (fun h1007 g5 => ?_)
   ·exact zq (g := fun r => (Ex.nor, zM p0 p1 v4 v6 v12 v14 v16 s3_19 s7_21 v902 r)) g5 (zqe [(6, 21, 2, .q (xb false)), (6, 21, 5, .q (.d (.pin [(di v1002)]))), (6, 21, 9, .q (.d (.pin [(di v1004)]))), (6, 21, 12, .q (xb true)), (6, 21, 17, .q (xb true))] [] (ob (o_b h1001) (ob (o_ia (e := eI) 1 h1003 rfl) (ob (o_ia (e := eI) 1 h1005 rfl) (ob (o_b h1006) (ob (o_b h1007) ob0))))) (by kernel_rfl))
   ·refine zi g5 (fun v1008 h1009 g6 => ?_)
    refine zi g6 (fun v1010 h1011 g7 => ?_)
    refine zm g7 (fun h1012 g8 => ?_) (fun h1012 g8 => ?_)
    ·exact zq (g := fun r => (Ex.nor, zM p0 p1 v4 v6 v12 v14 v16 s3_19 s7_21 v902 r)) g8 (zqe [(6, 21, 2, .q (xb false)), (6, 21, 5, .q (.d (.pin [(di v1002)]))), (6, 21, 9, .q (.d (.pin [(di v1004)]))), (6, 21, 12, .q (xb true)), (6, 21, 17, .q (xb false)), (6, 21, 20, .q (.d (.pin [(di v1008)]))), (6, 21, 24, .q (.d (.pin [(di v1010)]))), (6, 21, 27, .q (xb true))] [] (ob (o_b h1001) (ob (o_ia (e := eI) 1 h1003 rfl) (ob (o_ia (e := eI) 1 h1005 rfl) (ob (o_b h1006) (ob (o_b h1007) (ob (o_ia (e := eI) 1 h1009 rfl) (ob (o_ia (e := eI) 1 h1011 rfl) (ob (o_b h1012) ob0)))))))) (by kernel_rfl))
    ·exact zq (g := fun r => (Ex.nor, zM p0 p1 v4 v6 v12 v14 v16 s3_19 s7_21 v902 r)) g8 (zqe [(6, 21, 2, .q (xb false)), (6, 21, 5, .q (.d (.pin [(di v1002)]))), (6, 21, 9, .q (.d (.pin [(di v1004)]))), (6, 21, 12, .q (xb true)), (6, 21, 17, .q (xb false)), (6, 21, 20, .q (.d (.pin [(di v1008)]))), (6, 21, 24, .q (.d (.pin [(di v1010)]))), (6, 21, 27, .q (xb false))] [] (ob (o_b h1001) (ob (o_ia (e := eI) 1 h1003 rfl) (ob (o_ia (e := eI) 1 h1005 rfl) (ob (o_b h1006) (ob (o_b h1007) (ob (o_ia (e := eI) 1 h1009 rfl) (ob (o_ia (e := eI) 1 h1011 rfl) (ob (o_b h1012) ob0)))))))) (by kernel_rfl))
  ·refine zi g4 (fun v1007 h1008 g5 => ?_)
   refine zi g5 (fun v1009 h1010 g6 => ?_)
   refine zm g6 (fun h1011 g7 => ?_) (fun h1011 g7 => ?_)
   ·exact zq (g := fun r => (Ex.nor, zM p0 p1 v4 v6 v12 v14 v16 s3_19 s7_21 v902 r)) g7 (zqe [(6, 21, 2, .q (xb false)), (6, 21, 5, .q (.d (.pin [(di v1002)]))), (6, 21, 9, .q (.d (.pin [(di v1004)]))), (6, 21, 12, .q (xb false)), (6, 21, 20, .q (.d (.pin [(di v1007)]))), (6, 21, 24, .q (.d (.pin [(di v1009)]))), (6, 21, 27, .q (xb true))] [] (ob (o_b h1001) (ob (o_ia (e := eI) 1 h1003 rfl) (ob (o_ia (e := eI) 1 h1005 rfl) (ob (o_b h1006) (ob (o_ia (e := eI) 1 h1008 rfl) (ob (o_ia (e := eI) 1 h1010 rfl) (ob (o_b h1011) ob0))))))) (by kernel_rfl))
   ·exact zq (g := fun r => (Ex.nor, zM p0 p1 v4 v6 v12 v14 v16 s3_19 s7_21 v902 r)) g7 (zqe [(6, 21, 2, .q (xb false)), (6, 21, 5, .q (.d (.pin [(di v1002)]))), (6, 21, 9, .q (.d (.pin [(di v1004)]))), (6, 21, 12, .q (xb false)), (6, 21, 20, .q (.d (.pin [(di v1007)]))), (6, 21, 24, .q (.d (.pin [(di v1009)]))), (6, 21, 27, .q (xb false))] [] (ob (o_b h1001) (ob (o_ia (e := eI) 1 h1003 rfl) (ob (o_ia (e := eI) 1 h1005 rfl) (ob (o_b h1006) (ob (o_ia (e := eI) 1 h1008 rfl) (ob (o_ia (e := eI) 1 h1010 rfl) (ob (o_b h1011) ob0))))))) (by kernel_rfl))
noncomputable def zfy (p0 : za) (p1 : (SL Int)) (v4 : zt4) (v6 : zt1) (v12 v14 : zt0) (v16 : zt5) (s3_19 s7_21 : Int) : TM := zig p0 p1 v4 v6 v12 v14 v16 ++ [(89, (xb false)), (14, (xi s3_19)), (93, (xb true)), (15, (xi s7_21))]
noncomputable def zNj (p0 : za) (p1 : (SL Int)) (v4 : zt4) (v6 : zt1) (v12 v14 : zt0) (v16 : zt5) (s3_19 s7_21 : Int) : St := ⟨(zfy p0 p1 v4 v6 v12 v14 v16 s3_19 s7_21), ⟨[(zc 2 (zb p0))], []⟩, []⟩
noncomputable def zhy (p0 : za) (p1 : (SL Int)) (v4 : zt4) (v6 : zt1) (v12 v14 : zt0) (v16 : zt5) (s3_19 : Int) (r : (Int × Int × Int)) : TM := zig p0 p1 v4 v6 v12 v14 v16 ++ [(89, (xb false)), (14, (xi s3_19)), (93, (xb true)), (15, (xi r.1)), (99, (xb true)), (16, (xi r.2.1)), (17, (xi r.2.2)), (140, (xb true))]
noncomputable def zFd (p0 : za) (p1 : (SL Int)) (v4 : zt4) (v6 : zt1) (v12 v14 : zt0) (v16 : zt5) (s3_19 : Int) (r : (Int × Int × Int)) : St := ⟨(zhy p0 p1 v4 v6 v12 v14 v16 s3_19 r), ⟨[(zc 2 (zb p0))], []⟩, []⟩
noncomputable def ziz (p0 : za) (p1 : (SL Int)) (v4 : zt4) (v6 : zt1) (v12 v14 : zt0) (v16 : zt5) (s3_19 r : Int) : TM := zig p0 p1 v4 v6 v12 v14 v16 ++ [(89, (xb false)), (14, (xi s3_19)), (93, (xb true)), (15, (xi r)), (99, (xb false))]
noncomputable def zEd (p0 : za) (p1 : (SL Int)) (v4 : zt4) (v6 : zt1) (v12 v14 : zt0) (v16 : zt5) (s3_19 r : Int) : St := ⟨(ziz p0 p1 v4 v6 v12 v14 v16 s3_19 r), ⟨[(zc 2 (zb p0))], []⟩, []⟩
noncomputable def zPj (p0 : za) (p1 : (SL Int)) (v4 : zt4) (v6 : zt1) (v12 v14 : zt0) (v16 : zt5) (s3_19 : Int) : ((Int × Int × Int) ⊕ Int) → Ex × St := Sum.elim (fun r => (.ret, zFd p0 p1 v4 v6 v12 v14 v16 s3_19 r)) (fun r => ((.exit 2), zEd p0 p1 v4 v6 v12 v14 v16 s3_19 r))
theorem zdg (k : Nat) (p0 : za) (p1 : (SL Int)) (v4 : zt4) (v6 : zt1) (v12 v14 : zt0) (v16 : zt5) (s3_19 s7_21 : Int) (x : Int ⊕ ((Int × Int × Int) ⊕ Int)) (h : zVb k p0 p1 v4 v6 v12 v14 v16 s3_19 s7_21 = some x) : zF TE 6 (blk TE 6 2) (fun s : Int => zNj p0 p1 v4 v6 v12 v14 v16 s3_19 s) (zPj p0 p1 v4 v6 v12 v14 v16 s3_19) s7_21 x := by
 unfold zVb at h
 refine zm h (fun h901 g1 => ?_) (fun h901 g1 => ?_)
 ·refine zi g1 (fun v902 h903 g2 => ?_)
  refine zi g2 (fun v904 h905 g3 => ?_)
  refine zm g3 (fun h906 g4 => ?_) (fun h906 g4 => ?_)
  ·subst h906
   exact zqo [(6, 18, 2, .q (xi (v4.1.1.length : Int))), (6, 18, 3, .q (xb true)), (6, 20, 3, .c (.tup [(di v902.1), (di v902.2)]))] [(6, 1000021, (.nor, zM p0 p1 v4 v6 v12 v14 v16 s3_19 s7_21 v902 true))] g4 (ob (zp eI v4.1.1) (ob (o_b h901) (ob (zcb k p0 s3_19 s7_21 _ h903) (ob (zfg k p0 p1 v4 v6 v12 v14 v16 s3_19 s7_21 v902 _ h905) ob0)))) (by kernel_rfl)
  ·subst h906
   exact zqn (w64 (s7_21 + 1)) [] [(6, 18, 2, .q (xi (v4.1.1.length : Int))), (6, 18, 3, .q (xb true)), (6, 20, 3, .c (.tup [(di v902.1), (di v902.2)]))] [(6, 1000021, (.nor, zM p0 p1 v4 v6 v12 v14 v16 s3_19 s7_21 v902 false))] g4 (ob (zp eI v4.1.1) (ob (o_b h901) (ob (zcb k p0 s3_19 s7_21 _ h903) (ob (zfg k p0 p1 v4 v6 v12 v14 v16 s3_19 s7_21 v902 _ h905) ob0)))) (by kernel_rfl)
 ·exact zqo [(6, 18, 2, .q (xi (v4.1.1.length : Int))), (6, 18, 3, .q (xb false))] [] g1 (ob (zp eI v4.1.1) (ob (o_b h901) ob0)) (by kernel_rfl)
noncomputable def zQj (p0 : za) (p1 : (SL Int)) (v4 : zt4) (v6 : zt1) (v12 v14 : zt0) (v16 : zt5) (s3_19 : Int) : St := ⟨(zig p0 p1 v4 v6 v12 v14 v16 ++ [(89, (xb false)), (14, (xi s3_19))]), ⟨[(zc 2 (zb p0))], []⟩, []⟩
noncomputable def zJy (p0 : za) (p1 : (SL Int)) (v4 : zt4) (v6 : zt1) (v12 v14 : zt0) (v16 : zt5) (r : (Int × Int × Int × Int)) : TM := zig p0 p1 v4 v6 v12 v14 v16 ++ [(89, (xb false)), (14, (xi r.1)), (93, (xb true)), (15, (xi r.2.1)), (99, (xb true)), (16, (xi r.2.2.1)), (17, (xi r.2.2.2)), (140, (xb true))]
noncomputable def zCd (p0 : za) (p1 : (SL Int)) (v4 : zt4) (v6 : zt1) (v12 v14 : zt0) (v16 : zt5) (r : (Int × Int × Int × Int)) : St := ⟨(zJy p0 p1 v4 v6 v12 v14 v16 r), ⟨[(zc 2 (zb p0))], []⟩, []⟩
noncomputable def zL (p0 : za) (p1 : (SL Int)) (v4 : zt4) (v6 : zt1) (v12 v14 : zt0) (v16 : zt5) (r : Int) : St := ⟨(zig p0 p1 v4 v6 v12 v14 v16 ++ [(89, (xb false)), (14, (xi r)), (93, (xb false))]), ⟨[(zc 2 (zb p0))], []⟩, []⟩
noncomputable def zOj (p0 : za) (p1 : (SL Int)) (v4 : zt4) (v6 : zt1) (v12 v14 : zt0) (v16 : zt5) : ((Int × Int × Int × Int) ⊕ Int) → Ex × St := Sum.elim (fun r => (.ret, zCd p0 p1 v4 v6 v12 v14 v16 r)) (fun r => ((.exit 0), zL p0 p1 v4 v6 v12 v14 v16 r))
theorem zwb (k : Nat) (p0 : za) (p1 : (SL Int)) (v4 : zt4) (v6 : zt1) (v12 v14 : zt0) (v16 : zt5) (s3_19 : Int) (x : Int ⊕ ((Int × Int × Int × Int) ⊕ Int)) (h : zUb k p0 p1 v4 v6 v12 v14 v16 s3_19 = some x) : zF TE 6 (blk TE 6 0) (fun s : Int => zQj p0 p1 v4 v6 v12 v14 v16 s) (zOj p0 p1 v4 v6 v12 v14 v16) s3_19 x := by
 unfold zUb at h
 refine zm h (fun h701 g1 => ?_) (fun h701 g1 => ?_)
 ·refine zi g1 (fun v702 h703 g2 => ?_)
  refine zJb g2 (fun v705 hh g3_0 => ?_) (fun v705 hh g3_0 => ?_)
  ·subst hh
   exact zqo [(6, 15, 2, .q (xi (v4.1.1.length : Int))), (6, 15, 3, .q (xb true))] [(6, 2, (.ret, zFd p0 p1 v4 v6 v12 v14 v16 s3_19 v705))] g3_0 (ob (zp eI v4.1.1) (ob (o_b h701) (ob (zu (id := 2) (r' := (.ret, zFd p0 p1 v4 v6 v12 v14 v16 s3_19 v705)) (znc (zdg k p0 p1 v4 v6 v12 v14 v16 s3_19) k _ _ h703) rfl) ob0))) (by kernel_rfl)
  ·subst hh
   exact zqn (w64 (s3_19 + 1)) [] [(6, 15, 2, .q (xi (v4.1.1.length : Int))), (6, 15, 3, .q (xb true))] [(6, 2, (.nor, zEd p0 p1 v4 v6 v12 v14 v16 s3_19 v705))] g3_0 (ob (zp eI v4.1.1) (ob (o_b h701) (ob (zu (id := 2) (r' := (.nor, zEd p0 p1 v4 v6 v12 v14 v16 s3_19 v705)) (znc (zdg k p0 p1 v4 v6 v12 v14 v16 s3_19) k _ _ h703) rfl) ob0))) (by kernel_rfl)
 ·exact zqo [(6, 15, 2, .q (xi (v4.1.1.length : Int))), (6, 15, 3, .q (xb false))] [] g1 (ob (zp eI v4.1.1) (ob (o_b h701) ob0)) (by kernel_rfl)
noncomputable def zoy (p0 : za) (p1 : (SL Int)) (v4 : zt4) (v6 : zt1) (v12 v14 : zt0) (v16 : zt5) (v24 s10_21 s10_22 : Int) (r : Bool) : TM := zig p0 p1 v4 v6 v12 v14 v16 ++ [(89, (xb false)), (14, (xi v24)), (93, (xb false)), (18, (xi s10_21)), (19, (xi s10_22)), (144, (xb true)), (162, (xb r))]
noncomputable def zdb (p0 : za) (p1 : (SL Int)) (v4 : zt4) (v6 : zt1) (v12 v14 : zt0) (v16 : zt5) (v24 s10_21 s10_22 : Int) (r : Bool) : St := ⟨(zoy p0 p1 v4 v6 v12 v14 v16 v24 s10_21 s10_22 r), ⟨[(zc 2 (zb p0))], []⟩, []⟩
noncomputable def zxz (p0 : za) (p1 : (SL Int)) (v4 : zt4) (v6 : zt1) (v12 v14 : zt0) (v16 : zt5) (v24 s10_21 s10_22 : Int) : TM := zig p0 p1 v4 v6 v12 v14 v16 ++ [(89, (xb false)), (14, (xi v24)), (93, (xb false)), (18, (xi s10_21)), (19, (xi s10_22)), (144, (xb true))]
theorem zxd (k : Nat) (p0 : za) (p1 : (SL Int)) (v4 : zt4) (v6 : zt1) (v12 v14 : zt0) (v16 : zt5) (v24 s10_21 s10_22 : Int) (r : Bool) (h : zKb k p0 p1 v4 v6 v12 v14 v16 v24 s10_21 s10_22 = some r) : ev TE 6 (rgn TE 6 27) ⟨(zxz p0 p1 v4 v6 v12 v14 v16 v24 s10_21 s10_22), ⟨[(zc 2 (zb p0))], []⟩, []⟩ = some (.nor, zdb p0 p1 v4 v6 v12 v14 v16 v24 s10_21 s10_22 r) := by
 unfold zKb at h
 refine zi h (fun v1401 h1402 g1 => ?_)
 refine zm g1 (fun h1403 g2 => ?_) (fun h1403 g2 => ?_)
 ·exact zq (g := fun r => (Ex.nor, zdb p0 p1 v4 v6 v12 v14 v16 v24 s10_21 s10_22 r)) g2 (zqe [(6, 27, 2, .q (.d (.pin [(dl eI v1401.1 v1401.2)]))), (6, 27, 4, .q (xi (v1401.1.length : Int))), (6, 27, 6, .q (xb true))] [] (ob (o_ia (e := (eL eI)) 1 h1402 rfl) (ob (zp eI v1401.1) (ob (o_b h1403) ob0))) (by kernel_rfl))
 ·refine zi g2 (fun v1404 h1405 g3 => ?_)
  refine zi g3 (fun v1406 h1407 g4 => ?_)
  exact zq (g := fun r => (Ex.nor, zdb p0 p1 v4 v6 v12 v14 v16 v24 s10_21 s10_22 r)) g4 (zqe [(6, 27, 2, .q (.d (.pin [(dl eI v1401.1 v1401.2)]))), (6, 27, 4, .q (xi (v1401.1.length : Int))), (6, 27, 6, .q (xb false)), (6, 27, 9, .q (.d (.pin [(dl eI v1404.1 v1404.2)]))), (6, 27, 12, .q (xi (v4.1.1.length : Int))), (6, 27, 13, .c (db v1406))] [] (ob (o_ia (e := (eL eI)) 1 h1402 rfl) (ob (zp eI v1401.1) (ob (o_b h1403) (ob (o_ia (e := (eL eI)) 1 h1405 rfl) (ob (zp eI v4.1.1) (ob (z3m k v1404 (v4.1.1.length : Int) _ h1407) ob0)))))) (by kernel_rfl))
noncomputable def zLx (p0 : za) (p1 : (SL Int)) (v4 : zt4) (v6 : zt1) (v12 v14 : zt0) (v16 : zt5) (v24 s10_21 : Int) (v1305 : (SL Int)) (s10_22 s14_25 : Int) : TM := zig p0 p1 v4 v6 v12 v14 v16 ++ [(89, (xb false)), (14, (xi v24)), (93, (xb false)), (18, (xi (w64 (s10_21 + (v1305.1.length : Int))))), (19, (xi s10_22)), (144, (xb true)), (162, (xb false)), (20, (xi s14_25))]
noncomputable def zuj (p0 : za) (p1 : (SL Int)) (v4 : zt4) (v6 : zt1) (v12 v14 : zt0) (v16 : zt5) (v24 s10_21 s10_22 : Int) (v1305 : (SL Int)) (s14_25 : Int) : St := ⟨(zLx p0 p1 v4 v6 v12 v14 v16 v24 s10_21 v1305 s10_22 s14_25), ⟨[(zc 2 (zb p0))], []⟩, []⟩
noncomputable def zdz (p0 : za) (p1 : (SL Int)) (v4 : zt4) (v6 : zt1) (v12 v14 : zt0) (v16 : zt5) (v24 s10_21 : Int) (v1305 : (SL Int)) (s10_22 r : Int) : TM := zig p0 p1 v4 v6 v12 v14 v16 ++ [(89, (xb false)), (14, (xi v24)), (93, (xb false)), (18, (xi (w64 (s10_21 + (v1305.1.length : Int))))), (19, (xi s10_22)), (144, (xb true)), (162, (xb false)), (20, (xi r)), (176, (xb true)), (198, (xb true))]
noncomputable def zod (p0 : za) (p1 : (SL Int)) (v4 : zt4) (v6 : zt1) (v12 v14 : zt0) (v16 : zt5) (v24 s10_21 s10_22 : Int) (v1305 : (SL Int)) (r : Int) : St := ⟨(zdz p0 p1 v4 v6 v12 v14 v16 v24 s10_21 v1305 s10_22 r), ⟨[(zc 2 (zb p0))], []⟩, []⟩
noncomputable def zyz (p0 : za) (p1 : (SL Int)) (v4 : zt4) (v6 : zt1) (v12 v14 : zt0) (v16 : zt5) (v24 s10_21 : Int) (v1305 : (SL Int)) (s10_22 r : Int) : TM := zig p0 p1 v4 v6 v12 v14 v16 ++ [(89, (xb false)), (14, (xi v24)), (93, (xb false)), (18, (xi (w64 (s10_21 + (v1305.1.length : Int))))), (19, (xi s10_22)), (144, (xb true)), (162, (xb false)), (20, (xi r)), (176, (xb false))]
noncomputable def zyd (p0 : za) (p1 : (SL Int)) (v4 : zt4) (v6 : zt1) (v12 v14 : zt0) (v16 : zt5) (v24 s10_21 s10_22 : Int) (v1305 : (SL Int)) (r : Int) : St := ⟨(zyz p0 p1 v4 v6 v12 v14 v16 v24 s10_21 v1305 s10_22 r), ⟨[(zc 2 (zb p0))], []⟩, []⟩
noncomputable def zxj (p0 : za) (p1 : (SL Int)) (v4 : zt4) (v6 : zt1) (v12 v14 : zt0) (v16 : zt5) (v24 s10_21 s10_22 : Int) (v1305 : (SL Int)) : (Int ⊕ Int) → Ex × St := Sum.elim (fun r => (.ret, zod p0 p1 v4 v6 v12 v14 v16 v24 s10_21 s10_22 v1305 r)) (fun r => ((.exit 6), zyd p0 p1 v4 v6 v12 v14 v16 v24 s10_21 s10_22 v1305 r))
theorem z4f (k : Nat) (p0 : za) (p1 : (SL Int)) (v4 : zt4) (v6 : zt1) (v12 v14 : zt0) (v16 : zt5) (v24 s10_21 s10_22 : Int) (v1305 : (SL Int)) (s14_25 : Int) (x : Int ⊕ (Int ⊕ Int)) (h : zHb k p0 p1 v4 v6 v12 v14 v16 v24 s10_21 s10_22 v1305 s14_25 = some x) : zF TE 6 (blk TE 6 6) (fun s : Int => zuj p0 p1 v4 v6 v12 v14 v16 v24 s10_21 s10_22 v1305 s) (zxj p0 p1 v4 v6 v12 v14 v16 v24 s10_21 s10_22 v1305) s14_25 x := by
 unfold zHb at h
 refine zi h (fun v1501 h1502 g1 => ?_)
 refine zm g1 (fun h1503 g2 => ?_) (fun h1503 g2 => ?_)
 ·refine zi g2 (fun v1504 h1505 g3 => ?_)
  refine zi g3 (fun v1506 h1507 g4 => ?_)
  refine zi g4 (fun v1508 h1509 g5 => ?_)
  refine zi g5 (fun v1510 h1511 g6 => ?_)
  refine zi g6 (fun v1512 h1513 g7 => ?_)
  refine zi g7 (fun v1514 h1515 g8 => ?_)
  refine zm g8 (fun h1516 g9 => ?_) (fun h1516 g9 => ?_)
  ·exact zqo [(6, 31, 3, .q (.d (.pin [(dl eI v1501.1 v1501.2)]))), (6, 31, 5, .q (xi (v1501.1.length : Int))), (6, 31, 6, .q (xb true)), (6, 33, 3, .q (.d (.pin [(dl eI v1504.1 v1504.2)]))), (6, 33, 6, .q (.d (.pin [(di v1506)]))), (6, 33, 8, .q (.d (.pin [(di v1508)]))), (6, 33, 13, .q (.d (.pin [(dl eI v1510.1 v1510.2)]))), (6, 33, 15, .q (.d (.pin [(di v1512)]))), (6, 33, 17, .q (.d (.pin [(di v1514)]))), (6, 33, 19, .q (xb true))] [] g9 (ob (o_ia (e := (eL eI)) 1 h1502 rfl) (ob (zp eI v1501.1) (ob (o_b h1503) (ob (o_ia (e := (eL eI)) 1 h1505 rfl) (ob (o_ia (e := eI) 1 h1507 rfl) (ob (o_ia (e := eI) 1 h1509 rfl) (ob (o_ia (e := (eL eI)) 1 h1511 rfl) (ob (o_ia (e := eI) 1 h1513 rfl) (ob (o_ia (e := eI) 1 h1515 rfl) (ob (o_b h1516) ob0)))))))))) (by kernel_rfl)
  ·exact zqn (w64 (s14_25 + 1)) [] [(6, 31, 3, .q (.d (.pin [(dl eI v1501.1 v1501.2)]))), (6, 31, 5, .q (xi (v1501.1.length : Int))), (6, 31, 6, .q (xb true)), (6, 33, 3, .q (.d (.pin [(dl eI v1504.1 v1504.2)]))), (6, 33, 6, .q (.d (.pin [(di v1506)]))), (6, 33, 8, .q (.d (.pin [(di v1508)]))), (6, 33, 13, .q (.d (.pin [(dl eI v1510.1 v1510.2)]))), (6, 33, 15, .q (.d (.pin [(di v1512)]))), (6, 33, 17, .q (.d (.pin [(di v1514)]))), (6, 33, 19, .q (xb false))] [] g9 (ob (o_ia (e := (eL eI)) 1 h1502 rfl) (ob (zp eI v1501.1) (ob (o_b h1503) (ob (o_ia (e := (eL eI)) 1 h1505 rfl) (ob (o_ia (e := eI) 1 h1507 rfl) (ob (o_ia (e := eI) 1 h1509 rfl) (ob (o_ia (e := (eL eI)) 1 h1511 rfl) (ob (o_ia (e := eI) 1 h1513 rfl) (ob (o_ia (e := eI) 1 h1515 rfl) (ob (o_b h1516) ob0)))))))))) (by kernel_rfl)
 ·exact zqo [(6, 31, 3, .q (.d (.pin [(dl eI v1501.1 v1501.2)]))), (6, 31, 5, .q (xi (v1501.1.length : Int))), (6, 31, 6, .q (xb false))] [] g2 (ob (o_ia (e := (eL eI)) 1 h1502 rfl) (ob (zp eI v1501.1) (ob (o_b h1503) ob0))) (by kernel_rfl)
noncomputable def zCy (p0 : za) (p1 : (SL Int)) (v4 : zt4) (v6 : zt1) (v12 v14 : zt0) (v16 : zt5) (v24 s10_21 s10_22 : Int) : TM := zig p0 p1 v4 v6 v12 v14 v16 ++ [(89, (xb false)), (14, (xi v24)), (93, (xb false)), (18, (xi s10_21)), (19, (xi s10_22))]
noncomputable def zoj (p0 : za) (p1 : (SL Int)) (v4 : zt4) (v6 : zt1) (v12 v14 : zt0) (v16 : zt5) (v24 s10_21 s10_22 : Int) : St := ⟨(zCy p0 p1 v4 v6 v12 v14 v16 v24 s10_21 s10_22), ⟨[(zc 2 (zb p0))], []⟩, []⟩
noncomputable def zpy (p0 : za) (p1 : (SL Int)) (v4 : zt4) (v6 : zt1) (v12 v14 : zt0) (v16 : zt5) (v24 : Int) (r : zt0) : TM := zig p0 p1 v4 v6 v12 v14 v16 ++ [(89, (xb false)), (14, (xi v24)), (93, (xb false)), (18, (xi r.1)), (19, (xi r.2)), (144, (xb true)), (162, (xb true))]
noncomputable def zwd (p0 : za) (p1 : (SL Int)) (v4 : zt4) (v6 : zt1) (v12 v14 : zt0) (v16 : zt5) (v24 : Int) (r : zt0) : St := ⟨(zpy p0 p1 v4 v6 v12 v14 v16 v24 r), ⟨[(zc 2 (zb p0))], []⟩, []⟩
noncomputable def zXx (p0 : za) (p1 : (SL Int)) (v4 : zt4) (v6 : zt1) (v12 v14 : zt0) (v16 : zt5) (v24 : Int) (r : (Int × Int × Int)) : TM := zig p0 p1 v4 v6 v12 v14 v16 ++ [(89, (xb false)), (14, (xi v24)), (93, (xb false)), (18, (xi r.1)), (19, (xi r.2.1)), (144, (xb true)), (162, (xb false)), (20, (xi r.2.2)), (176, (xb true)), (198, (xb true))]
noncomputable def znd (p0 : za) (p1 : (SL Int)) (v4 : zt4) (v6 : zt1) (v12 v14 : zt0) (v16 : zt5) (v24 : Int) (r : (Int × Int × Int)) : St := ⟨(zXx p0 p1 v4 v6 v12 v14 v16 v24 r), ⟨[(zc 2 (zb p0))], []⟩, []⟩
noncomputable def zMy (p0 : za) (p1 : (SL Int)) (v4 : zt4) (v6 : zt1) (v12 v14 : zt0) (v16 : zt5) (v24 : Int) (r : zt0) : TM := zig p0 p1 v4 v6 v12 v14 v16 ++ [(89, (xb false)), (14, (xi v24)), (93, (xb false)), (18, (xi r.1)), (19, (xi r.2)), (144, (xb false))]
noncomputable def zrb (p0 : za) (p1 : (SL Int)) (v4 : zt4) (v6 : zt1) (v12 v14 : zt0) (v16 : zt5) (v24 : Int) (r : zt0) : St := ⟨(zMy p0 p1 v4 v6 v12 v14 v16 v24 r), ⟨[(zc 2 (zb p0))], []⟩, []⟩
noncomputable def zlj (p0 : za) (p1 : (SL Int)) (v4 : zt4) (v6 : zt1) (v12 v14 : zt0) (v16 : zt5) (v24 : Int) : ((Int × Int) ⊕ ((Int × Int × Int) ⊕ (Int × Int))) → Ex × St := Sum.elim (fun r => (.ret, zwd p0 p1 v4 v6 v12 v14 v16 v24 r)) (Sum.elim (fun r => (.ret, znd p0 p1 v4 v6 v12 v14 v16 v24 r)) (fun r => ((.exit 4), zrb p0 p1 v4 v6 v12 v14 v16 v24 r)))
theorem z7b (k : Nat) (p0 : za) (p1 : (SL Int)) (v4 : zt4) (v6 : zt1) (v12 v14 : zt0) (v16 : zt5) (v24 s10_21 s10_22 : Int) (x : (Int × Int) ⊕ ((Int × Int) ⊕ ((Int × Int × Int) ⊕ (Int × Int)))) (h : zLb k p0 p1 v4 v6 v12 v14 v16 v24 s10_21 s10_22 = some x) : zF TE 6 (blk TE 6 4) (fun s : (Int × Int) => zoj p0 p1 v4 v6 v12 v14 v16 v24 s.1 s.2) (zlj p0 p1 v4 v6 v12 v14 v16 v24) (s10_21, s10_22) x := by
 unfold zLb at h
 refine zm h (fun h1301 g1 => ?_) (fun h1301 g1 => ?_)
 ·refine zi g1 (fun v1302 h1303 g2 => ?_)
  refine zm g2 (fun h1304 g3 => ?_) (fun h1304 g3 => ?_)
  ·subst h1304
   exact zqo [(6, 25, 2, .q (xi (v16.1.1.length : Int))), (6, 25, 3, .q (xb true))] [(6, 1000027, (.nor, zdb p0 p1 v4 v6 v12 v14 v16 v24 s10_21 s10_22 true))] g3 (ob (zp (eL eI) v16.1.1) (ob (o_b h1301) (ob (zxd k p0 p1 v4 v6 v12 v14 v16 v24 s10_21 s10_22 _ h1303) ob0))) (by kernel_rfl)
  ·subst h1304
   refine zi g3 (fun v1305 h1306 g4 => ?_)
   refine zi g4 (fun v1307 h1308 g5 => ?_)
   refine zJb g5 (fun v1310 hh g6_0 => ?_) (fun v1310 hh g6_0 => ?_)
   ·subst hh
    exact zqo [(6, 25, 2, .q (xi (v16.1.1.length : Int))), (6, 25, 3, .q (xb true)), (6, 29, 3, .q (.d (.pin [(dl eI v1305.1 v1305.2)]))), (6, 29, 5, .q (xi (v1305.1.length : Int)))] [(6, 1000027, (.nor, zdb p0 p1 v4 v6 v12 v14 v16 v24 s10_21 s10_22 false)), (6, 6, (.ret, zod p0 p1 v4 v6 v12 v14 v16 v24 s10_21 s10_22 v1305 v1310))] g6_0 (ob (zp (eL eI) v16.1.1) (ob (o_b h1301) (ob (zxd k p0 p1 v4 v6 v12 v14 v16 v24 s10_21 s10_22 _ h1303) (ob (o_ia (e := (eL eI)) 1 h1306 rfl) (ob (zp eI v1305.1) (ob (zu (id := 6) (r' := (.ret, zod p0 p1 v4 v6 v12 v14 v16 v24 s10_21 s10_22 v1305 v1310)) (znc (z4f k p0 p1 v4 v6 v12 v14 v16 v24 s10_21 s10_22 v1305) k _ _ h1308) rfl) ob0)))))) (by kernel_rfl)
   ·subst hh
    exact zqn ((w64 (s10_21 + (v1305.1.length : Int))), (w64 (s10_22 + 1))) [] [(6, 25, 2, .q (xi (v16.1.1.length : Int))), (6, 25, 3, .q (xb true)), (6, 29, 3, .q (.d (.pin [(dl eI v1305.1 v1305.2)]))), (6, 29, 5, .q (xi (v1305.1.length : Int)))] [(6, 1000027, (.nor, zdb p0 p1 v4 v6 v12 v14 v16 v24 s10_21 s10_22 false)), (6, 6, (.nor, zyd p0 p1 v4 v6 v12 v14 v16 v24 s10_21 s10_22 v1305 v1310))] g6_0 (ob (zp (eL eI) v16.1.1) (ob (o_b h1301) (ob (zxd k p0 p1 v4 v6 v12 v14 v16 v24 s10_21 s10_22 _ h1303) (ob (o_ia (e := (eL eI)) 1 h1306 rfl) (ob (zp eI v1305.1) (ob (zu (id := 6) (r' := (.nor, zyd p0 p1 v4 v6 v12 v14 v16 v24 s10_21 s10_22 v1305 v1310)) (znc (z4f k p0 p1 v4 v6 v12 v14 v16 v24 s10_21 s10_22 v1305) k _ _ h1308) rfl) ob0)))))) (by kernel_rfl)
 ·exact zqo [(6, 25, 2, .q (xi (v16.1.1.length : Int))), (6, 25, 3, .q (xb false))] [] g1 (ob (zp (eL eI) v16.1.1) (ob (o_b h1301) ob0)) (by kernel_rfl)
theorem zqk (k : Nat) (p0 : za) (p1 : (SL Int)) (r : Bool) (h : zGb k p0 p1 = some r) : zx TE (ev TE) 6 [(.agg (zb p0)), (dl eI p1.1 p1.2)] = some (zP r) := by
 unfold zGb at h
 refine zi h (fun v1 h2 g1 => ?_)
 refine zm g1 (fun h3 g2 => ?_) (fun h3 g2 => ?_)
 ·refine zi g2 (fun v4 h5 g3 => ?_)
  exact zt (g := zP) g3 (zqc [(6, 1, 1, .c (db v1)), (6, 1, 2, .q (xb true)), (6, 2, 0, .c (db v4))] [] (ob (zgb k p0 _ h2) (ob (o_b h3) (ob (zug k _ h5) ob0))) (by kernel_rfl))
 ·refine zi g2 (fun v4 h5 g3 => ?_)
  refine zi g3 (fun v6 h7 g4 => ?_)
  refine zi g4 (fun v8 h9 g5 => ?_)
  refine zm g5 (fun h10 g6 => ?_) (fun h10 g6 => ?_)
  ·subst h10
   exact zt (g := zP) g6 (zqc [(6, 1, 1, .c (db v1)), (6, 1, 2, .q (xb false)), (6, 3, 2, .c (.tup [(dl eI v4.1.1 v4.1.2), (db v4.2)])), (6, 4, 2, .c (.tup [(db v6.1), (di v6.2)]))] [(6, 1000005, (.nor, zC p0 p1 v4 v6 true))] (ob (zgb k p0 _ h2) (ob (o_b h3) (ob (ztb k p0 p1 _ h5) (ob (zE k p0 v4.1 _ h7) (ob (zS k p0 p1 v4 v6 _ h9) ob0))))) (by kernel_rfl))
  ·subst h10
   refine zm g6 (fun h11 g7 => ?_) (fun h11 g7 => ?_)
   ·refine zi g7 (fun v12 h13 g8 => ?_)
    exact zt (g := zP) g8 (zqc [(6, 1, 1, .c (db v1)), (6, 1, 2, .q (xb false)), (6, 3, 2, .c (.tup [(dl eI v4.1.1 v4.1.2), (db v4.2)])), (6, 4, 2, .c (.tup [(db v6.1), (di v6.2)])), (6, 7, 1, .q (xb true)), (6, 8, 0, .c (db v12))] [(6, 1000005, (.nor, zC p0 p1 v4 v6 false))] (ob (zgb k p0 _ h2) (ob (o_b h3) (ob (ztb k p0 p1 _ h5) (ob (zE k p0 v4.1 _ h7) (ob (zS k p0 p1 v4 v6 _ h9) (ob (o_b h11) (ob (zug k _ h13) ob0))))))) (by kernel_rfl))
   ·refine zi g7 (fun v12 h13 g8 => ?_)
    refine zi g8 (fun v14 h15 g9 => ?_)
    refine zi g9 (fun v16 h17 g10 => ?_)
    refine zi g10 (fun v18 h19 g11 => ?_)
    refine zm g11 (fun h20 g12 => ?_) (fun h20 g12 => ?_)
    ·subst h20
     exact zt (g := zP) g12 (zqc [(6, 1, 1, .c (db v1)), (6, 1, 2, .q (xb false)), (6, 3, 2, .c (.tup [(dl eI v4.1.1 v4.1.2), (db v4.2)])), (6, 4, 2, .c (.tup [(db v6.1), (di v6.2)])), (6, 7, 1, .q (xb false)), (6, 9, 1, .c (.tup [(di v12.1), (di v12.2)])), (6, 10, 1, .c (.tup [(di v14.1), (di v14.2)])), (6, 11, 1, .c (.tup [(dl (eL eI) v16.1.1 v16.1.2), (di v16.2)]))] [(6, 1000005, (.nor, zC p0 p1 v4 v6 false)), (6, 1000012, (.nor, zB p0 p1 v4 v6 v12 v14 v16 true))] (ob (zgb k p0 _ h2) (ob (o_b h3) (ob (ztb k p0 p1 _ h5) (ob (zE k p0 v4.1 _ h7) (ob (zS k p0 p1 v4 v6 _ h9) (ob (o_b h11) (ob (zQ k p0 _ h13) (ob (zK k p0 _ h15) (ob (zJ k p0 _ h17) (ob (zeb k p0 p1 v4 v6 v12 v14 v16 _ h19) ob0)))))))))) (by kernel_rfl))
    ·subst h20
     refine zi g12 (fun v21 h22 g13 => ?_)
     refine zJb g13 (fun v24 hh g14_0 => ?_) (fun v24 hh g14_0 => ?_)
     ·subst hh
      exact zt (g := zP) g14_0 (zqc [(6, 1, 1, .c (db v1)), (6, 1, 2, .q (xb false)), (6, 3, 2, .c (.tup [(dl eI v4.1.1 v4.1.2), (db v4.2)])), (6, 4, 2, .c (.tup [(db v6.1), (di v6.2)])), (6, 7, 1, .q (xb false)), (6, 9, 1, .c (.tup [(di v12.1), (di v12.2)])), (6, 10, 1, .c (.tup [(di v14.1), (di v14.2)])), (6, 11, 1, .c (.tup [(dl (eL eI) v16.1.1 v16.1.2), (di v16.2)]))] [(6, 1000005, (.nor, zC p0 p1 v4 v6 false)), (6, 1000012, (.nor, zB p0 p1 v4 v6 v12 v14 v16 false)), (6, 0, (.ret, zCd p0 p1 v4 v6 v12 v14 v16 v24))] (ob (zgb k p0 _ h2) (ob (o_b h3) (ob (ztb k p0 p1 _ h5) (ob (zE k p0 v4.1 _ h7) (ob (zS k p0 p1 v4 v6 _ h9) (ob (o_b h11) (ob (zQ k p0 _ h13) (ob (zK k p0 _ h15) (ob (zJ k p0 _ h17) (ob (zeb k p0 p1 v4 v6 v12 v14 v16 _ h19) (ob (zu (id := 0) (r' := (.ret, zCd p0 p1 v4 v6 v12 v14 v16 v24)) (znc (zwb k p0 p1 v4 v6 v12 v14 v16) k _ _ h22) rfl) ob0))))))))))) (by kernel_rfl))
     ·subst hh
      refine zi g14_0 (fun v25 h26 g15 => ?_)
      refine zJb g15 (fun v28 hh g16_0 => ?_) (fun w15_0 hh g16_0 => ?_)
      ·subst hh
       exact zt (g := zP) g16_0 (zqc [(6, 1, 1, .c (db v1)), (6, 1, 2, .q (xb false)), (6, 3, 2, .c (.tup [(dl eI v4.1.1 v4.1.2), (db v4.2)])), (6, 4, 2, .c (.tup [(db v6.1), (di v6.2)])), (6, 7, 1, .q (xb false)), (6, 9, 1, .c (.tup [(di v12.1), (di v12.2)])), (6, 10, 1, .c (.tup [(di v14.1), (di v14.2)])), (6, 11, 1, .c (.tup [(dl (eL eI) v16.1.1 v16.1.2), (di v16.2)]))] [(6, 1000005, (.nor, zC p0 p1 v4 v6 false)), (6, 1000012, (.nor, zB p0 p1 v4 v6 v12 v14 v16 false)), (6, 0, (.nor, zL p0 p1 v4 v6 v12 v14 v16 v24)), (6, 4, (.ret, zwd p0 p1 v4 v6 v12 v14 v16 v24 v28))] (ob (zgb k p0 _ h2) (ob (o_b h3) (ob (ztb k p0 p1 _ h5) (ob (zE k p0 v4.1 _ h7) (ob (zS k p0 p1 v4 v6 _ h9) (ob (o_b h11) (ob (zQ k p0 _ h13) (ob (zK k p0 _ h15) (ob (zJ k p0 _ h17) (ob (zeb k p0 p1 v4 v6 v12 v14 v16 _ h19) (ob (zu (id := 0) (r' := (.nor, zL p0 p1 v4 v6 v12 v14 v16 v24)) (znc (zwb k p0 p1 v4 v6 v12 v14 v16) k _ _ h22) rfl) (ob (zu (id := 4) (r' := (.ret, zwd p0 p1 v4 v6 v12 v14 v16 v24 v28)) (zQb (z7b k p0 p1 v4 v6 v12 v14 v16 v24) k _ _ h26) rfl) ob0)))))))))))) (by kernel_rfl))
      ·subst hh
       refine zJb g16_0 (fun v28 hh g16_1 => ?_) (fun v28 hh g16_1 => ?_)
       ·subst hh
        exact zt (g := zP) g16_1 (zqc [(6, 1, 1, .c (db v1)), (6, 1, 2, .q (xb false)), (6, 3, 2, .c (.tup [(dl eI v4.1.1 v4.1.2), (db v4.2)])), (6, 4, 2, .c (.tup [(db v6.1), (di v6.2)])), (6, 7, 1, .q (xb false)), (6, 9, 1, .c (.tup [(di v12.1), (di v12.2)])), (6, 10, 1, .c (.tup [(di v14.1), (di v14.2)])), (6, 11, 1, .c (.tup [(dl (eL eI) v16.1.1 v16.1.2), (di v16.2)]))] [(6, 1000005, (.nor, zC p0 p1 v4 v6 false)), (6, 1000012, (.nor, zB p0 p1 v4 v6 v12 v14 v16 false)), (6, 0, (.nor, zL p0 p1 v4 v6 v12 v14 v16 v24)), (6, 4, (.ret, znd p0 p1 v4 v6 v12 v14 v16 v24 v28))] (ob (zgb k p0 _ h2) (ob (o_b h3) (ob (ztb k p0 p1 _ h5) (ob (zE k p0 v4.1 _ h7) (ob (zS k p0 p1 v4 v6 _ h9) (ob (o_b h11) (ob (zQ k p0 _ h13) (ob (zK k p0 _ h15) (ob (zJ k p0 _ h17) (ob (zeb k p0 p1 v4 v6 v12 v14 v16 _ h19) (ob (zu (id := 0) (r' := (.nor, zL p0 p1 v4 v6 v12 v14 v16 v24)) (znc (zwb k p0 p1 v4 v6 v12 v14 v16) k _ _ h22) rfl) (ob (zu (id := 4) (r' := (.ret, znd p0 p1 v4 v6 v12 v14 v16 v24 v28)) (zQb (z7b k p0 p1 v4 v6 v12 v14 v16 v24) k _ _ h26) rfl) ob0)))))))))))) (by kernel_rfl))
       ·subst hh
        refine zm g16_1 (fun h29 g17 => ?_) (fun h29 g17 => ?_)
        ·refine zi g17 (fun v30 h31 g18 => ?_)
         exact zt (g := zP) g18 (zqc [(6, 1, 1, .c (db v1)), (6, 1, 2, .q (xb false)), (6, 3, 2, .c (.tup [(dl eI v4.1.1 v4.1.2), (db v4.2)])), (6, 4, 2, .c (.tup [(db v6.1), (di v6.2)])), (6, 7, 1, .q (xb false)), (6, 9, 1, .c (.tup [(di v12.1), (di v12.2)])), (6, 10, 1, .c (.tup [(di v14.1), (di v14.2)])), (6, 11, 1, .c (.tup [(dl (eL eI) v16.1.1 v16.1.2), (di v16.2)])), (6, 35, 2, .q (xi (v4.1.1.length : Int))), (6, 35, 4, .q (xb true)), (6, 35, 5, .c (db v30))] [(6, 1000005, (.nor, zC p0 p1 v4 v6 false)), (6, 1000012, (.nor, zB p0 p1 v4 v6 v12 v14 v16 false)), (6, 0, (.nor, zL p0 p1 v4 v6 v12 v14 v16 v24)), (6, 4, (.nor, zrb p0 p1 v4 v6 v12 v14 v16 v24 v28))] (ob (zgb k p0 _ h2) (ob (o_b h3) (ob (ztb k p0 p1 _ h5) (ob (zE k p0 v4.1 _ h7) (ob (zS k p0 p1 v4 v6 _ h9) (ob (o_b h11) (ob (zQ k p0 _ h13) (ob (zK k p0 _ h15) (ob (zJ k p0 _ h17) (ob (zeb k p0 p1 v4 v6 v12 v14 v16 _ h19) (ob (zu (id := 0) (r' := (.nor, zL p0 p1 v4 v6 v12 v14 v16 v24)) (znc (zwb k p0 p1 v4 v6 v12 v14 v16) k _ _ h22) rfl) (ob (zu (id := 4) (r' := (.nor, zrb p0 p1 v4 v6 v12 v14 v16 v24 v28)) (zQb (z7b k p0 p1 v4 v6 v12 v14 v16 v24) k _ _ h26) rfl) (ob (zp eI v4.1.1) (ob (o_b h29) (ob (zug k _ h31) ob0))))))))))))))) (by kernel_rfl))
        ·exact zt (g := zP) g17 (zqc [(6, 1, 1, .c (db v1)), (6, 1, 2, .q (xb false)), (6, 3, 2, .c (.tup [(dl eI v4.1.1 v4.1.2), (db v4.2)])), (6, 4, 2, .c (.tup [(db v6.1), (di v6.2)])), (6, 7, 1, .q (xb false)), (6, 9, 1, .c (.tup [(di v12.1), (di v12.2)])), (6, 10, 1, .c (.tup [(di v14.1), (di v14.2)])), (6, 11, 1, .c (.tup [(dl (eL eI) v16.1.1 v16.1.2), (di v16.2)])), (6, 35, 2, .q (xi (v4.1.1.length : Int))), (6, 35, 4, .q (xb false))] [(6, 1000005, (.nor, zC p0 p1 v4 v6 false)), (6, 1000012, (.nor, zB p0 p1 v4 v6 v12 v14 v16 false)), (6, 0, (.nor, zL p0 p1 v4 v6 v12 v14 v16 v24)), (6, 4, (.nor, zrb p0 p1 v4 v6 v12 v14 v16 v24 v28))] (ob (zgb k p0 _ h2) (ob (o_b h3) (ob (ztb k p0 p1 _ h5) (ob (zE k p0 v4.1 _ h7) (ob (zS k p0 p1 v4 v6 _ h9) (ob (o_b h11) (ob (zQ k p0 _ h13) (ob (zK k p0 _ h15) (ob (zJ k p0 _ h17) (ob (zeb k p0 p1 v4 v6 v12 v14 v16 _ h19) (ob (zu (id := 0) (r' := (.nor, zL p0 p1 v4 v6 v12 v14 v16 v24)) (znc (zwb k p0 p1 v4 v6 v12 v14 v16) k _ _ h22) rfl) (ob (zu (id := 4) (r' := (.nor, zrb p0 p1 v4 v6 v12 v14 v16 v24 v28)) (zQb (z7b k p0 p1 v4 v6 v12 v14 v16 v24) k _ _ h26) rfl) (ob (zp eI v4.1.1) (ob (o_b h29) ob0)))))))))))))) (by kernel_rfl))
end Go.AM

namespace Go.AM
open Go
def Ok {α : Type} (o : Option α) (Q : α → Prop) : Prop := ∃ a, o = some a ∧ Q a
section
variable {α β : Type}
theorem Ok.pure {a : α} {Q : α → Prop} (h : Q a) : Ok (some a) Q := ⟨a, rfl, h⟩
theorem Ok.bind {o : Option α} {g : α → Option β} {P : α → Prop} {Q : β → Prop} (h : Ok o P) (hg : ∀ a, P a → Ok (g a) Q) : Ok (o.bind g) Q := by
 obtain ⟨a, rfl, ha⟩ := h
 exact hg a ha
theorem Ok.mono {o : Option α} {P Q : α → Prop} (h : Ok o P) (hq : ∀ a, P a → Q a) : Ok o Q := by
 obtain ⟨a, ha, hp⟩ := h
 exact ⟨a, ha, hq a hp⟩
theorem Ok.cond {b : Bool} {x y : Option α} {Q : α → Prop} (ht : b = true → Ok x Q) (hf : b = false → Ok y Q) : Ok (cond b x y) Q := by
 cases b
 ·exact hf rfl
 ·exact ht rfl
theorem Ok.eq {o : Option α} {a : α} (h : Ok o (· = a)) : o = some a := by
 obtain ⟨b, hb, rfl⟩ := h
 exact hb
theorem Ok.imp {o : Option α} {a : α} {Q : α → Prop} (h : Ok o Q) (ho : o = some a) : Q a := by
 obtain ⟨b, hb, hq⟩ := h
 rw [ho] at hb; cases hb; exact hq
theorem Ok.iter {S R : Type} {f : S → Option (S ⊕ R)} {Q : R → Prop} (I : Nat → S → Prop) (n : Nat)
  (h : ∀ j s, j ≤ n → I j s → Ok (f s) (fun x => match x with
   | .inl s' => j < n ∧ I (j + 1) s'
   | .inr r => Q r)) {k : Nat} {s : S} (h0 : I 0 s) (hk : n < k) : Ok (Go.AM.iter f k s) Q := by
 suffices ∀ m j s, j + m = n → I j s → ∀ k, m < k → Ok (Go.AM.iter f k s) Q from this n 0 s (by omega) h0 k hk
 intro m
 induction m with
 | zero =>
  intro j s hj hi k hk
  obtain ⟨k, rfl⟩ : ∃ k', k = k' + 1 := ⟨k - 1, by omega⟩
  obtain ⟨x, hx, hq⟩ := h j s (by omega) hi
  cases x with
  | inl s' => exact absurd hq.1 (by omega)
  | inr r => exact ⟨r, by simp [Go.AM.iter, hx], hq⟩
 | succ m ih =>
  intro j s hj hi k hk
  obtain ⟨k, rfl⟩ : ∃ k', k = k' + 1 := ⟨k - 1, by omega⟩
  obtain ⟨x, hx, hq⟩ := h j s (by omega) hi
  cases x with
  | inl s' =>
   obtain ⟨r, hr, hq'⟩ := ih (j + 1) s' (by omega) hq.2 k (by omega)
   exact ⟨r, by simp [Go.AM.iter, hx, hr], hq'⟩
  | inr r => exact ⟨r, by simp [Go.AM.iter, hx], hq⟩
def Goes {S R : Type} (I : S → Prop) (Q : R → Prop) : S ⊕ R → Prop
 | .inl s => I s
 | .inr r => Q r
theorem Ok.count {S R : Type} {f : S → Option (S ⊕ R)} {Q : R → Prop} (n : Nat) (I : Nat → S → Prop)
  (next : ∀ j s, j < n → I j s → Ok (f s) (Goes (I (j + 1)) Q))
  (last : ∀ s, I n s → Ok (f s) (Goes (fun _ => False) Q)) {k : Nat} {s : S} (h0 : I 0 s) (hk : n < k) : Ok (Go.AM.iter f k s) Q := by
 refine Ok.iter I n (fun j s hj hi => ?_) h0 hk
 by_cases h : j < n
 ·refine (next j s h hi).mono fun x hx => ?_
  cases x with
  | inl s' => exact ⟨h, hx⟩
  | inr r => exact hx
 ·obtain rfl : j = n := by omega
  refine (last s hi).mono fun x hx => ?_
  cases x with
  | inl s' => exact hx.elim
  | inr r => exact hx
theorem Ok.everyW {α : Type} {f : Bool × Int → Option ((Bool × Int) ⊕ (Bool × Int))} (l : List α) (p : α → Prop)
  (next : ∀ (j : Nat) (h : j < l.length), Ok (f (true, (j : Int))) (fun x => ∃ r, x = .inl (r, ((j + 1 : Nat) : Int)) ∧ (r = true ↔ p l[j])))
  (out : ∀ i, f (false, i) = some (.inr (false, i)))
  (last : f (true, (l.length : Int)) = some (.inr (true, (l.length : Int)))) {k : Nat} {acc : Bool} (hk : l.length < k) :
  Ok (Go.AM.iter f k (acc, 0)) (fun r => r.1 = true ↔ acc = true ∧ ∀ x ∈ l, p x) := by
 refine Ok.count l.length (fun j s => s.2 = (j : Int) ∧ (s.1 = true ↔ acc = true ∧ ∀ x ∈ l.take j, p x)) ?_ ?_ ⟨rfl, by simp⟩ hk
 ·rintro j ⟨a, i⟩ hj ⟨hi, ha⟩
  obtain rfl : i = (j : Int) := hi
  cases a with
  | false =>
   rw [out]
   refine Ok.pure ?_
   constructor
   ·intro h; cases h
   ·rintro ⟨h1, h2⟩
    exact ha.2 ⟨h1, fun x hx => h2 x (List.mem_of_mem_take hx)⟩
  | true =>
   refine (next j hj).mono ?_
   rintro x ⟨r, rfl, hr⟩
   refine ⟨rfl, hr.trans ?_⟩
   rw [List.take_succ_eq_append_getElem hj]
   simp only [List.mem_append, List.mem_singleton]
   obtain ⟨h1, h2⟩ := ha.1 rfl
   constructor
   ·intro h3
    exact ⟨h1, fun x hx => hx.elim (h2 x) fun e => e ▸ h3⟩
   ·rintro ⟨_, h2⟩
    exact h2 _ (.inr rfl)
 ·rintro ⟨a, i⟩ ⟨hi, ha⟩
  obtain rfl : i = (l.length : Int) := hi
  cases a with
  | false => rw [out]; refine Ok.pure ?_; simpa [Goes] using ha
  | true => rw [last]; refine Ok.pure ?_; simpa [Goes] using ha
end
theorem zfd {n : Int} (h1 : -9223372036854775808 ≤ n) (h2 : n ≤ 9223372036854775807) : w64 n = n := by
 have hd : w64 n = if n % 18446744073709551616 ≥ 9223372036854775808 then n % 18446744073709551616 - 18446744073709551616 else n % 18446744073709551616 := by
  show IntKind.wrap .i64 n = _
  have e : IntKind.wrap .i64 n = if (true && decide (n % 18446744073709551616 ≥ 9223372036854775808)) = true then n % 18446744073709551616 - 18446744073709551616 else n % 18446744073709551616 := rfl
  rw [e]
  simp
 rw [hd]
 split <;> omega
theorem zIu {α : Type} {l : List α} {i : Int} (h0 : 0 ≤ i) (h : i.toNat < l.length) : idx l i = some l[i.toNat] := by
 simp [idx, h0, List.getElem?_eq_getElem h]
theorem zR {α : Type} {l : List α} {i : Nat} (h : i < l.length) : idx l (i : Int) = some l[i] := by
 simp [idx, List.getElem?_eq_getElem h]
open Classical in
theorem zxq {κ ν : Type} {q : κ → κ → Bool} (hq : ∀ a b, q a b = true ↔ a = b) (k k' : κ) (v : ν) : ∀ m, zH q k' (mset q k v m) = if k' = k then some v else zH q k' m
 | [] => by
  simp only [mset, zH]
  by_cases h : k' = k
  ·rw [(hq k' k).2 h, if_pos h]; rfl
  ·have : q k' k = false := by cases hb : q k' k; rfl; exact absurd ((hq _ _).1 hb) h
   rw [this, if_neg h]; rfl
 | p :: t => by
  have ih := zxq hq k k' v t
  simp only [mset]
  cases hk : q k p.1 with
  | true =>
   have hk' := (hq _ _).1 hk
   simp only [cond_true, zH]
   by_cases h : k' = k
   ·rw [if_pos h, h, hk]; rfl
   ·have : q k' p.1 = false := by cases hb : q k' p.1; rfl; exact absurd ((hq _ _).1 hb) (by rw [← hk']; exact h)
    rw [this, if_neg h]; rfl
  | false =>
   simp only [cond_false, zH]
   cases hp : q k' p.1 with
   | true =>
    by_cases h : k' = k
    ·rw [h, hk] at hp; cases hp
    ·rw [if_neg h]; rfl
   | false => exact ih
theorem zRt (f g : Nat → Bool) : ∀ n i, eqB f g i n = true ↔ ∀ j, i ≤ j → j < i + n → f j = g j
 | 0, i => by simp [eqB]; omega
 | n + 1, i => by
  simp only [eqB, Bool.and_eq_true, zRt f g n (i + 1), beq_iff_eq]
  constructor
  ·rintro ⟨h0, h⟩ j h1 h2
   by_cases hj : j = i
   ·rw [hj]; exact h0
   ·exact h j (by omega) (by omega)
  ·intro h
   exact ⟨h i (by omega) (by omega), fun j h1 h2 => h j (by omega) (by omega)⟩
end Go.AM
set_option linter.unusedVariables false
namespace Go.AM
open Go
theorem zIo {α : Type} {R : α → α → Prop} (asymm : ∀ a b, R a b → R b a → False) : ∀ {l l' : List α}, l.Pairwise R → l'.Pairwise R → (∀ x, x ∈ l ↔ x ∈ l') → l = l'
 | [], [], _, _, _ => rfl
 | [], b :: t, _, _, h => by have := (h b).2 (by simp); simp at this
 | a :: t, [], _, _, h => by have := (h a).1 (by simp); simp at this
 | a :: t, b :: u, h1, h2, h => by
  obtain ⟨h3, h4⟩ := List.pairwise_cons.1 h1
  obtain ⟨h5, h6⟩ := List.pairwise_cons.1 h2
  have irr : ∀ x, ¬ R x x := fun x hx => asymm x x hx hx
  have e : a = b := by
   rcases List.mem_cons.1 ((h a).1 (by simp)) with e | e
   ·exact e
   ·rcases List.mem_cons.1 ((h b).2 (by simp)) with e' | e'
    ·exact e'.symm
    ·exact (asymm _ _ (h3 b e') (h5 a e)).elim
  subst e
  congr 1
  refine zIo asymm h4 h6 fun x => ⟨fun hx => ?_, fun hx => ?_⟩
  ·rcases List.mem_cons.1 ((h x).1 (by simp [hx])) with rfl | e
   ·exact absurd (h3 x hx) (irr x)
   ·exact e
  ·rcases List.mem_cons.1 ((h x).2 (by simp [hx])) with rfl | e
   ·exact absurd (h5 x hx) (irr x)
   ·exact e
def zvo (lim : List Int → Nat) (ok : List Int → Int → Prop) (p : List Int) (w : Int) : Prop := 0 ≤ w ∧ w < lim p ∧ ok p w
open Classical in
noncomputable def subs (lim : List Int → Nat) (ok : List Int → Int → Prop) : Nat → List Int → List (List Int)
 | 0, p => [p]
 | t + 1, p => (List.range (lim p)).flatMap fun (w : Nat) => if ok p (w : Int) then subs lim ok t (p ++ [(w : Int)]) else []
def zMx (lim : List Int → Nat) (ok : List Int → Int → Prop) (t : Nat) (p q : List Int) : Prop :=
 q.length = p.length + t ∧ q.take p.length = p ∧ ∀ i x, p.length ≤ i → q[i]? = some x → zvo lim ok (q.take i) x
theorem zsq {lim : List Int → Nat} {ok : List Int → Int → Prop} : ∀ (t : Nat) (p q : List Int), q ∈ subs lim ok t p ↔ zMx lim ok t p q
 | 0, p, q => by
  unfold subs
  rw [List.mem_singleton]
  constructor
  ·rintro rfl
   refine ⟨rfl, by rw [List.take_length], fun i x hi hx => ?_⟩
   have := (List.getElem?_eq_some_iff.1 hx).1
   omega
  ·rintro ⟨h1, h2, _⟩
   rw [← h2, List.take_of_length_le (by omega)]
 | t + 1, p, q => by
  unfold subs
  rw [List.mem_flatMap]
  constructor
  ·rintro ⟨w, hw, hq⟩
   have hw := List.mem_range.1 hw
   split at hq
   ·rename_i hok
    obtain ⟨h1, h2, h3⟩ := (zsq t _ q).1 hq
    have hlen : (p ++ [(w : Int)]).length = p.length + 1 := by simp
    rw [hlen] at h1 h2 h3
    have h4 : q.take p.length = p := by
     have := congrArg (List.take p.length) h2
     rw [List.take_take, Nat.min_eq_left (by omega)] at this
     rw [this]; simp
    have h5 : q[p.length]? = some (w : Int) := by
     have := congrArg (fun l => l[p.length]?) h2
     simpa [List.getElem?_take] using this
    refine ⟨by omega, h4, fun i x hi hx => ?_⟩
    by_cases e : i = p.length
    ·subst e
     rw [h5] at hx
     cases hx
     rw [h4]
     exact ⟨by omega, by exact_mod_cast hw, hok⟩
    ·exact h3 i x (by omega) hx
   ·simp at hq
  ·rintro ⟨h1, h2, h3⟩
   have hlt : p.length < q.length := by omega
   have hx := List.getElem?_eq_getElem hlt
   obtain ⟨g1, g2, g3⟩ := h3 _ _ (Nat.le_refl _) hx
   rw [h2] at g2 g3
   generalize q[p.length] = x at *
   obtain ⟨w, rfl⟩ : ∃ w : Nat, x = w := ⟨x.toNat, by omega⟩
   refine ⟨w, List.mem_range.2 (by exact_mod_cast g2), ?_⟩
   rw [if_pos g3]
   refine (zsq t _ q).2 ⟨by simp; omega, ?_, fun i x hi hx => h3 i x (by simp at hi; omega) hx⟩
   have hl : (p ++ [(w : Int)]).length = p.length + 1 := by simp
   rw [hl]
   obtain ⟨hlt', he⟩ := List.getElem?_eq_some_iff.1 hx
   rw [List.take_succ_eq_append_getElem hlt', h2, he]
end Go.AM
set_option linter.unusedVariables false
namespace Go.AM
open Go
theorem z1d (c x : Bool) : cond c (some x) (some false) = some (c && x) := by cases c <;> rfl
theorem zzt (c x : Bool) : cond c (some true) (some x) = some (c || x) := by cases c <;> rfl
theorem z5f {j n : Nat} (h : j < n) (hn : n < 9223372036854775808) : w64 ((j : Int) + 1) = ((j + 1 : Nat) : Int) := by
 rw [zfd (by omega) (by omega)]; push_cast; rfl
theorem zXp {n : Nat} (hn : n < 9223372036854775808) : w64 ((n : Int) - 1) = (n : Int) - 1 := zfd (by omega) (by omega)
theorem zub {α : Type} {j : Nat} {l : List α} (h : j < l.length) : decide ((j : Int) < (l.length : Int)) = true := by simp; omega
theorem zLd {α : Type} {l : List α} : decide ((l.length : Int) < (l.length : Int)) = false := by simp
theorem w8 {j : Nat} (h : j < 9) : w64 ((j : Int) + 1) = ((j + 1 : Nat) : Int) := z5f h (by omega)
theorem Ok.everyI {α : Type} {f : Bool × Int → Option ((Bool × Int) ⊕ (Bool × Int))} (l : List α) (p : Nat → α → Prop)
  (next : ∀ acc (j : Nat) (h : j < l.length), Ok (f (acc, (j : Int))) (fun x => ∃ r, x = .inl (r, ((j + 1 : Nat) : Int)) ∧ (r = true ↔ acc = true ∧ p j l[j])))
  (last : ∀ acc, f (acc, (l.length : Int)) = some (.inr (acc, (l.length : Int)))) {k : Nat} {acc : Bool} (hk : l.length < k) :
  Ok (Go.AM.iter f k (acc, 0)) (fun r => r.1 = true ↔ acc = true ∧ ∀ j (h : j < l.length), p j l[j]) := by
 refine Ok.count l.length (fun j s => s.2 = (j : Int) ∧ (s.1 = true ↔ acc = true ∧ ∀ i (h : i < l.length), i < j → p i l[i])) ?_ ?_ ⟨rfl, by simp⟩ hk
 ·rintro j ⟨a, i⟩ hj ⟨hi, ha⟩
  obtain rfl : i = (j : Int) := hi
  refine (next a j hj).mono ?_
  rintro x ⟨r, rfl, hr⟩
  refine ⟨rfl, hr.trans ?_⟩
  rw [ha]
  constructor
  ·rintro ⟨⟨h1, h2⟩, h3⟩
   refine ⟨h1, fun i h hij => ?_⟩
   by_cases e : i = j
   ·subst e; exact h3
   ·exact h2 i h (by omega)
  ·rintro ⟨h1, h2⟩
   exact ⟨⟨h1, fun i h hij => h2 i h (by omega)⟩, h2 j hj (by omega)⟩
 ·rintro ⟨a, i⟩ ⟨hi, ha⟩
  obtain rfl : i = (l.length : Int) := hi
  rw [last a]
  refine Ok.pure ?_
  show a = true ↔ _
  rw [ha]
  exact ⟨fun h => ⟨h.1, fun i hi => h.2 i hi hi⟩, fun h => ⟨h.1, fun i hi _ => h.2 i hi⟩⟩
def lt (b : za) (i : Nat) : zn := (b.Letters.1[i]?).getD ⟨0, 0, ⟨0, 0⟩, false, 0⟩
abbrev nL (b : za) : Nat := b.Letters.1.length
theorem zEz {b : za} {i : Nat} (h : i < nL b) : b.Letters.1[i] = lt b i := by
 unfold lt
 rw [List.getElem?_eq_getElem h]; rfl
theorem zTd {b : za} {i : Nat} (h : i < nL b) : idx b.Letters.1 (i : Int) = some (lt b i) := by
 rw [zR h, zEz h]
def dayB (b : za) : Nat → Int
 | 0 => 0
 | i + 1 => (lt b i).Day
def z9l (b : za) (i : Nat) (x : zn) : Prop :=
 (dayB b i ≤ x.Day ∧ x.Day ≤ 20000) ∧ (0 ≤ x.Place ∧ x.Place ≤ (b.Far.1.length : Int) - 1) ∧ (0 ≤ x.Born.Low ∧ x.Born.Low ≤ x.Born.High) ∧ x.Born.High ≤ 200 ∧ (0 ≤ x.Account ∧ x.Account ≤ 1000)
def zPp (b : za) (i : Nat) (r : SL Int) : Prop :=
 r.1.length = b.Far.1.length ∧ ∀ j (h : j < r.1.length), (0 ≤ r.1[j] ∧ r.1[j] ≤ 400) ∧ (i ≠ j ∨ r.1[j] = 0)
def zXm (b : za) (i : Nat) (p : Nat → Int) : Prop :=
 (0 ≤ p 0 ∧ p 0 ≤ w64 (p 1 - 1)) ∧ p 1 < (nL b : Int) ∧ ∀ q ∈ b.Apart.1.take i, ¬ (q 0 = p 0 ∧ q 1 = p 1)
structure Fine (b : za) : Prop where
 nletters : 1 ≤ nL b ∧ nL b ≤ 8
 nfar : 1 ≤ b.Far.1.length ∧ b.Far.1.length ≤ 6
 napart : b.Apart.1.length ≤ 8
 most : 1 ≤ b.Most ∧ b.Most ≤ 8
 letters : ∀ i, i < nL b → z9l b i (lt b i)
 rows : ∀ i (h : i < b.Far.1.length), zPp b i b.Far.1[i]
 apart : ∀ i (h : i < b.Apart.1.length), zXm b i b.Apart.1[i]
structure z2f (b : za) : Prop where
 letters : nL b < 9223372036854775808
 far : b.Far.1.length < 9223372036854775808
 rows : ∀ r ∈ b.Far.1, r.1.length < 9223372036854775808
 apart : b.Apart.1.length < 9223372036854775808
structure Fuel (k : Nat) (b : za) : Prop where
 k0 : 5000 < k
 letters : nL b < k
 far : b.Far.1.length < k
 rows : ∀ r ∈ b.Far.1, r.1.length < k
 apart : b.Apart.1.length < k
theorem zDj (k : Nat) (a b c : Int) : zT k a b c = some (decide (b ≤ a) && decide (a ≤ c)) := by
 simp only [zT, z1d]
theorem zHv (k : Nat) (b : za) : Ok (zHf k b) (fun r => r = true ↔ (1 ≤ nL b ∧ nL b ≤ 8) ∧ (1 ≤ b.Far.1.length ∧ b.Far.1.length ≤ 6) ∧ b.Apart.1.length ≤ 8 ∧ (1 ≤ b.Most ∧ b.Most ≤ 8)) := by
 simp only [zHf, zDj, Option.bind_some, z1d]
 refine Ok.pure ?_
 simp only [Bool.and_eq_true, decide_eq_true_eq, nL]
 omega
theorem zNv {k : Nat} {b : za} (hs : z2f b) (hk : Fuel k b) (acc : Bool) : Ok (iter (fun s => zje k b s.1 s.2.1 s.2.2) k (acc, 0, 0)) (fun r => r.1 = true ↔ acc = true ∧ ∀ i, i < nL b → z9l b i (lt b i)) := by
 refine Ok.count (nL b) (fun j s => s.2.2 = (j : Int) ∧ s.2.1 = dayB b j ∧ (s.1 = true ↔ acc = true ∧ ∀ i, i < j → z9l b i (lt b i))) ?_ ?_ ⟨rfl, rfl, by simp⟩ hk.letters
 ·rintro j ⟨a, d, i⟩ hj ⟨hi, hd, ha⟩
  obtain rfl : i = (j : Int) := hi
  obtain rfl : d = dayB b j := hd
  simp only [zje, z3g, zub hj, cond_true, zTd hj, zDj, Option.bind_some, z1d, zXp hs.far, z5f hj hs.letters]
  refine Ok.pure ⟨rfl, rfl, ?_⟩
  simp only [Bool.and_eq_true, decide_eq_true_eq]
  have ha' : a = true ↔ acc = true ∧ ∀ i, i < j → z9l b i (lt b i) := ha
  rw [ha']
  constructor
  ·rintro ⟨⟨h1, h2⟩, h3⟩
   refine ⟨h1, fun i hij => ?_⟩
   by_cases e : i = j
   ·subst e
    exact h3
   ·exact h2 i (by omega)
  ·rintro ⟨h1, h2⟩
   exact ⟨⟨h1, fun i hij => h2 i (by omega)⟩, h2 j (by omega)⟩
 ·rintro ⟨a, d, i⟩ ⟨hi, hd, ha⟩
  obtain rfl : i = (nL b : Int) := hi
  simp only [zje, zLd, cond_false]
  exact Ok.pure ha
theorem zpw {k : Nat} {b : za} (hs : z2f b) (hk : Fuel k b) (v : Bool × Int × Int) (acc : Bool) : Ok (iter (fun s => zhe k b v s.1 s.2) k (acc, 0)) (fun r => r.1 = true ↔ acc = true ∧ ∀ i (h : i < b.Far.1.length), zPp b i b.Far.1[i]) := by
 refine Ok.everyI b.Far.1 (zPp b) (fun a j hj => ?_) (fun a => by simp [zhe]) hk.far
 have hrow := List.getElem_mem hj
 simp only [zhe, zub hj, cond_true, zR hj, Option.bind_some, zHg, z1d]
 refine Ok.bind (Ok.everyI b.Far.1[j].1 (fun i n => (0 ≤ n ∧ n ≤ 400) ∧ (j ≠ i ∨ n = 0)) (fun a' i hi => ?_) (fun a' => by simp [z5e]) (hk.rows _ hrow)) fun r hr => ?_
 ·simp only [z5e, zKg, zub hi, cond_true, zR hi, Option.bind_some, zDj, zzt, z1d, z5f hi (hs.rows _ hrow)]
  refine Ok.pure ⟨_, rfl, ?_⟩
  simp only [Bool.and_eq_true, Bool.or_eq_true, decide_eq_true_eq, bne_iff_ne, beq_iff_eq, ne_eq]
  have e : ((j : Int) = (i : Int)) ↔ j = i := by omega
  rw [e]
 ·refine Ok.pure ⟨r.1, by rw [z5f hj hs.far], ?_⟩
  rw [hr]
  simp only [Bool.and_eq_true, beq_iff_eq, zPp]
  constructor
  ·rintro ⟨⟨h1, h2⟩, h3⟩
   exact ⟨h1, by omega, h3⟩
  ·rintro ⟨h1, h2, h3⟩
   exact ⟨⟨h1, by omega⟩, h3⟩
theorem zIw (f g : Nat → Int) : eqI f g 0 2 = true ↔ f 0 = g 0 ∧ f 1 = g 1 := by
 simp [eqI]
theorem zOs {k : Nat} {l : SL (Nat → Int)} (p : Nat → Int) (hk : l.1.length < k) (hs : l.1.length < 9223372036854775808) : Ok (z8b k l p) (fun r => r = true ↔ ∃ q ∈ l.1, q 0 = p 0 ∧ q 1 = p 1) := by
 unfold z8b zge
 refine Ok.bind (P := fun v : Int => 0 ≤ v ↔ ∃ q ∈ l.1, q 0 = p 0 ∧ q 1 = p 1) (Ok.bind (Ok.count l.1.length (fun j s => s = (j : Int) ∧ ¬ ∃ q ∈ l.1.take j, q 0 = p 0 ∧ q 1 = p 1) (Q := fun r : Int ⊕ Int => match r with
  | .inl z => 0 ≤ z ∧ ∃ q ∈ l.1, q 0 = p 0 ∧ q 1 = p 1
  | .inr _ => ¬ ∃ q ∈ l.1, q 0 = p 0 ∧ q 1 = p 1) ?_ ?_ ⟨rfl, by simp⟩ hk) fun r hr => ?_) fun v hv => ?_
 ·rintro j s hj ⟨rfl, hg⟩
  simp only [z9b, zub hj, cond_true, zR hj, Option.bind_some, z5f hj hs]
  cases c : eqI p l.1[j] 0 2 with
  | true =>
   have := (zIw _ _).1 c
   exact Ok.pure ⟨by omega, _, List.getElem_mem hj, this.1.symm, this.2.symm⟩
  | false =>
   refine Ok.pure ⟨rfl, ?_⟩
   rw [List.take_succ_eq_append_getElem hj]
   rintro ⟨q, hq, h⟩
   rcases List.mem_append.1 hq with hq | hq
   ·exact hg ⟨q, hq, h⟩
   ·rw [List.mem_singleton] at hq
    subst hq
    rw [(zIw _ _).2 ⟨h.1.symm, h.2.symm⟩] at c
    cases c
 ·rintro s ⟨rfl, hg⟩
  simp only [z9b, zLd, cond_false]
  rw [List.take_length] at hg
  exact Ok.pure hg
 ·cases r with
  | inl z => exact Ok.pure ⟨fun _ => hr.2, fun _ => hr.1⟩
  | inr z => exact Ok.pure ⟨fun h => absurd h (by decide), fun h => absurd h hr⟩
 ·refine Ok.pure ?_
  rw [decide_eq_true_eq]
  exact hv
theorem zRu {k : Nat} {b : za} (hs : z2f b) (hk : Fuel k b) (v : Bool × Int × Int) (v' : Bool × Int) (acc : Bool) : Ok (iter (fun s => zQd k b v v' s.1 s.2) k (acc, 0)) (fun r => r.1 = true ↔ acc = true ∧ ∀ i (h : i < b.Apart.1.length), zXm b i b.Apart.1[i]) := by
 refine Ok.everyI b.Apart.1 (zXm b) (fun a j hj => ?_) (fun a => by simp [zQd]) hk.apart
 simp only [zQd, zub hj, cond_true, zR hj, Option.bind_some, z5f hj hs.apart]
 refine Ok.bind (P := fun v : Bool => v = true ↔ a = true ∧ zXm b j b.Apart.1[j]) ?_ fun v hv => Ok.pure ⟨_, rfl, hv⟩
 have c1 : (decide (0 ≤ (j : Int)) && decide ((j : Int) ≤ (b.Apart.1.length : Int))) = true := by simp; omega
 simp only [zzg, zDj, Option.bind_some, c1, cond_true, Int.toNat_natCast]
 have hlen : (b.Apart.1.take j).length ≤ b.Apart.1.length := by rw [List.length_take]; omega
 refine Ok.cond (fun ha => Ok.cond (fun hw => Ok.cond (fun hl => ?_) (fun hl => Ok.pure ?_)) (fun hw => Ok.pure ?_)) (fun ha => Ok.pure ?_)
 ·have := hk.apart
  have := hs.apart
  refine (zOs (l := (b.Apart.1.take j, _)) _ (show (b.Apart.1.take j).length < k by omega) (show (b.Apart.1.take j).length < _ by omega)).bind fun r hr => Ok.pure ?_
  simp only [Bool.and_eq_true, decide_eq_true_eq] at hw hl
  unfold zXm
  have hr' : (!r) = true ↔ ¬ ∃ q ∈ b.Apart.1.take j, q 0 = b.Apart.1[j] 0 ∧ q 1 = b.Apart.1[j] 1 := by
   rw [← hr]; cases r <;> simp
  rw [hr']
  constructor
  ·intro h
   exact ⟨ha, hw, hl, fun q hq e => h ⟨q, hq, e⟩⟩
  ·rintro ⟨_, _, _, h⟩ ⟨q, hq, e⟩
   exact h q hq e
 ·simp only [decide_eq_false_iff_not] at hl
  simp only [Bool.false_eq_true, false_iff]
  rintro ⟨_, _, h, _⟩
  exact hl h
 ·simp only [Bool.and_eq_false_iff, decide_eq_false_iff_not] at hw
  simp only [Bool.false_eq_true, false_iff]
  rintro ⟨_, h, _⟩
  rcases hw with hw | hw
  ·exact hw h.1
  ·exact hw h.2
 ·simp [ha]
theorem znm {k : Nat} {b : za} (hs : z2f b) (hk : Fuel k b) : Ok (z1b k b) (fun e => (e = 0 ∧ Fine b) ∨ (e = 80 ∧ ¬ Fine b)) := by
 unfold z1b
 refine (zHv k b).bind fun r1 h1 => ?_
 refine (zNv hs hk r1).bind fun r2 h2 => ?_
 refine (zpw hs hk r2 r2.1).bind fun r3 h3 => ?_
 refine (zRu hs hk r2 r3 r3.1).bind fun r4 h4 => ?_
 have h : r4.1 = true ↔ Fine b := by
  rw [h4, h3, h2, h1]
  constructor
  ·rintro ⟨⟨⟨⟨a1, a2, a3, a4⟩, a5⟩, a6⟩, a7⟩
   exact ⟨a1, a2, a3, a4, a5, a6, a7⟩
  ·rintro ⟨a1, a2, a3, a4, a5, a6, a7⟩
   exact ⟨⟨⟨⟨a1, a2, a3, a4⟩, a5⟩, a6⟩, a7⟩
 cases hb : r4.1 with
 | true => exact Ok.pure (.inl ⟨rfl, h.1 hb⟩)
 | false => exact Ok.pure (.inr ⟨rfl, fun hf => by rw [h.2 hf] at hb; cases hb⟩)
end Go.AM
set_option linter.unusedVariables false
namespace Go.AM
open Go
def AP (b : za) (x y : Int) : Prop := ∃ p ∈ b.Apart.1, p 0 = x ∧ p 1 = y
def zcm (b : za) (m : List (zl × Bool)) : Prop := ∀ x y, (zH zr ⟨x, y⟩ m).getD false = true ↔ AP b x y
theorem zTu (a b : zl) : zr a b = true ↔ a = b := by
 cases a
 cases b
 simp [zr]
theorem zpn {k : Nat} {b : za} (hs : b.Apart.1.length < 9223372036854775808) (hk : b.Apart.1.length < k) : Ok (z6b k b) (fun r => ∃ m, r = ⟨b, m⟩ ∧ zcm b m) := by
 unfold z6b
 refine Ok.bind (Ok.count b.Apart.1.length (fun j s => s.1 = (j : Int) ∧ ∀ x y, (zH zr ⟨x, y⟩ s.2).getD false = true ↔ ∃ p ∈ b.Apart.1.take j, p 0 = x ∧ p 1 = y) (Q := fun s => zcm b s.2) ?_ ?_ ⟨rfl, fun x y => by simp [zH]⟩ hk) fun r hr => Ok.pure ⟨_, rfl, hr⟩
 ·rintro j ⟨i, m⟩ hj ⟨hi, hm⟩
  obtain rfl : i = (j : Int) := hi
  simp only [zbf, zub hj, cond_true, zR hj, Option.bind_some, z5f hj hs]
  refine Ok.pure ⟨rfl, fun x y => ?_⟩
  show (zH zr ⟨x, y⟩ (mset zr ⟨b.Apart.1[j] 0, b.Apart.1[j] 1⟩ true m)).getD false = true ↔ _
  rw [zxq zTu, List.take_succ_eq_append_getElem hj]
  by_cases e : (⟨x, y⟩ : zl) = ⟨b.Apart.1[j] 0, b.Apart.1[j] 1⟩
  ·rw [if_pos e]
   cases e
   simp only [Option.getD_some, true_iff]
   exact ⟨_, List.mem_append.2 (.inr (List.mem_singleton.2 rfl)), rfl, rfl⟩
  ·rw [if_neg e]
   refine (hm x y).trans ⟨fun ⟨p, hp, h⟩ => ⟨p, List.mem_append.2 (.inl hp), h⟩, fun ⟨p, hp, h⟩ => ?_⟩
   rcases List.mem_append.1 hp with hp | hp
   ·exact ⟨p, hp, h⟩
   ·rw [List.mem_singleton] at hp
    subst hp
    rw [h.1, h.2] at e
    exact absurd rfl e
 ·rintro ⟨i, m⟩ ⟨hi, hm⟩
  obtain rfl : i = (b.Apart.1.length : Int) := hi
  simp only [zbf, zLd, cond_false]
  rw [List.take_length] at hm
  exact Ok.pure hm
def letN (p : Nat → Bool) : List Nat := (List.range 8).filter p
abbrev zxe (l : List Nat) : List Int := l.map fun (i : Nat) => (i : Int)
theorem zyc {p : Nat → Bool} {i : Nat} : i ∈ letN p ↔ i < 8 ∧ p i = true := by simp [letN]
theorem z0i (p : Nat → Bool) : (letN p).Pairwise (· < ·) := List.Pairwise.filter _ List.pairwise_lt_range
theorem ztj (p : Nat → Bool) : (letN p).length ≤ 8 := by
 have := List.length_filter_le p (List.range 8)
 rwa [List.length_range] at this
theorem zer {k : Nat} (hk : 100 < k) (p : Nat → Bool) : Ok (z3b k p) (fun r => r.1 = zxe (letN p)) := by
 unfold z3b
 refine Ok.bind (Ok.count 8 (fun j s => s.1 = (j : Int) ∧ s.2 = zxe ((List.range j).filter p)) (Q := fun s => s.2 = zxe (letN p)) ?_ ?_ ⟨rfl, rfl⟩ (by omega)) fun r hr => Ok.pure hr
 ·rintro j ⟨i, l⟩ hj ⟨hi, hl⟩
  obtain rfl : i = (j : Int) := hi
  obtain rfl : l = _ := hl
  have c1 : decide ((j : Int) < 8) = true := by simp; omega
  have c2 : (decide (0 ≤ (j : Int)) && decide ((j : Int) < 8)) = true := by simp; omega
  have hlen : ((List.range j).filter p).length ≤ 8 := by
   have := List.length_filter_le p (List.range j)
   rw [List.length_range] at this
   omega
  have c3 : decide ((zxe ((List.range j).filter p)).length + 1 ≤ LIM) = true := by
   simp only [decide_eq_true_eq, List.length_map, LIM]
   omega
  simp only [zVc, c1, c2, c3, cond_true, Int.toNat_natCast, w8 (show j < 9 by omega)]
  cases hp : p j with
  | true =>
   refine Ok.pure ⟨rfl, ?_⟩
   show _ ++ [(j : Int)] = zxe _
   rw [List.range_succ, List.filter_append]
   simp [hp]
  | false =>
   refine Ok.pure ⟨rfl, ?_⟩
   show zxe _ = zxe _
   rw [List.range_succ, List.filter_append]
   simp [hp]
 ·rintro ⟨i, l⟩ ⟨hi, hl⟩
  obtain rfl : i = 8 := hi
  simp only [zVc]
  exact Ok.pure hl
theorem zgj {l : List Nat} {j : Nat} (h : j < l.length) : idx (zxe l) (j : Int) = some ((l[j] : Nat) : Int) := by
 rw [zR (by simpa using h)]
 simp
theorem z6p {k : Nat} (hk : 100 < k) (a x : Int) (c : Cap) : zDb k a ([x], c) = some (if x > a then x else a) := by
 obtain ⟨n, rfl⟩ : ∃ n, k = n + 2 := ⟨k - 2, by omega⟩
 have e1 : zyb (n + 2) ([x], c) a 0 = some (.inl ((if x > a then x else a), 1)) := by
  have : w64 1 = 1 := by decide
  simp [zyb, idx, this]
 have e2 : ∀ y, zyb (n + 2) ([x], c) y 1 = some (.inr (y, 1)) := fun y => by simp [zyb]
 simp [zDb, iter, e1, e2]
def InL (l : Nat → Bool) (n i : Nat) : Prop := i = n ∨ (i < 8 ∧ l i = true)
def z2l (b : za) (l : Nat → Bool) (n : Nat) : Prop := ∀ i j, InL l n i → InL l n j → (lt b i).Born.Low ≤ (lt b j).Born.High
theorem zZw {k : Nat} {b : za} (hf : Fine b) (hk : 100 < k) (m : List (zl × Bool)) {l : Nat → Bool} {n : Nat} (hn : n < nL b) (hl : ∀ i, i < 8 → l i = true → i < nL b) : Ok (zVe k ⟨b, m⟩ l n) (fun r => r = true ↔ z2l b l n) := by
 unfold zVe
 rw [zTd hn]
 simp only [Option.bind_some]
 refine (zer hk l).bind fun v hv => ?_
 have hlen := ztj l
 have bl : ∀ i, i < nL b → 0 ≤ (lt b i).Born.Low ∧ (lt b i).Born.Low ≤ (lt b i).Born.High ∧ (lt b i).Born.High ≤ 200 := fun i hi => by
  obtain ⟨_, _, h1, h2, _⟩ := hf.letters i hi
  exact ⟨h1.1, h1.2, h2⟩
 refine Ok.bind (Ok.count (letN l).length (fun j s => s.1 = (j : Int) ∧ (∃ i, (i = n ∨ i ∈ (letN l).take j) ∧ s.2.1 = (lt b i).Born.Low) ∧ (∃ i, (i = n ∨ i ∈ (letN l).take j) ∧ s.2.2 = (lt b i).Born.High) ∧ ∀ i, (i = n ∨ i ∈ (letN l).take j) → (lt b i).Born.Low ≤ s.2.1 ∧ s.2.2 ≤ (lt b i).Born.High)
  (Q := fun s => s.2.1 ≤ s.2.2 ↔ z2l b l n) ?_ ?_ ⟨rfl, ⟨n, .inl rfl, rfl⟩, ⟨n, .inl rfl, rfl⟩, ?_⟩ (by omega)) fun r hr => Ok.pure ?_
 ·rintro j ⟨i, lo, hi⟩ hj ⟨hji, ⟨i1, h1, e1⟩, ⟨i2, h2, e2⟩, h3⟩
  obtain rfl : i = (j : Int) := hji
  have e1 : lo = _ := e1
  have e2 : hi = _ := e2
  have h3 : ∀ i, (i = n ∨ i ∈ (letN l).take j) → (lt b i).Born.Low ≤ lo ∧ hi ≤ (lt b i).Born.High := h3
  have hj' : (j : Int) < (v.1.length : Int) := by rw [hv]; simp; omega
  have hm := zyc.1 (List.getElem_mem hj)
  have hx := hl _ hm.1 hm.2
  have inn : ∀ i, (i = n ∨ i ∈ (letN l).take j) → i < nL b := by
   rintro i (rfl | h)
   ·exact hn
   ·have := zyc.1 (List.mem_of_mem_take h)
    exact hl _ this.1 this.2
  have b1 := bl i1 (inn _ h1)
  have b2 := bl i2 (inn _ h2)
  have b3 := bl _ hx
  simp only [zPd, hj', decide_true, cond_true]
  rw [hv, zgj hj]
  simp only [Option.bind_some]
  rw [zTd hx]
  simp only [Option.bind_some, z6p hk]
  have tk : ∀ i, (i = n ∨ i ∈ (letN l).take (j + 1)) ↔ ((i = n ∨ i ∈ (letN l).take j) ∨ i = (letN l)[j]) := fun i => by
   rw [List.take_succ_eq_append_getElem hj, List.mem_append, List.mem_singleton, or_assoc]
  have hneg : w64 (0 - hi) = -hi := by rw [zfd (by omega) (by omega)]; omega
  generalize (letN l)[j] = x at *
  have hnegx : w64 (0 - (lt b x).Born.High) = -(lt b x).Born.High := by rw [zfd (by omega) (by omega)]; omega
  rw [hneg, hnegx]
  have hhi : w64 (0 - (if -(lt b x).Born.High > -hi then -(lt b x).Born.High else -hi)) = (if (lt b x).Born.High < hi then (lt b x).Born.High else hi) := by
   rw [zfd (by split <;> omega) (by split <;> omega)]
   split <;> split <;> omega
  rw [hhi]
  refine Ok.pure ⟨w8 (show j < 9 by omega), ?_, ?_, ?_⟩
  ·show ∃ i, _ ∧ (if (lt b x).Born.Low > lo then (lt b x).Born.Low else lo) = _
   split
   ·exact ⟨x, (tk x).2 (.inr rfl), rfl⟩
   ·exact ⟨i1, (tk i1).2 (.inl h1), e1⟩
  ·show ∃ i, _ ∧ (if (lt b x).Born.High < hi then (lt b x).Born.High else hi) = _
   split
   ·exact ⟨x, (tk x).2 (.inr rfl), rfl⟩
   ·exact ⟨i2, (tk i2).2 (.inl h2), e2⟩
  ·intro i h
   show (lt b i).Born.Low ≤ (if (lt b x).Born.Low > lo then (lt b x).Born.Low else lo) ∧ (if (lt b x).Born.High < hi then (lt b x).Born.High else hi) ≤ (lt b i).Born.High
   rcases (tk i).1 h with h | rfl
   ·have := h3 i h
    constructor <;> split <;> omega
   ·constructor <;> split <;> omega
 ·rintro ⟨i, lo, hi⟩ ⟨hji, ⟨i1, h1, e1⟩, ⟨i2, h2, e2⟩, h3⟩
  obtain rfl : i = ((letN l).length : Int) := hji
  have hj' : ¬ ((letN l).length : Int) < (v.1.length : Int) := by rw [hv]; simp
  simp only [zPd, hj', decide_false, cond_false]
  refine Ok.pure ?_
  rw [List.take_length] at h1 h2 h3
  have e1 : lo = _ := e1
  have e2 : hi = _ := e2
  have inl : ∀ i, InL l n i ↔ (i = n ∨ i ∈ letN l) := fun i => by unfold InL; rw [zyc]
  constructor
  ·intro h i j hi' hj'
   have g1 := (h3 i ((inl i).1 hi')).1
   have g2 := (h3 j ((inl j).1 hj')).2
   have h : lo ≤ hi := h
   have g1 : _ ≤ lo := g1
   have g2 : hi ≤ _ := g2
   omega
  ·intro h
   show lo ≤ hi
   rw [e1, e2]
   exact h _ _ ((inl _).2 h1) ((inl _).2 h2)
 ·intro i h
  rcases h with rfl | h
  ·exact ⟨Int.le_refl _, Int.le_refl _⟩
  ·simp at h
 ·rw [decide_eq_true_eq]; exact hr
end Go.AM
set_option linter.unusedVariables false
namespace Go.AM
open Go
def zEm (l : Nat → Bool) (j : Nat) : Prop := j < 8 ∧ l j = true ∧ ∀ i, j < i → i < 8 → l i = false
theorem zEm.one {l : Nat → Bool} {i j : Nat} (h : zEm l i) (g : zEm l j) : i = j := by
 apply Classical.byContradiction
 intro hn
 by_cases e : i < j
 ·have := h.2.2 j e g.1
  rw [g.2.1] at this
  cases this
 ·have := g.2.2 i (by omega) h.1
  rw [h.2.1] at this
  cases this
theorem zEt {k : Nat} {b : zj} (hk : 100 < k) {l : Nat → Bool} (he : ∃ i, i < 8 ∧ l i = true) : Ok (zUd k b l) (fun r => ∃ j : Nat, r = (j : Int) ∧ zEm l j) := by
 unfold zUd
 refine (zer hk l).bind fun v hv => ?_
 obtain ⟨i, hi⟩ := he
 have hmem := zyc.2 hi
 have hpos : 0 < (letN l).length := List.length_pos_of_mem hmem
 have hlen := ztj l
 have e : w64 ((v.1.length : Int) - 1) = (((letN l).length - 1 : Nat) : Int) := by
  rw [hv, zfd (by simp; omega) (by simp; omega)]
  simp
  omega
 have hlt : (letN l).length - 1 < (letN l).length := by omega
 rw [e, hv, zgj hlt]
 simp only [Option.bind_some]
 have hm := zyc.1 (List.getElem_mem hlt)
 refine Ok.pure ⟨_, rfl, hm.1, hm.2, fun i hi1 hi2 => ?_⟩
 cases hli : l i with
 | false => rfl
 | true =>
  obtain ⟨a, ha, hx⟩ := List.getElem_of_mem (zyc.2 ⟨hi2, hli⟩)
  by_cases e : a = (letN l).length - 1
  ·subst e
   omega
  ·have := List.pairwise_iff_getElem.1 (z0i l) a _ ha hlt (by omega)
   omega
def farB (b : za) (i j : Nat) : Int := (((b.Far.1[(lt b i).Place.toNat]?).getD ([], .nil)).1[(lt b j).Place.toNat]?).getD 0
theorem zLu {b : za} (hf : Fine b) {i j : Nat} (hi : i < nL b) (hj : j < nL b) : ∃ row, idx b.Far.1 (lt b i).Place = some row ∧ idx row.1 (lt b j).Place = some (farB b i j) ∧ 0 ≤ farB b i j ∧ farB b i j ≤ 400 := by
 obtain ⟨_, p1, _⟩ := hf.letters i hi
 obtain ⟨_, p2, _⟩ := hf.letters j hj
 have h1 : (lt b i).Place.toNat < b.Far.1.length := by omega
 obtain ⟨hl, hr⟩ := hf.rows _ h1
 have h2 : (lt b j).Place.toNat < b.Far.1[(lt b i).Place.toNat].1.length := by omega
 have e : farB b i j = b.Far.1[(lt b i).Place.toNat].1[(lt b j).Place.toNat] := by
  unfold farB
  rw [List.getElem?_eq_getElem h1, Option.getD_some, List.getElem?_eq_getElem h2, Option.getD_some]
 refine ⟨_, zIu p1.1 h1, ?_, ?_⟩
 ·rw [e]; exact zIu p2.1 h2
 ·rw [e]; exact (hr _ h2).1
def WayP (b : za) (l : Nat → Bool) (n : Nat) : Prop := ∀ j, zEm l j → farB b j n ≤ (lt b n).Day - (lt b j).Day
def zWk (b : za) (l : Nat → Bool) : Prop := ∀ j, zEm l j → (lt b j).Dead = false
def zBi (b : za) (l : Nat → Bool) (n : Nat) : Prop := ∀ i, i < 8 → l i = true → ¬ AP b (i : Int) (n : Int)
theorem zSt {b : za} (hf : Fine b) : ∀ i, i ≤ nL b → 0 ≤ dayB b i
 | 0, _ => Int.le_refl _
 | i + 1, h => Int.le_trans (zSt hf i (by omega)) (hf.letters i h).1.1
theorem z0q {b : za} (hf : Fine b) {i : Nat} (hi : i < nL b) : 0 ≤ (lt b i).Day ∧ (lt b i).Day ≤ 20000 :=
 ⟨Int.le_trans (zSt hf i (by omega)) (hf.letters i hi).1.1, (hf.letters i hi).1.2⟩
theorem zCx {k : Nat} {b : za} (hf : Fine b) (hk : 100 < k) (m : List (zl × Bool)) {l : Nat → Bool} {n : Nat} (hn : n < nL b) (hl : ∀ i, i < 8 → l i = true → i < nL b) (he : ∃ i, i < 8 ∧ l i = true) : Ok (zLf k ⟨b, m⟩ l n) (fun r => r = true ↔ WayP b l n) := by
 unfold zLf
 refine (zEt hk he).bind fun v hv => ?_
 obtain ⟨j, rfl, hj⟩ := hv
 have hjn := hl j hj.1 hj.2.1
 obtain ⟨row, r1, r2, r3⟩ := zLu hf hjn hn
 have d1 := z0q hf hjn
 have d2 := z0q hf hn
 rw [zTd hjn]
 simp only [Option.bind_some]
 rw [zTd hn]
 simp only [Option.bind_some]
 rw [r1]
 simp only [Option.bind_some]
 rw [r2]
 simp only [Option.bind_some]
 refine Ok.pure ?_
 rw [zfd (by omega) (by omega), decide_eq_true_eq]
 constructor
 ·intro h i hi
  obtain rfl := hj.one hi
  exact h
 ·intro h
  exact h j hj
theorem zfw {k : Nat} {b : za} (hk : 100 < k) (m : List (zl × Bool)) {l : Nat → Bool} (n : Int) (hl : ∀ i, i < 8 → l i = true → i < nL b) (he : ∃ i, i < 8 ∧ l i = true) : Ok (zGe k ⟨b, m⟩ l n) (fun r => r = true ↔ zWk b l) := by
 unfold zGe
 refine (zEt hk he).bind fun v hv => ?_
 obtain ⟨j, rfl, hj⟩ := hv
 rw [zTd (hl j hj.1 hj.2.1)]
 simp only [Option.bind_some]
 refine Ok.pure ?_
 constructor
 ·intro h i hi
  obtain rfl := hj.one hi
  simpa using h
 ·intro h
  simp [h j hj]
theorem znw {k : Nat} {b : za} (hk : 100 < k) {m : List (zl × Bool)} (hm : zcm b m) (l : Nat → Bool) (n : Nat) : Ok (zEe k ⟨b, m⟩ l n) (fun r => r = true ↔ zBi b l n) := by
 unfold zEe
 refine (zer hk l).bind fun v hv => ?_
 have hlen := ztj l
 refine Ok.bind (Ok.count (letN l).length (fun j s => s = (j : Int) ∧ ∀ i ∈ (letN l).take j, ¬ AP b (i : Int) (n : Int)) (Q := fun r : (Int × Int) ⊕ Int => match r with
  | .inl _ => ¬ zBi b l n
  | .inr _ => zBi b l n) ?_ ?_ ⟨rfl, by simp⟩ (by omega)) fun r hr => ?_
 ·rintro j s hj ⟨rfl, hg⟩
  have hj' : (j : Int) < (v.1.length : Int) := by rw [hv]; simp; omega
  have hx := zyc.1 (List.getElem_mem hj)
  simp only [ztd, hj', decide_true, cond_true]
  rw [hv, zgj hj]
  simp only [Option.bind_some, w8 (show j < 9 by omega)]
  have hmx := hm ((letN l)[j] : Nat) n
  refine Ok.cond (fun h => ?_) (fun h => ?_)
  ·exact Ok.pure fun hp => hp _ hx.1 hx.2 (hmx.1 h)
  ·refine Ok.pure ⟨rfl, fun i hi => ?_⟩
   rw [List.take_succ_eq_append_getElem hj] at hi
   rcases List.mem_append.1 hi with hi | hi
   ·exact hg i hi
   ·rw [List.mem_singleton] at hi
    subst hi
    intro ha
    have := hmx.2 ha
    rw [h] at this
    cases this
 ·rintro s ⟨rfl, hg⟩
  have hj' : ¬ ((letN l).length : Int) < (v.1.length : Int) := by rw [hv]; simp
  simp only [ztd, hj', decide_false, cond_false]
  rw [List.take_length] at hg
  exact Ok.pure fun i hi hli => hg i (zyc.2 ⟨hi, hli⟩)
 ·cases r with
  | inl z => exact Ok.pure ⟨fun h => (by cases h), fun h => absurd h hr⟩
  | inr z => exact Ok.pure ⟨fun _ => hr, fun _ => rfl⟩
def CanP (b : za) (l : Nat → Bool) (n : Nat) : Prop := (∀ i, i < 8 → l i = false) ∨ (z2l b l n ∧ WayP b l n ∧ zWk b l ∧ zBi b l n)
theorem zjx {k : Nat} {b : za} (hf : Fine b) (hk : 100 < k) {m : List (zl × Bool)} (hm : zcm b m) {l : Nat → Bool} {n : Nat} (hn : n < nL b) (hl : ∀ i, i < 8 → l i = true → i < nL b) : Ok (zob k ⟨b, m⟩ l n) (fun r => r = true ↔ CanP b l n) := by
 unfold zob zoi
 simp only [Option.bind_some]
 have h0 : eqB l (fun _ => false) 0 8 = true ↔ ∀ i, i < 8 → l i = false := by
  rw [zRt]
  exact ⟨fun h i hi => h i (by omega) (by omega), fun h i _ hi => h i (by omega)⟩
 refine Ok.cond (fun h => Ok.pure ⟨fun _ => .inl (h0.1 h), fun _ => rfl⟩) fun h => ?_
 have hne : ¬ ∀ i, i < 8 → l i = false := fun hh => by rw [h0.2 hh] at h; cases h
 have he : ∃ i, i < 8 ∧ l i = true := by
  apply Classical.byContradiction
  intro hno
  apply hne
  intro i hi
  cases hc : l i with
  | false => rfl
  | true => exact absurd ⟨i, hi, hc⟩ hno
 have hcan : CanP b l n ↔ z2l b l n ∧ WayP b l n ∧ zWk b l ∧ zBi b l n := ⟨fun h => h.elim (fun h => absurd h hne) id, .inr⟩
 rw [hcan]
 refine Ok.bind (Ok.count 4 (fun j s => s = (j : Int) ∧ (1 ≤ j → z2l b l n) ∧ (2 ≤ j → WayP b l n) ∧ (3 ≤ j → zWk b l) ∧ (4 ≤ j → zBi b l n))
  (Q := fun r : Int ⊕ (Int ⊕ (Int ⊕ (Int ⊕ Int))) => match r with
   | .inr (.inr (.inr (.inr _))) => z2l b l n ∧ WayP b l n ∧ zWk b l ∧ zBi b l n
   | _ => ¬ (z2l b l n ∧ WayP b l n ∧ zWk b l ∧ zBi b l n)) ?_ ?_ ⟨rfl, by omega, by omega, by omega, by omega⟩ (by omega)) fun r hr => ?_
 ·rintro j s hj ⟨rfl, g1, g2, g3, g4⟩
  have c1 : decide ((j : Int) < 4) = true := by simp; omega
  simp only [zXf, c1, cond_true]
  obtain rfl | rfl | rfl | rfl : j = 0 ∨ j = 1 ∨ j = 2 ∨ j = 3 := by omega
  ·refine (zZw hf hk m hn hl).bind fun r hr => ?_
   cases r with
   | false => exact Ok.pure fun h => by have := hr.2 h.1; cases this
   | true => exact Ok.pure ⟨by decide, fun _ => hr.1 rfl, by omega, by omega, by omega⟩
  ·refine (zCx hf hk m hn hl he).bind fun r hr => ?_
   cases r with
   | false => exact Ok.pure fun h => by have := hr.2 h.2.1; cases this
   | true => exact Ok.pure ⟨by decide, fun _ => g1 (by omega), fun _ => hr.1 rfl, by omega, by omega⟩
  ·refine (zfw hk m n hl he).bind fun r hr => ?_
   cases r with
   | false => exact Ok.pure fun h => by have := hr.2 h.2.2.1; cases this
   | true => exact Ok.pure ⟨by decide, fun _ => g1 (by omega), fun _ => g2 (by omega), fun _ => hr.1 rfl, by omega⟩
  ·refine (znw hk hm l n).bind fun r hr => ?_
   cases r with
   | false => exact Ok.pure fun h => by have := hr.2 h.2.2.2; cases this
   | true => exact Ok.pure ⟨by decide, fun _ => g1 (by omega), fun _ => g2 (by omega), fun _ => g3 (by omega), fun _ => hr.1 rfl⟩
 ·rintro s ⟨rfl, g1, g2, g3, g4⟩
  exact Ok.pure ⟨g1 (by omega), g2 (by omega), g3 (by omega), g4 (by omega)⟩
 ·rcases r with r | r | r | r | r
  ·exact Ok.pure ⟨fun h => (by cases h), fun h => absurd h hr⟩
  ·exact Ok.pure ⟨fun h => (by cases h), fun h => absurd h hr⟩
  ·exact Ok.pure ⟨fun h => (by cases h), fun h => absurd h hr⟩
  ·exact Ok.pure ⟨fun h => (by cases h), fun h => absurd h hr⟩
  ·exact Ok.pure ⟨fun _ => hr, fun _ => rfl⟩
end Go.AM
set_option linter.unusedVariables false
namespace Go.AM
open Go
def zD (q : List Int) : Int := q.foldl (fun n w => if w + 1 > n then w + 1 else n) 0
theorem zOe (q : List Int) (w : Int) : zD (q ++ [w]) = if w + 1 > zD q then w + 1 else zD q := by
 unfold zD
 rw [List.foldl_append]; rfl
def Ppl (q : List Int) : Prop := q.length ≤ 8 ∧ ∀ x ∈ q, 0 ≤ x ∧ x ≤ 100
theorem Ppl.take {q : List Int} (h : Ppl q) (i : Nat) : Ppl (q.take i) := ⟨by rw [List.length_take]; have := h.1; omega, fun x hx => h.2 x (List.mem_of_mem_take hx)⟩
theorem zOp {α : Type} {P : List α → Prop} (h0 : P []) (h1 : ∀ l x, P l → P (l ++ [x])) (l : List α) : P l := by
 have : ∀ l : List α, P l.reverse := by
  intro l
  induction l with
  | nil => exact h0
  | cons x t ih => rw [List.reverse_cons]; exact h1 _ _ ih
 have := this l.reverse
 rwa [List.reverse_reverse] at this
theorem zSr {q : List Int} : (∀ x ∈ q, 0 ≤ x ∧ x ≤ 100) → 0 ≤ zD q ∧ zD q ≤ 101 := by
 refine zOp (P := fun q => (∀ x ∈ q, 0 ≤ x ∧ x ≤ 100) → 0 ≤ zD q ∧ zD q ≤ 101) ?_ ?_ q
 ·intro _
  exact ⟨by decide, by decide⟩
 ·intro l x ih h
  have h1 := ih fun y hy => h y (List.mem_append.2 (.inl hy))
  have h2 := h x (by simp)
  rw [zOe]
  split <;> omega
theorem zgn {q : List Int} : ∀ x ∈ q, x + 1 ≤ zD q := by
 refine zOp (P := fun q => ∀ x ∈ q, x + 1 ≤ zD q) ?_ ?_ q
 ·simp
 ·intro l x ih y hy
  rw [zOe]
  rcases List.mem_append.1 hy with hy | hy
  ·have := ih y hy
   split <;> omega
  ·rw [List.mem_singleton] at hy
   subst hy
   split <;> omega
theorem zhv {q : List Int} {n : Int} : 0 ≤ n → (∀ x ∈ q, x + 1 ≤ n) → zD q ≤ n := by
 intro h0
 refine zOp (P := fun q => (∀ x ∈ q, x + 1 ≤ n) → zD q ≤ n) ?_ ?_ q
 ·intro _; exact h0
 ·intro l x ih h
  have h1 := ih fun y hy => h y (List.mem_append.2 (.inl hy))
  have h2 := h x (by simp)
  rw [zOe]
  split <;> omega
theorem zHj {k : Nat} (hk : 100 < k) {q : SL Int} (hq : Ppl q.1) : Ok (zEb k q) (fun r => r = zD q.1) := by
 unfold zEb
 have hlen := hq.1
 refine Ok.bind (Ok.count q.1.length (fun j s => s.2 = (j : Int) ∧ s.1 = zD (q.1.take j)) (Q := fun s => s.1 = zD q.1) ?_ ?_ ⟨rfl, rfl⟩ (by omega)) fun r hr => Ok.pure hr
 ·rintro j ⟨n, i⟩ hj ⟨hi, hn⟩
  obtain rfl : i = (j : Int) := hi
  obtain rfl : n = _ := hn
  have hx := hq.2 _ (List.getElem_mem hj)
  simp only [zhg, zub hj, cond_true, zR hj, Option.bind_some, z6p hk, w8 (show j < 9 by omega)]
  refine Ok.pure ⟨rfl, ?_⟩
  show (if _ > _ then _ else _) = _
  rw [List.take_succ_eq_append_getElem hj, zOe, zfd (by omega) (by omega)]
 ·rintro ⟨n, i⟩ ⟨hi, hn⟩
  obtain rfl : i = (q.1.length : Int) := hi
  simp only [zhg, zLd, cond_false]
  rw [List.take_length] at hn
  exact Ok.pure hn
def zCp (b : za) (q : List Int) (n : Nat) (w : Int) : Prop := ∀ i x, q[i]? = some x → 0 < (lt b i).Account → (lt b i).Account = (lt b n).Account → x = w
theorem zJv {k : Nat} {b : za} (hf : Fine b) (hk : 100 < k) (m : List (zl × Bool)) {q : SL Int} {n : Nat} (hn : n < nL b) (hq : q.1.length ≤ nL b) (w : Int) : Ok (zkb k ⟨b, m⟩ q n w) (fun r => r = true ↔ zCp b q.1 n w) := by
 unfold zkb
 have h8 := hf.nletters
 refine Ok.bind (Ok.count q.1.length (fun j s => s = (j : Int) ∧ ∀ i x, i < j → q.1[i]? = some x → 0 < (lt b i).Account → (lt b i).Account = (lt b n).Account → x = w) (Q := fun r : (Int × Int × Bool) ⊕ Int => match r with
  | .inl _ => ¬ zCp b q.1 n w
  | .inr _ => zCp b q.1 n w) ?_ ?_ ⟨rfl, by omega⟩ (by omega)) fun r hr => ?_
 ·rintro j s hj ⟨rfl, hg⟩
  have hjn : j < nL b := by omega
  simp only [zzd, zub hj, cond_true, zR hj, Option.bind_some, zRe, w8 (show j < 9 by omega)]
  rw [zTd hjn]
  simp only [Option.bind_some]
  rw [zTd hn]
  simp only [Option.bind_some, z1d, zMe]
  refine Ok.cond (fun h => ?_) (fun h => ?_)
  ·refine Ok.pure fun hp => ?_
   simp only [Bool.and_eq_true, decide_eq_true_eq, beq_iff_eq, bne_iff_ne] at h
   exact h.2 (hp j _ (List.getElem?_eq_getElem hj) h.1.1 h.1.2)
  ·refine Ok.pure ⟨rfl, fun i x hij hx h1 h2 => ?_⟩
   by_cases e : i = j
   ·subst e
    rw [List.getElem?_eq_getElem hj] at hx
    cases hx
    apply Classical.byContradiction
    intro hne
    have : (decide ((lt b i).Account > 0) && ((lt b i).Account == (lt b n).Account) && (q.1[i] != w)) = true := by
     simp only [Bool.and_eq_true, decide_eq_true_eq, beq_iff_eq, bne_iff_ne]
     exact ⟨⟨h1, h2⟩, hne⟩
    rw [this] at h
    cases h
   ·exact hg i x (by omega) hx h1 h2
 ·rintro s ⟨rfl, hg⟩
  simp only [zzd, zLd, cond_false]
  exact Ok.pure fun i x hx => hg i x (List.getElem?_eq_some_iff.1 hx).1 hx
 ·cases r with
  | inl z => exact Ok.pure ⟨fun h => (by cases h), fun h => absurd h hr⟩
  | inr z => exact Ok.pure ⟨fun _ => hr, fun _ => rfl⟩
def zPb (q : List Int) (w : Int) : Nat → Bool := fun i => decide (q[i]? = some w)
theorem zgw {k : Nat} (hk : 100 < k) {q : SL Int} (hq : q.1.length ≤ 8) (w : Int) : Ok (ztc k q w) (fun r => r = zPb q.1 w) := by
 unfold ztc
 refine Ok.bind (Ok.count q.1.length (fun j s => s.1 = (j : Int) ∧ s.2 = zPb (q.1.take j) w) (Q := fun s => s.2 = zPb q.1 w) ?_ ?_ ⟨rfl, by funext i; simp [zPb]⟩ (by omega)) fun r hr => Ok.pure hr
 ·rintro j ⟨i, f⟩ hj ⟨hi, hf⟩
  obtain rfl : i = (j : Int) := hi
  obtain rfl : f = _ := hf
  have c2 : (decide (0 ≤ (j : Int)) && decide ((j : Int) < 8)) = true := by simp; omega
  simp only [zIf, zub hj, cond_true, zR hj, Option.bind_some, c2, Int.toNat_natCast, w8 (show j < 9 by omega)]
  refine Ok.pure ⟨rfl, ?_⟩
  show upd _ _ _ = _
  funext i
  unfold upd zPb
  by_cases e : i = j
  ·subst e
   simp [List.getElem?_take, List.getElem?_eq_getElem hj]
   exact Bool.eq_iff_iff.2 (by simp)
  ·rw [if_neg e]
   by_cases hlt : i < j
   ·simp [List.getElem?_take, hlt, show i < j + 1 by omega]
   ·simp [List.getElem?_take, hlt, show ¬ i < j + 1 by omega]
 ·rintro ⟨i, f⟩ ⟨hi, hf⟩
  obtain rfl : i = (q.1.length : Int) := hi
  simp only [zIf, zLd, cond_false]
  rw [List.take_length] at hf
  exact Ok.pure hf
def lim (b : za) (q : List Int) : Nat := (if zD q + 1 < b.Most then zD q + 1 else b.Most).toNat
def okP (b : za) (q : List Int) (w : Int) : Prop := zCp b q q.length w ∧ CanP b (zPb q w) q.length
def Pre (b : za) (q : List Int) : Prop := ∀ i x, q[i]? = some x → zvo (lim b) (okP b) (q.take i) x
noncomputable def Tr (b : za) : List (List Int) := subs (lim b) (okP b) (nL b) []
theorem zPh {b : za} {q : List Int} : q ∈ Tr b ↔ q.length = nL b ∧ Pre b q := by
 unfold Tr
 rw [zsq]
 constructor
 ·rintro ⟨h1, _, h3⟩
  exact ⟨by simpa using h1, fun i x hx => h3 i x (Nat.zero_le _) hx⟩
 ·rintro ⟨h1, h2⟩
  exact ⟨by simpa using h1, rfl, fun i x _ hx => h2 i x hx⟩
theorem z7j {b : za} (hf : Fine b) (q : List Int) : lim b q ≤ 8 := by
 have := hf.most
 unfold lim
 split <;> omega
theorem zlt {lim : List Int → Nat} {ok : List Int → Int → Prop} (h : ∀ q, lim q ≤ 8) : ∀ t p, (subs lim ok t p).length ≤ 8 ^ t
 | 0, p => by simp [subs]
 | t + 1, p => by
  unfold subs
  rw [List.length_flatMap]
  have : ∀ n : Nat, ((List.range n).map fun w : Nat => (open Classical in if ok p (w : Int) then subs lim ok t (p ++ [(w : Int)]) else []).length).sum ≤ n * 8 ^ t := by
   intro n
   induction n with
   | zero => simp
   | succ n ih =>
    rw [List.range_succ, List.map_append, List.sum_append, Nat.succ_mul]
    have : (open Classical in if ok p (n : Int) then subs lim ok t (p ++ [(n : Int)]) else []).length ≤ 8 ^ t := by
     split
     ·exact zlt h t _
     ·simp
    simp only [List.map_cons, List.map_nil, List.sum_cons, List.sum_nil]
    omega
  refine Nat.le_trans (this _) ?_
  rw [Nat.pow_succ, Nat.mul_comm]
  exact Nat.mul_le_mul_left _ (h p)
theorem zit {b : za} (hf : Fine b) : (Tr b).length ≤ 16777216 := by
 refine Nat.le_trans (zlt (z7j hf) _ _) ?_
 refine Nat.le_trans (Nat.pow_le_pow_right (by omega) hf.nletters.2) ?_
 decide
theorem Pre.ppl {b : za} (hf : Fine b) {q : List Int} (h : Pre b q) : ∀ x ∈ q, 0 ≤ x ∧ x ≤ 7 := by
 intro x hx
 obtain ⟨i, hi, rfl⟩ := List.getElem_of_mem hx
 obtain ⟨h1, h2, _⟩ := h i _ (List.getElem?_eq_getElem hi)
 have := z7j hf (q.take i)
 exact ⟨h1, by omega⟩
theorem Pre.Ppl {b : za} (hf : Fine b) {q : List Int} (h : Pre b q) (hl : q.length ≤ nL b) : Ppl q :=
 ⟨by have := hf.nletters; omega, fun x hx => by have := h.ppl hf x hx; omega⟩
theorem Pre.snoc {b : za} {q : List Int} {w : Int} : Pre b (q ++ [w]) ↔ Pre b q ∧ zvo (lim b) (okP b) q w := by
 constructor
 ·intro h
  refine ⟨fun i x hx => ?_, ?_⟩
  ·have hi := (List.getElem?_eq_some_iff.1 hx).1
   have := h i x (by rw [List.getElem?_append_left hi]; exact hx)
   rwa [List.take_append_of_le_length (by omega)] at this
  ·have := h q.length w (by simp)
   rwa [List.take_left'  rfl] at this
 ·rintro ⟨h1, h2⟩ i x hx
  by_cases hi : i < q.length
  ·rw [List.getElem?_append_left hi] at hx
   rw [List.take_append_of_le_length (by omega)]
   exact h1 i x hx
  ·have hlt := (List.getElem?_eq_some_iff.1 hx).1
   simp only [List.length_append, List.length_cons, List.length_nil] at hlt
   obtain rfl : i = q.length := by omega
   simp at hx
   subst hx
   rw [List.take_left' rfl]
   exact h2
theorem Pre.take {b : za} {q : List Int} (h : Pre b q) (i : Nat) : Pre b (q.take i) := by
 intro j x hx
 have hj : j < i := by
  have := (List.getElem?_eq_some_iff.1 hx).1
  rw [List.length_take] at this
  omega
 rw [List.getElem?_take, if_pos hj] at hx
 rw [List.take_take, Nat.min_eq_left (by omega)]
 exact h j x hx
theorem zEk {k : Nat} {b : za} (hf : Fine b) (hk : 100 < k) {m : List (zl × Bool)} (hm : zcm b m) {q : SL Int} (hq : q.1.length < nL b) (w : Int) :
  Ok ((zkb k ⟨b, m⟩ q (q.1.length : Int) w).bind fun v501 => cond (!v501) (some true) ((ztc k q w).bind fun v504 => (zob k ⟨b, m⟩ v504 (q.1.length : Int)).bind fun v506 => some (!v506))) (fun r => r = true ↔ ¬ okP b q.1 w) := by
 have h8 := hf.nletters
 refine (zJv hf hk m hq (by omega) w).bind fun v hv => ?_
 unfold okP
 cases v with
 | false => exact Ok.pure ⟨fun _ h => (by have := hv.2 h.1; cases this), fun _ => rfl⟩
 | true =>
  have hn := hv.1 rfl
  refine (zgw hk (by omega) w).bind fun l hl => ?_
  subst hl
  refine (zjx hf hk hm hq fun i _ h => ?_).bind fun r hr => Ok.pure ?_
  ·have : q.1[i]? = some w := by simpa [zPb] using h
   have := (List.getElem?_eq_some_iff.1 this).1
   omega
  ·cases r with
   | false => exact ⟨fun _ h => (by have := hr.2 h.2; cases this), fun _ => rfl⟩
   | true => exact ⟨fun h => (by cases h), fun h => absurd ⟨hn, hr.1 rfl⟩ h⟩
end Go.AM
set_option linter.unusedVariables false
namespace Go.AM
open Go
theorem zGi {b : za} (hf : Fine b) {q : List Int} (hq : Ppl q) (j : Nat) : (j : Int) < (if w64 (zD q + 1) < b.Most then w64 (zD q + 1) else b.Most) ↔ j < lim b q := by
 have h := zSr hq.2
 have := hf.most
 rw [zfd (by omega) (by omega)]
 unfold lim
 split <;> omega
theorem zur {S : Type} {b : za} (hf : Fine b) {k : Nat} (hk : 100 < k) (it : Nat → S → SL Int → Option S) (L : Nat → SL Int → Int × S → Option ((Int × S) ⊕ (Int × S))) (Inv : List (List Int) → S → Prop)
  (leaf : ∀ n s (q : SL Int) T, q.1.length = nL b → q.1 ∈ Tr b → q.2 ≠ .nil → Inv T s → Ok (it (n + 1) s q) (Inv (T ++ [q.1])))
  (node : ∀ n s (q : SL Int), q.1.length < nL b → Ppl q.1 → Ok (iter (L n q) k (0, s)) (fun _ => True) → it (n + 1) s q = (iter (L n q) k (0, s)).bind fun v => some v.2)
  (hend : ∀ n s (q : SL Int) (j : Nat), q.1.length < nL b → Ppl q.1 → ¬ j < lim b q.1 → L n q ((j : Int), s) = some (.inr ((j : Int), s)))
  (hskip : ∀ n s (q : SL Int) (j : Nat), q.1.length < nL b → Ppl q.1 → j < lim b q.1 → ¬ okP b q.1 (j : Int) → L n q ((j : Int), s) = some (.inl (((j + 1 : Nat) : Int), s)))
  (hgo : ∀ n s (q : SL Int) (j : Nat), q.1.length < nL b → Ppl q.1 → j < lim b q.1 → okP b q.1 (j : Int) → L n q ((j : Int), s) = (it n s (q.1 ++ [(j : Int)], .ro)).bind fun s' => some (.inl (((j + 1 : Nat) : Int), s'))) :
  ∀ (t n : Nat) (s : S) (q : SL Int) (T : List (List Int)), q.1.length + t = nL b → t < n → Pre b q.1 → (q.2 = .nil → q.1 = []) → Inv T s → Ok (it n s q) (Inv (T ++ subs (lim b) (okP b) t q.1)) := by
 intro t
 induction t with
 | zero =>
  intro n s q T hl hn hp hc hi
  obtain ⟨n, rfl⟩ : ∃ n', n = n' + 1 := ⟨n - 1, by omega⟩
  unfold subs
  refine leaf n s q T (by omega) (zPh.2 ⟨by omega, hp⟩) (fun e => ?_) hi
  have := hf.nletters
  rw [hc e] at hl
  simp at hl
  omega
 | succ t ih =>
  intro n s q T hl hn hp hc hi
  obtain ⟨n, rfl⟩ : ∃ n', n = n' + 1 := ⟨n - 1, by omega⟩
  have hq : q.1.length < nL b := by omega
  have hppl := hp.Ppl hf (by omega)
  have hlim := z7j hf q.1
  have key : Ok (iter (L n q) k (0, s)) (fun v => Inv (T ++ subs (lim b) (okP b) (t + 1) q.1) v.2) := by
   refine Ok.count (lim b q.1) (fun j v => v.1 = (j : Int) ∧ Inv (T ++ (List.range j).flatMap fun w : Nat => (open Classical in if okP b q.1 (w : Int) then subs (lim b) (okP b) t (q.1 ++ [(w : Int)]) else [])) v.2) ?_ ?_ ⟨rfl, by simpa using hi⟩ (by omega)
   ·rintro j ⟨i, s'⟩ hj ⟨hij, hinv⟩
    obtain rfl : i = (j : Int) := hij
    rw [List.range_succ, List.flatMap_append, ← List.append_assoc]
    by_cases ho : okP b q.1 (j : Int)
    ·rw [hgo n s' q j hq hppl hj ho]
     refine (ih n s' (q.1 ++ [(j : Int)], .ro) _ (by simp; omega) (by omega) (Pre.snoc.2 ⟨hp, by omega, by omega, ho⟩) (fun e => by cases e) hinv).bind fun r hr => Ok.pure ⟨rfl, ?_⟩
     simpa [ho] using hr
    ·rw [hskip n s' q j hq hppl hj ho]
     refine Ok.pure ⟨rfl, ?_⟩
     simpa [ho] using hinv
   ·rintro ⟨i, s'⟩ ⟨hij, hinv⟩
    obtain rfl : i = (lim b q.1 : Int) := hij
    rw [hend n s' q _ hq hppl (by omega)]
    refine Ok.pure ?_
    unfold subs
    exact hinv
  rw [node n s q hq hppl (key.mono fun _ _ => trivial)]
  exact key.bind fun v hv => Ok.pure hv
theorem zpr (c : Cap) : decide (ccap c = Cap.ro) = false := by
 unfold ccap
 split <;> rfl
theorem zWp {q : List Int} (h : q.length ≤ 8) : decide (q.length + 1 ≤ LIM) = true := by
 refine decide_eq_true ?_
 show q.length + 1 ≤ 1073741824
 omega
theorem zHu {k : Nat} {b : za} (hf : Fine b) (hk : 100 < k) {m : List (zl × Bool)} (hm : zcm b m) (v : Int) : Ok (zBb k b v (b.Letters, b.Far, b.Apart, b.Most, m) 9 0 ([], .nil)) (fun r => r = ((Tr b).length : Int)) := by
 have h8 := hf.nletters
 have := zur hf hk (fun n s q => zBb k b v (b.Letters, b.Far, b.Apart, b.Most, m) n s q)
  (fun n q z => zDd k b v (b.Letters, b.Far, b.Apart, b.Most, m) q (zD q.1) (zBb k b v (b.Letters, b.Far, b.Apart, b.Most, m) n) z.1 z.2)
  (fun T s => T.length ≤ 100000000 → s = (T.length : Int)) ?_ ?_ ?_ ?_ ?_ (nL b) 9 0 ([], .nil) [] (by simp) (by omega) (fun i x hx => by simp at hx) (fun _ => rfl) (by decide)
 ·refine this.mono fun r hr => ?_
  have := zit hf
  unfold Tr at this ⊢
  rw [List.nil_append] at hr
  exact hr (show (subs (lim b) (okP b) (nL b) []).length ≤ 100000000 by omega)
 ·intro n s q T hl _ _ hs
  show Ok (zNb _ _ _ _ _ _ _) _
  unfold zNb
  have c : ((q.1.length : Int) == (b.Letters.1.length : Int)) = true := by rw [beq_iff_eq]; rw [hl]
  simp only [c, cond_true]
  refine Ok.pure fun hT => ?_
  rw [List.length_append, List.length_singleton] at hT ⊢
  rw [hs (by omega), zfd (by omega) (by omega)]
  omega
 ·intro n s q hl hp _
  show zNb _ _ _ _ _ _ _ = _
  unfold zNb
  have hl' : q.1.length < b.Letters.1.length := hl
  have c : ((q.1.length : Int) == (b.Letters.1.length : Int)) = false := by simp; omega
  simp only [c, cond_false]
  rw [(zHj hk hp).eq, Option.bind_some]
 ·intro n s q j hl hp hj
  have c : ¬ _ := fun h => hj ((zGi hf hp j).1 h)
  simp only [zDd, c, decide_false, cond_false]
 ·intro n s q j hl hp hj ho
  have c := (zGi hf hp j).2 hj
  have hlim := z7j hf q.1
  simp only [zDd, c, decide_true, cond_true]
  obtain ⟨r, hr, hiff⟩ := zEk hf hk hm hl (j : Int)
  have e : z8f k b v (b.Letters, b.Far, b.Apart, b.Most, m) q (zD q.1) j s (zBb k b v (b.Letters, b.Far, b.Apart, b.Most, m) n) = some r := hr
  rw [e]
  obtain rfl : r = true := hiff.2 ho
  simp only [Option.bind_some, cond_true, w8 (show j < 9 by omega)]
 ·intro n s q j hl hp hj ho
  have c := (zGi hf hp j).2 hj
  have hlim := z7j hf q.1
  simp only [zDd, c, decide_true, cond_true]
  obtain ⟨r, hr, hiff⟩ := zEk hf hk hm hl (j : Int)
  have e : z8f k b v (b.Letters, b.Far, b.Apart, b.Most, m) q (zD q.1) j s (zBb k b v (b.Letters, b.Far, b.Apart, b.Most, m) n) = some r := hr
  rw [e]
  obtain rfl : r = false := by
   cases r with
   | false => rfl
   | true => exact absurd ho (hiff.1 rfl)
  simp only [Option.bind_some, cond_false, zpr, zWp hp.1, cond_true, w8 (show j < 9 by omega)]
theorem zOw {k : Nat} {b : za} (hs : z2f b) (hk : Fuel k b) : Ok (zyg k b) (fun r => (¬ Fine b ∧ r = (0, 80)) ∨ (Fine b ∧ r = (((Tr b).length : Int), 0))) := by
 have k0 := hk.k0
 unfold zyg
 refine (znm hs hk).bind fun e he => ?_
 rcases he with ⟨rfl, hf⟩ | ⟨rfl, hf⟩
 ·refine Ok.cond (fun h => by cases h) fun _ => ?_
  refine (zpn hs.apart hk.apart).bind fun v hv => ?_
  obtain ⟨m, rfl, hm⟩ := hv
  unfold zpb
  simp only [Option.bind_some]
  refine (zHu hf (by omega) hm 0).bind fun r hr => Ok.pure (.inr ⟨hf, ?_⟩)
  rw [hr]
 ·exact Ok.cond (fun _ => Ok.pure (.inl ⟨hf, rfl⟩)) fun h => by cases h
theorem z6t {k : Nat} {b : za} (hf : Fine b) (hk : 100 < k) {m : List (zl × Bool)} (hm : zcm b m) (q : SL Int) : Ok (zMd k ⟨b, m⟩ q) (fun r => r = true ↔ q.1 ∈ Tr b) := by
 unfold zMd
 have h8 := hf.nletters
 refine Ok.cond (fun h => ?_) fun h => ?_
 ·refine Ok.pure ⟨fun h => (by cases h), fun hq => ?_⟩
  have := (zPh.1 hq).1
  rw [bne_iff_ne] at h
  exact absurd (by rw [this]) h
 ·have hl : q.1.length = nL b := by
   have : (q.1.length : Int) = (b.Letters.1.length : Int) := by simpa using h
   exact_mod_cast this
  refine Ok.bind (Ok.count q.1.length (fun j s => s = (j : Int) ∧ Pre b (q.1.take j)) (Q := fun r : (Int × Int × SL Int) ⊕ Int => match r with
   | .inl _ => ¬ Pre b q.1
   | .inr _ => Pre b q.1) ?_ ?_ ⟨rfl, fun i x hx => by simp at hx⟩ (by omega)) fun r hr => ?_
  ·rintro j s hj ⟨rfl, hp⟩
   have hjn : j < nL b := by omega
   have hlt : (q.1.take j).length = j := by rw [List.length_take]; omega
   have hppl := hp.Ppl hf (by omega)
   have c1 : (decide (0 ≤ (j : Int)) && decide ((j : Int) ≤ (q.1.length : Int))) = true := by simp; omega
   have hsn : Pre b (q.1.take (j + 1)) ↔ zvo (lim b) (okP b) (q.1.take j) q.1[j] := by
    rw [List.take_succ_eq_append_getElem hj, Pre.snoc]
    exact ⟨fun h => h.2, fun h => ⟨hp, h⟩⟩
   simp only [zWc, zub hj, cond_true, zR hj, Option.bind_some, c1, w8 (show j < 9 by omega), Int.toNat_natCast]
   refine Ok.bind (P := fun r => r = true ↔ ¬ Pre b (q.1.take (j + 1))) ?_ fun r hr => ?_
   ·simp only [z8d, Int.toNat_natCast]
    rw [(zHj hk (q := (q.1.take j, _)) hppl).eq]
    simp only [Option.bind_some, zDj]
    rw [hsn]
    have hlim : (0 ≤ q.1[j] ∧ q.1[j] ≤ (if zD (q.1.take j) < w64 (b.Most - 1) then zD (q.1.take j) else w64 (b.Most - 1))) ↔ 0 ≤ q.1[j] ∧ q.1[j] < (lim b (q.1.take j) : Int) := by
     have hmo := zSr hppl.2
     have := hf.most
     rw [zfd (by omega) (by omega)]
     unfold lim
     constructor <;> rintro ⟨h1, h2⟩ <;> refine ⟨h1, ?_⟩ <;> split at h2 <;> split <;> omega
    refine Ok.cond (fun hc => ?_) fun hc => ?_
    ·refine Ok.pure ⟨fun _ hst => ?_, fun _ => rfl⟩
     have h2 := hlim.2 ⟨hst.1, hst.2.1⟩
     have : (decide (0 ≤ q.1[j]) && decide (q.1[j] ≤ (if zD (q.1.take j) < w64 (b.Most - 1) then zD (q.1.take j) else w64 (b.Most - 1)))) = true := by
      rw [Bool.and_eq_true, decide_eq_true_eq, decide_eq_true_eq]
      exact h2
     rw [this] at hc
     cases hc
    ·have h2 : 0 ≤ q.1[j] ∧ q.1[j] < (lim b (q.1.take j) : Int) := by
      refine hlim.1 ?_
      rw [← decide_eq_true_eq (p := 0 ≤ q.1[j]), ← decide_eq_true_eq (p := q.1[j] ≤ _), ← Bool.and_eq_true]
      simpa using hc
     have hstep := zEk (q := (q.1.take j, pcap q.2 ((j : Int) == (q.1.length : Int)))) hf hk hm (show (q.1.take j).length < nL b by omega) q.1[j]
     have hj' : (((q.1.take j, pcap q.2 ((j : Int) == (q.1.length : Int))) : SL Int).1.length : Int) = (j : Int) := by
      show ((q.1.take j).length : Int) = _
      rw [hlt]
     rw [hj'] at hstep
     refine hstep.mono fun r hr => hr.trans ?_
     unfold zvo
     constructor
     ·intro h hst; exact h hst.2.2
     ·intro h hst; exact h ⟨h2.1, h2.2, hst⟩
   ·refine Ok.cond (fun h => ?_) fun h => ?_
    ·exact Ok.pure fun hpre => (hr.1 h) (hpre.take _)
    ·refine Ok.pure ⟨rfl, ?_⟩
     apply Classical.byContradiction
     intro hno
     rw [hr.2 hno] at h
     cases h
  ·rintro s ⟨rfl, hp⟩
   simp only [zWc, zLd, cond_false]
   rw [List.take_length] at hp
   exact Ok.pure hp
  ·have : q.1 ∈ Tr b ↔ Pre b q.1 := by rw [zPh]; exact ⟨fun h => h.2, fun h => ⟨hl, h⟩⟩
   rw [this]
   cases r with
   | inl z => exact Ok.pure ⟨fun h => (by cases h), fun h => absurd h hr⟩
   | inr z => exact Ok.pure ⟨fun _ => hr, fun _ => rfl⟩
theorem z1t {k : Nat} {b : za} (hs : z2f b) (hk : Fuel k b) (hf : Fine b) (q : SL Int) : Ok (zIe k b q) (fun r => r.2 = 0 ∧ (r.1 = true ↔ q.1 ∈ Tr b)) := by
 have k0 := hk.k0
 unfold zIe
 refine (znm hs hk).bind fun e he => ?_
 rcases he with ⟨rfl, _⟩ | ⟨rfl, hn⟩
 ·refine Ok.cond (fun h => by cases h) fun _ => ?_
  refine (zpn hs.apart hk.apart).bind fun v hv => ?_
  obtain ⟨m, rfl, hm⟩ := hv
  refine (z6t hf (by omega) hm q).bind fun r hr => Ok.pure ⟨rfl, hr⟩
 ·exact absurd hf hn
end Go.AM
set_option linter.unusedVariables false
namespace Go.AM
open Go
def zwv (T : List (List Int)) (s : SL Int) : Prop := (T = [] ∧ s.1 = [] ∧ s.2 = .nil) ∨ (s.2 ≠ .nil ∧ s.1 ∈ T ∧ ∀ p ∈ T, zD s.1 ≤ zD p)
theorem zzu {k : Nat} {b : za} (hf : Fine b) (hk : 100 < k) {m : List (zl × Bool)} (hm : zcm b m) (v : Int) : Ok (zqb k b v (b.Letters, b.Far, b.Apart, b.Most, m) 9 ([], .nil) ([], .nil)) (fun r => zwv (Tr b) r) := by
 have h8 := hf.nletters
 have := zur hf hk (fun n s q => zqb k b v (b.Letters, b.Far, b.Apart, b.Most, m) n s q)
  (fun n q z => zgd k b v (b.Letters, b.Far, b.Apart, b.Most, m) q (zD q.1) (zqb k b v (b.Letters, b.Far, b.Apart, b.Most, m) n) z.1 z.2)
  (fun T s => (∀ p ∈ T, p ∈ Tr b) ∧ zwv T s) ?_ ?_ ?_ ?_ ?_ (nL b) 9 ([], .nil) ([], .nil) [] (by simp) (by omega) (fun i x hx => by simp at hx) (fun _ => rfl) ⟨fun p hp => (by simp at hp), .inl ⟨rfl, rfl, rfl⟩⟩
 ·refine this.mono fun r hr => ?_
  rw [List.nil_append] at hr
  exact hr.2
 ·intro n s q T hl hqT hc hs
  show Ok (zAb _ _ _ _ _ _ _) _
  unfold zAb
  have c : ((q.1.length : Int) == (b.Letters.1.length : Int)) = true := by rw [beq_iff_eq]; rw [hl]
  have hq := (zPh.1 hqT).2.Ppl hf (by omega)
  simp only [c, cond_true]
  have clone : zbe k q = some (q.1, .ro) := by
   unfold zbe
   have c1 : decide (q.2 = .nil) = false := by simp [hc]
   have c2 : decide (q.1.length ≤ LIM) = true := by
    refine decide_eq_true ?_
    show q.1.length ≤ 1073741824
    omega
   rw [c1, c2]
   rfl
  obtain ⟨hT, hs⟩ := hs
  have hT' : ∀ p ∈ T ++ [q.1], p ∈ Tr b := fun p hp => by
   rcases List.mem_append.1 hp with hp | hp
   ·exact hT p hp
   ·rw [List.mem_singleton] at hp
    rw [hp]; exact hqT
  ·skip
   refine Ok.bind (P := fun r : Bool => r = true ↔ ∀ p ∈ T, zD q.1 < zD s.1) ?_ fun r hr => ?_
   ·unfold z4g
    refine Ok.cond (fun h => ?_) fun h => ?_
    ·have h : s.2 = .nil := by simpa using h
     rcases hs with ⟨rfl, _⟩ | ⟨h', _⟩
     ·exact Ok.pure ⟨fun _ p hp => (by simp at hp), fun _ => rfl⟩
     ·exact absurd h h'
    ·rcases hs with ⟨_, _, h'⟩ | ⟨_, h1, _⟩
     ·rw [h'] at h
      cases h
     ·have hsp := (zPh.1 (hT _ h1))
      unfold zuh
      rw [(zHj hk hq).eq]
      simp only [Option.bind_some]
      rw [(zHj hk (hsp.2.Ppl hf (by omega))).eq]
      refine Ok.pure ?_
      rw [decide_eq_true_eq]
      exact ⟨fun h _ _ => h, fun h => h _ h1⟩
   ·unfold z1g
    cases r with
    | true =>
     simp only [cond_true, clone, Option.bind_some]
     refine Ok.pure ⟨hT',   .inr ⟨fun e => (by cases e), List.mem_append.2 (.inr (List.mem_singleton.2 rfl)), fun p hp => ?_⟩⟩
     rcases List.mem_append.1 hp with hp | hp
     ·have h1 := hr.1 rfl p hp
      rcases hs with ⟨e, _⟩ | ⟨_, _, h2⟩
      ·rw [e] at hp; simp at hp
      ·have := h2 p hp
       show zD q.1 ≤ _
       omega
     ·rw [List.mem_singleton] at hp
      rw [hp]
      exact Int.le_refl _
    | false =>
     simp only [cond_false, Option.bind_some]
     refine Ok.pure ⟨hT', ?_⟩
     rcases hs with ⟨e, _⟩ | ⟨h0, h1, h2⟩
     ·have := hr.2 (by rw [e]; simp)
      cases this
     ·refine .inr ⟨h0, List.mem_append.2 (.inl h1), fun p hp => ?_⟩
      rcases List.mem_append.1 hp with hp | hp
      ·exact h2 p hp
      ·rw [List.mem_singleton] at hp
       rw [hp]
       apply Classical.byContradiction
       intro hn
       have := hr.2 fun _ _ => by
        have hn : ¬ zD s.1 ≤ zD q.1 := hn
        omega
       cases this
 ·intro n s q hl hp _
  show zAb _ _ _ _ _ _ _ = _
  unfold zAb
  have hl' : q.1.length < b.Letters.1.length := hl
  have c : ((q.1.length : Int) == (b.Letters.1.length : Int)) = false := by simp; omega
  simp only [c, cond_false]
  rw [(zHj hk hp).eq, Option.bind_some]
 ·intro n s q j hl hp hj
  have c : ¬ _ := fun h => hj ((zGi hf hp j).1 h)
  simp only [zgd, c, decide_false, cond_false]
 ·intro n s q j hl hp hj ho
  have c := (zGi hf hp j).2 hj
  have hlim := z7j hf q.1
  simp only [zgd, c, decide_true, cond_true]
  obtain ⟨r, hr, hiff⟩ := zEk hf hk hm hl (j : Int)
  have e : zMf k b v (b.Letters, b.Far, b.Apart, b.Most, m) q (zD q.1) j s (zqb k b v (b.Letters, b.Far, b.Apart, b.Most, m) n) = some r := hr
  rw [e]
  obtain rfl : r = true := hiff.2 ho
  simp only [Option.bind_some, cond_true, w8 (show j < 9 by omega)]
 ·intro n s q j hl hp hj ho
  have c := (zGi hf hp j).2 hj
  have hlim := z7j hf q.1
  simp only [zgd, c, decide_true, cond_true]
  obtain ⟨r, hr, hiff⟩ := zEk hf hk hm hl (j : Int)
  have e : zMf k b v (b.Letters, b.Far, b.Apart, b.Most, m) q (zD q.1) j s (zqb k b v (b.Letters, b.Far, b.Apart, b.Most, m) n) = some r := hr
  rw [e]
  obtain rfl : r = false := by
   cases r with
   | false => rfl
   | true => exact absurd ho (hiff.1 rfl)
  simp only [Option.bind_some, cond_false, zpr, zWp hp.1, cond_true, w8 (show j < 9 by omega)]
theorem zqw {k : Nat} {b : za} (hs : z2f b) (hk : Fuel k b) : Ok (z6f k b) (fun r => (¬ Fine b ∧ r.1.1 = [] ∧ r.2 = 80) ∨ (Fine b ∧ Tr b = [] ∧ r.1.1 = [] ∧ r.2 = 82) ∨ (Fine b ∧ r.1.1 ∈ Tr b ∧ r.2 = 0 ∧ ∀ p ∈ Tr b, zD r.1.1 ≤ zD p)) := by
 have k0 := hk.k0
 unfold z6f
 refine (znm hs hk).bind fun e he => ?_
 rcases he with ⟨rfl, hf⟩ | ⟨rfl, hf⟩
 ·refine Ok.cond (fun h => by cases h) fun _ => ?_
  unfold zOi
  rw [Option.bind_some]
  refine (zpn hs.apart hk.apart).bind fun v hv => ?_
  obtain ⟨m, rfl, hm⟩ := hv
  unfold zpb
  rw [Option.bind_some]
  refine (zzu hf (by omega) hm 0).bind fun r hr => ?_
  rcases hr with ⟨h1, h2, h3⟩ | ⟨h1, h2, h3⟩
  ·rw [h3]
   exact Ok.pure (.inr (.inl ⟨hf, h1, rfl, rfl⟩))
  ·have c : decide (r.2 = .nil) = false := by simp [h1]
   rw [c]
   exact Ok.pure (.inr (.inr ⟨hf, h2, rfl, h3⟩))
 ·exact Ok.cond (fun _ => Ok.pure (.inl ⟨hf, rfl, rfl⟩)) fun h => by cases h
theorem z9u {k : Nat} {b : za} (hs : z2f b) (hk : Fuel k b) : Ok (zff k b) (fun r => (¬ Fine b ∧ r = (0, 80)) ∨ (Fine b ∧ Tr b = [] ∧ r = (0, 82)) ∨ (Fine b ∧ r.2 = 0 ∧ ∃ q ∈ Tr b, r.1 = zD q ∧ ∀ p ∈ Tr b, zD q ≤ zD p)) := by
 have k0 := hk.k0
 unfold zff
 refine (zqw hs hk).bind fun r hr => ?_
 obtain ⟨⟨l, c⟩, e⟩ := r
 have hnil : l = [] → Ok (zEb k (l, c)) (fun r => r = 0) := by
  rintro rfl
  exact zHj (q := ([], c)) (by omega) ⟨by simp, by simp⟩
 rcases hr with ⟨h1, h2, h3⟩ | ⟨h1, h2, h3, h4⟩ | ⟨h1, h2, h3, h4⟩
 ·refine (hnil h2).bind fun r hr => Ok.pure (.inl ⟨h1, ?_⟩)
  rw [hr, h3]
 ·refine (hnil h3).bind fun r hr => Ok.pure (.inr (.inl ⟨h1, h2, ?_⟩))
  rw [hr, h4]
 ·have hq := zPh.1 h2
  refine (zHj (q := (l, c)) (by omega) (hq.2.Ppl h1 (by omega))).bind fun r hr => Ok.pure (.inr (.inr ⟨h1, h3, l, h2, hr, h4⟩))
end Go.AM
set_option linter.unusedVariables false
namespace Go.AM
open Go
theorem zAr {p q : Prop} [Decidable p] [Decidable q] {x y : Int} (h : p ↔ q) : (if p then x else y) = if q then x else y := by
 by_cases hp : p
 ·rw [if_pos hp, if_pos (h.1 hp)]
 ·rw [if_neg hp, if_neg fun e => hp (h.2 e)]
theorem zor (n : Int) : w64 n = if n % 18446744073709551616 ≥ 9223372036854775808 then n % 18446744073709551616 - 18446744073709551616 else n % 18446744073709551616 := by
 show IntKind.wrap .i64 n = _
 have e : IntKind.wrap .i64 n = if (true && decide (n % 18446744073709551616 ≥ 9223372036854775808)) = true then n % 18446744073709551616 - 18446744073709551616 else n % 18446744073709551616 := rfl
 rw [e]
 simp
theorem zps (n : Int) : w64 (w64 n + 1) = w64 (n + 1) := by
 rw [zor, zor n, zor (n + 1)]
 split <;> split <;> split <;> omega
theorem zUu {k : Nat} (hk : 100 < k) {b1 : zj} {v : (SL zn) × (SL (SL Int)) × (SL (Nat → Int)) × Int × (List (zl × Bool))} {u : Int} {rc : (List (zl × Int)) → Int → (SL Int) → Option ((List (zl × Int)) × Int)} {q : SL Int} (hl : q.1.length ≤ 8) {m : List (zl × Int)} (c : Nat → Nat → Int) (hm : ∀ i j : Nat, (zH zr ⟨i, j⟩ m).getD 0 = w64 (c i j)) :
  Ok (iter (fun s => zJc k b1 v u q rc s.1 s.2) k (0, m)) (fun r => ∀ i j : Nat, (zH zr ⟨i, j⟩ r.2).getD 0 = w64 (c i j + (if i < q.1.length ∧ j < q.1.length ∧ q.1[i]? = q.1[j]? then 1 else 0))) := by
 refine Ok.count q.1.length (fun n s => s.1 = (n : Int) ∧ ∀ i j : Nat, (zH zr ⟨i, j⟩ s.2).getD 0 = w64 (c i j + (if i < n ∧ j < q.1.length ∧ q.1[i]? = q.1[j]? then 1 else 0))) ?_ ?_ ⟨rfl, fun i j => by simp [hm]⟩ (by omega)
 ·rintro n ⟨i, s⟩ hn ⟨hi, hs⟩
  obtain rfl : i = (n : Int) := hi
  have hs : ∀ i j : Nat, (zH zr ⟨i, j⟩ s).getD 0 = w64 (c i j + (if i < n ∧ j < q.1.length ∧ q.1[i]? = q.1[j]? then 1 else 0)) := hs
  simp only [zJc, zub hn, cond_true, w8 (show n < 9 by omega)]
  refine Ok.bind (Ok.count q.1.length (fun n' z => z.1 = (n' : Int) ∧ ∀ i j : Nat, (zH zr ⟨i, j⟩ z.2).getD 0 = w64 (c i j + (if (i < n ∨ (i = n ∧ j < n')) ∧ j < q.1.length ∧ q.1[i]? = q.1[j]? then 1 else 0)))
   (Q := fun z => ∀ i j : Nat, (zH zr ⟨i, j⟩ z.2).getD 0 = w64 (c i j + (if i < n + 1 ∧ j < q.1.length ∧ q.1[i]? = q.1[j]? then 1 else 0))) ?_ ?_ ⟨rfl, fun i j => by rw [hs]; simp⟩ (by omega)) fun z hz => Ok.pure ⟨rfl, hz⟩
  ·rintro n' ⟨j, z⟩ hn' ⟨hj, hz⟩
   obtain rfl : j = (n' : Int) := hj
   have hz : ∀ i j : Nat, (zH zr ⟨i, j⟩ z).getD 0 = w64 (c i j + (if (i < n ∨ (i = n ∧ j < n')) ∧ j < q.1.length ∧ q.1[i]? = q.1[j]? then 1 else 0)) := hz
   simp only [zKd, zub hn', cond_true, w8 (show n' < 9 by omega), zR hn, zR hn', Option.bind_some, zef]
   have g1 := List.getElem?_eq_getElem hn
   have g2 := List.getElem?_eq_getElem hn'
   cases e : (q.1[n] == q.1[n']) with
   | true =>
    have e' : q.1[n] = q.1[n'] := by simpa using e
    simp only [cond_true, Option.bind_some]
    refine Ok.pure ⟨rfl, fun i j => ?_⟩
    show (zH _ _ (mset _ _ _ _)).getD 0 = _
    rw [zxq zTu]
    by_cases hij : i = n ∧ j = n'
    ·obtain ⟨rfl, rfl⟩ := hij
     rw [if_pos rfl, Option.getD_some, hz]
     have : ¬ ((i < i ∨ (i = i ∧ j < j)) ∧ j < q.1.length ∧ q.1[i]? = q.1[j]?) := by omega
     rw [if_neg this, if_pos ⟨.inr ⟨rfl, by omega⟩, hn', by rw [g1, g2, e']⟩, zps, Int.add_zero]
    ·have : ¬ (⟨(i : Int), (j : Int)⟩ : zl) = ⟨(n : Int), (n' : Int)⟩ := by
      intro h
      injection h with h1 h2
      exact hij ⟨by omega, by omega⟩
     rw [if_neg this, hz]
     congr 2
     refine zAr ?_
     constructor
     ·rintro ⟨h1, h2⟩
      exact ⟨by omega, h2⟩
     ·rintro ⟨h1, h2⟩
      exact ⟨by omega, h2⟩
   | false =>
    have e' : ¬ q.1[n] = q.1[n'] := by simpa using e
    simp only [cond_false, Option.bind_some]
    refine Ok.pure ⟨rfl, fun i j => ?_⟩
    show (zH _ _ z).getD 0 = _
    rw [hz]
    congr 2
    refine zAr ?_
    constructor
    ·rintro ⟨h1, h2⟩
     exact ⟨by omega, h2⟩
    ·rintro ⟨h1, h2, h3⟩
     refine ⟨?_, h2, h3⟩
     rcases h1 with h1 | ⟨rfl, h1⟩
     ·exact .inl h1
     ·by_cases hjn : j = n'
      ·subst hjn
       rw [g1, g2] at h3
       injection h3 with h3
       exact absurd h3 e'
      ·exact .inr ⟨rfl, by omega⟩
  ·rintro ⟨j, z⟩ ⟨hj, hz⟩
   obtain rfl : j = (q.1.length : Int) := hj
   simp only [zKd, zLd, cond_false]
   refine Ok.pure fun i j => ?_
   rw [hz]
   congr 2
   refine zAr ?_
   constructor
   ·rintro ⟨h1, h2⟩
    exact ⟨by omega, h2⟩
   ·rintro ⟨h1, h2⟩
    exact ⟨by omega, h2⟩
 ·rintro ⟨i, s⟩ ⟨hi, hs⟩
  obtain rfl : i = (q.1.length : Int) := hi
  simp only [zJc, zLd, cond_false]
  exact Ok.pure hs
def zMc (T : List (List Int)) (i j : Nat) : Nat := T.countP fun q => decide (i < q.length ∧ j < q.length ∧ q[i]? = q[j]?)
def zJm (T : List (List Int)) (s : List (zl × Int) × Int) : Prop := s.2 = w64 (T.length : Int) ∧ ∀ i j : Nat, (zH zr ⟨i, j⟩ s.1).getD 0 = w64 (zMc T i j : Int)
theorem zMu {k : Nat} {b : za} (hf : Fine b) (hk : 100 < k) {m : List (zl × Bool)} (hm : zcm b m) : Ok (z6 k ⟨b, m⟩ (b.Letters, b.Far, b.Apart, b.Most, m) 9 [] 0 ([], .nil)) (fun r => zJm (Tr b) r) := by
 have h8 := hf.nletters
 have := zur hf hk (fun n (s : List (zl × Int) × Int) q => z6 k ⟨b, m⟩ (b.Letters, b.Far, b.Apart, b.Most, m) n s.1 s.2 q)
  (fun n q z => z2b k ⟨b, m⟩ (b.Letters, b.Far, b.Apart, b.Most, m) q (zD q.1) (z6 k ⟨b, m⟩ (b.Letters, b.Far, b.Apart, b.Most, m) n) z.1 z.2.1 z.2.2)
  zJm ?_ ?_ ?_ ?_ ?_ (nL b) 9 ([], 0) ([], .nil) [] (by simp) (by omega) (fun i x hx => by simp at hx) (fun _ => rfl) ⟨by decide, fun i j => (by show (0 : Int) = w64 0; decide)⟩
 ·refine this.mono fun r hr => ?_
  rw [List.nil_append] at hr
  exact hr
 ·rintro n ⟨s, u⟩ q T hl _ _ hs
  show Ok (zab _ _ _ _ _ _ _) _
  unfold zab
  have c : ((q.1.length : Int) == (b.Letters.1.length : Int)) = true := by rw [beq_iff_eq]; rw [hl]
  simp only [c, cond_true]
  obtain ⟨hs1, hs2⟩ := hs
  have hs1 : u = w64 (T.length : Int) := hs1
  refine (zUu hk (by omega) (fun i j => (zMc T i j : Int)) hs2).bind fun r hr => Ok.pure ⟨?_, fun i j => ?_⟩
  ·show w64 _ = _
   rw [hs1, zps, List.length_append, List.length_singleton]
   push_cast
   rfl
  ·show (zH _ _ r.2).getD 0 = _
   rw [hr]
   unfold zMc
   rw [List.countP_append, List.countP_singleton]
   push_cast
   congr 2
   by_cases h : i < q.1.length ∧ j < q.1.length ∧ q.1[i]? = q.1[j]?
   ·rw [if_pos h, if_pos (by simpa using h)]; rfl
   ·rw [if_neg h, if_neg (by simpa using h)]; rfl
 ·intro n s q hl hp _
  show zab _ _ _ _ _ _ _ = _
  unfold zab
  have hl' : q.1.length < b.Letters.1.length := hl
  have c : ((q.1.length : Int) == (b.Letters.1.length : Int)) = false := by simp; omega
  simp only [c, cond_false]
  rw [(zHj hk hp).eq, Option.bind_some]
 ·intro n s q j hl hp hj
  have c : ¬ _ := fun h => hj ((zGi hf hp j).1 h)
  simp only [z2b, c, decide_false, cond_false]
 ·intro n s q j hl hp hj ho
  have c := (zGi hf hp j).2 hj
  have hlim := z7j hf q.1
  simp only [z2b, c, decide_true, cond_true]
  obtain ⟨r, hr, hiff⟩ := zEk hf hk hm hl (j : Int)
  have e : zpd k ⟨b, m⟩ (b.Letters, b.Far, b.Apart, b.Most, m) q (zD q.1) j s.1 s.2 (z6 k ⟨b, m⟩ (b.Letters, b.Far, b.Apart, b.Most, m) n) = some r := hr
  rw [e]
  obtain rfl : r = true := hiff.2 ho
  simp only [Option.bind_some, cond_true, w8 (show j < 9 by omega)]
 ·intro n s q j hl hp hj ho
  have c := (zGi hf hp j).2 hj
  have hlim := z7j hf q.1
  simp only [z2b, c, decide_true, cond_true]
  obtain ⟨r, hr, hiff⟩ := zEk hf hk hm hl (j : Int)
  have e : zpd k ⟨b, m⟩ (b.Letters, b.Far, b.Apart, b.Most, m) q (zD q.1) j s.1 s.2 (z6 k ⟨b, m⟩ (b.Letters, b.Far, b.Apart, b.Most, m) n) = some r := hr
  rw [e]
  obtain rfl : r = false := by
   cases r with
   | false => rfl
   | true => exact absurd ho (hiff.1 rfl)
  simp only [Option.bind_some, cond_false, zpr, zWp hp.1, cond_true, w8 (show j < 9 by omega)]
noncomputable def zcj (b : za) (i j : Nat) : Int := if zMc (Tr b) i j = (Tr b).length then 2 else if zMc (Tr b) i j = 0 then 0 else 1
theorem zKr {b : za} {i j : Nat} (hi : i < nL b) (hj : j < nL b) : zcj b i j = 2 ↔ ∀ q ∈ Tr b, q[i]? = q[j]? := by
 have e : zMc (Tr b) i j = (Tr b).length ↔ ∀ q ∈ Tr b, q[i]? = q[j]? := by
  unfold zMc
  rw [List.countP_eq_length]
  constructor
  ·intro h q hq
   have := h q hq
   simp only [decide_eq_true_eq] at this
   exact this.2.2
  ·intro h q hq
   have := (zPh.1 hq).1
   simp only [decide_eq_true_eq]
   exact ⟨by omega, by omega, h q hq⟩
 rw [← e]
 unfold zcj
 constructor
 ·intro h
  apply Classical.byContradiction
  intro hn
  rw [if_neg hn] at h
  split at h <;> omega
 ·intro h
  rw [if_pos h]
theorem zMv {b : za} {i j : Nat} (hi : i < nL b) (hj : j < nL b) (ht : Tr b ≠ []) : zcj b i j = 0 ↔ ∀ q ∈ Tr b, q[i]? ≠ q[j]? := by
 have e : zMc (Tr b) i j = 0 ↔ ∀ q ∈ Tr b, q[i]? ≠ q[j]? := by
  unfold zMc
  rw [List.countP_eq_zero]
  constructor
  ·intro h q hq he
   have := (zPh.1 hq).1
   exact h q hq (by simp only [decide_eq_true_eq]; exact ⟨by omega, by omega, he⟩)
  ·intro h q hq he
   simp only [decide_eq_true_eq] at he
   exact h q hq he.2.2
 rw [← e]
 have hpos : 0 < (Tr b).length := List.length_pos_iff.2 ht
 unfold zcj
 constructor
 ·intro h
  split at h
  ·omega
  ·split at h
   ·assumption
   ·omega
 ·intro h
  rw [if_neg (by omega), if_pos h]
theorem zMs {k : Nat} {b : za} (hf : Fine b) {s : z7} (hs : zJm (Tr b) (s.same, s.many)) (i j : Nat) : zmd k s i j = some (zcj b i j) := by
 obtain ⟨h1, h2⟩ := hs
 have h1 : s.many = w64 ((Tr b).length : Int) := h1
 have h2 : (zH zr ⟨i, j⟩ s.same).getD 0 = w64 (zMc (Tr b) i j : Int) := h2 i j
 have hlen := zit hf
 have hle : zMc (Tr b) i j ≤ (Tr b).length := List.countP_le_length
 unfold zmd zcj
 rw [h1, h2, zfd (by omega) (by omega), zfd (by omega) (by omega)]
 by_cases e : zMc (Tr b) i j = (Tr b).length
 ·rw [if_pos e]
  have c : (((zMc (Tr b) i j : Nat) : Int) == ((Tr b).length : Int)) = true := by rw [beq_iff_eq]; omega
  rw [c, cond_true]
 ·rw [if_neg e]
  have c : (((zMc (Tr b) i j : Nat) : Int) == ((Tr b).length : Int)) = false := by rw [beq_eq_false_iff_ne]; omega
  rw [c, cond_false]
  by_cases e0 : zMc (Tr b) i j = 0
  ·rw [if_pos e0]
   have c : (((zMc (Tr b) i j : Nat) : Int) == 0) = true := by rw [beq_iff_eq]; omega
   rw [c, cond_true]
  ·rw [if_neg e0]
   have c : (((zMc (Tr b) i j : Nat) : Int) == 0) = false := by rw [beq_eq_false_iff_ne]; omega
   rw [c, cond_false]
theorem zHs {k : Nat} {b : za} (hs : z2f b) (hk : Fuel k b) : Ok (zOd k b true) (fun r => (¬ Fine b ∧ r.2 = 80) ∨ (Fine b ∧ Tr b = [] ∧ r.2 = 82) ∨ (Fine b ∧ Tr b ≠ [] ∧ r.2 = 0 ∧ zJm (Tr b) (r.1.same, r.1.many))) := by
 have k0 := hk.k0
 unfold zOd
 refine (znm hs hk).bind fun e he => ?_
 rcases he with ⟨rfl, hf⟩ | ⟨rfl, hf⟩
 ·refine Ok.cond (fun h => by cases h) fun _ => Ok.cond (fun h => by cases h) fun _ => ?_
  refine (zpn hs.apart hk.apart).bind fun v hv => ?_
  obtain ⟨m, rfl, hm⟩ := hv
  unfold zLg zpb
  rw [Option.bind_some]
  refine Ok.bind ((zMu hf (by omega) hm).bind fun r hr => Ok.pure (Q := fun z : z7 => zJm (Tr b) (z.same, z.many)) hr) fun z hz => ?_
  have hlen := zit hf
  have hz1 : z.many = w64 ((Tr b).length : Int) := hz.1
  rw [zfd (by omega) (by omega)] at hz1
  refine Ok.cond (fun h => ?_) fun h => ?_
  ·rw [beq_iff_eq, hz1] at h
   refine Ok.pure (.inr (.inl ⟨hf, List.length_eq_zero_iff.1 (by omega), rfl⟩))
  ·rw [beq_eq_false_iff_ne, hz1] at h
   exact Ok.pure (.inr (.inr ⟨hf, fun e => h (by rw [e]; rfl), rfl, hz⟩))
 ·exact Ok.cond (fun _ => Ok.pure (.inl ⟨hf, rfl⟩)) fun h => by cases h
theorem zUw {k : Nat} {b : za} (hs : z2f b) (hk : Fuel k b) {i j : Nat} (hi : i < nL b) (hj : j < nL b) : Ok (zwg k b i j) (fun r => (¬ Fine b ∧ r = (0, 80)) ∨ (Fine b ∧ Tr b = [] ∧ r = (0, 82)) ∨ (Fine b ∧ Tr b ≠ [] ∧ r = (zcj b i j, 0))) := by
 unfold zwg zth
 have hl := hs.letters
 have c : ∀ x : Nat, x < nL b → zT k (x : Int) 0 (w64 ((b.Letters.1.length : Int) - 1)) = some true := by
  intro x hx
  have hx' : x < b.Letters.1.length := hx
  rw [zDj, zXp hl]
  congr 1
  simp only [Bool.and_eq_true, decide_eq_true_eq]
  omega
 rw [c i hi, Option.bind_some, cond_true, c j hj, Option.bind_some]
 refine Ok.bind ((zHs hs hk).bind fun r hr => Ok.pure (Q := fun z : Int × Int × List (zl × Int) => (¬ Fine b ∧ z.1 = 80) ∨ (Fine b ∧ Tr b = [] ∧ z.1 = 82) ∨ (Fine b ∧ Tr b ≠ [] ∧ z.1 = 0 ∧ zJm (Tr b) (z.2.2, z.2.1))) hr) fun z hz => ?_
 obtain ⟨e, n, m⟩ := z
 rcases hz with ⟨h1, h2⟩ | ⟨h1, h2, h3⟩ | ⟨h1, h2, h3, h4⟩
 ·have h2 : e = 80 := h2
  subst h2
  exact Ok.pure (.inl ⟨h1, rfl⟩)
 ·have h3 : e = 82 := h3
  subst h3
  exact Ok.pure (.inr (.inl ⟨h1, h2, rfl⟩))
 ·have h3 : e = 0 := h3
  subst h3
  refine Ok.cond (fun h => by cases h) fun _ => ?_
  rw [zMs h1 (s := ⟨n, m⟩) h4]
  exact Ok.pure (.inr (.inr ⟨h1, h2, rfl⟩))
end Go.AM
set_option linter.unusedVariables false
namespace Go.AM
open Go
theorem znt {k : Nat} {a : Int} {n : Nat} (hn : 1 ≤ n) (hn2 : n < 9223372036854775808) : Ok (zNd k a (n : Int)) (fun r => ∃ i : Nat, r = (i : Int) ∧ i < n) := by
 unfold zNd
 have c1 : decide ((n : Int) < 1) = false := by simp; omega
 have c2 : ((n : Int) == 0) = false := by simp; omega
 rw [c1, c2, cond_false, cond_false]
 have h1 := Int.tmod_lt_of_pos a (show (0 : Int) < n by omega)
 have h2 : -(n : Int) < a.tmod n := Int.lt_tmod_of_pos a (show (0 : Int) < n by omega)
 cases hc : decide (a.tmod (n : Int) < 0) with
 | true =>
  have := of_decide_eq_true hc
  simp only [zGd, cond_true, Option.bind_some]
  refine Ok.pure ⟨(a.tmod n + n).toNat, ?_, by omega⟩
  rw [zfd (by omega) (by omega)]
  omega
 | false =>
  have := of_decide_eq_false hc
  simp only [zGd, cond_false, Option.bind_some]
  exact Ok.pure ⟨(a.tmod n).toNat, by omega, by omega⟩
theorem zIk (k : Nat) (a b c : Int) : zU k a b c = some (decide (b ≤ a) && decide (a ≤ c)) := by
 simp only [zU, z1d]
theorem z6u (k : Nat) (s : zN) (a b : Int) : zee k s a b = some (decide (a ≤ s.Low) && (decide (s.Low ≤ s.High) && decide (s.High ≤ b))) := by
 simp only [zee, z1d]
def z8k (b : za) : Prop := Fine b ∧ ∀ p ∈ b.Apart.1, 0 ≤ p 0 ∧ 0 ≤ p 1
theorem zYv {k : Nat} {b : za} (hs : z2f b) (hk : Fuel k b) : Ok (zCe k b) (fun r => r = true → z8k b) := by
 unfold zCe
 have c1 : ∀ {α : Type} {l : List α}, decide ((l.length : Int) < (l.length : Int)) = false := zLd
 refine Ok.bind (P := fun r => r = true → Fine b) ?_ fun r1 h1 => ?_
 ·unfold zSe
  refine (znm hs hk).bind fun e he => ?_
  rcases he with ⟨rfl, hf⟩ | ⟨rfl, hf⟩
  ·simp only [zIk, Option.bind_some, z1d]
   exact Ok.pure fun _ => hf
  ·exact Ok.cond (fun h => by cases h) fun _ => Ok.pure fun h => by cases h
 refine Ok.bind (Ok.everyW b.Far.1 (fun r => r.1.length = b.Far.1.length ∧ ∀ n ∈ r.1, 0 ≤ n ∧ n ≤ 400) (fun j hj => ?_) (fun i => by simp [zpc, zoc]) (by simp [zpc, zoc]) hk.far) fun r2 h2 => ?_
 ·have hrow := List.getElem_mem hj
  simp only [zpc, zoc, zub hj, cond_true, zR hj, Option.bind_some, z5f hj hs.far]
  refine Ok.bind (Ok.everyW b.Far.1[j].1 (fun n => 0 ≤ n ∧ n ≤ 400) (fun i hi => ?_) (fun i => by simp [zuc, zcc]) (by simp [zuc, zcc, zR hj]) (hk.rows _ hrow)) fun z hz => ?_
  ·simp only [zuc, zcc, cond_true, zR hj, Option.bind_some, zub hi, zR hi, zIk, z5f hi (hs.rows _ hrow)]
   refine Ok.pure ⟨_, rfl, ?_⟩
   simp only [Bool.and_eq_true, decide_eq_true_eq]
  ·refine Ok.pure ⟨_, rfl, ?_⟩
   rw [hz, beq_iff_eq]
   constructor
   ·rintro ⟨h1, h2⟩
    exact ⟨by omega, h2⟩
   ·rintro ⟨h1, h2⟩
    exact ⟨by omega, h2⟩
 refine Ok.bind (Ok.everyW b.Letters.1 (fun x => (0 ≤ x.Day ∧ x.Day ≤ 20000) ∧ (0 ≤ x.Place ∧ x.Place ≤ (b.Far.1.length : Int) - 1) ∧ (0 ≤ x.Born.Low ∧ x.Born.Low ≤ x.Born.High ∧ x.Born.High ≤ 200)) (fun j hj => ?_) (fun i => by simp [zfc, zdc]) (by simp [zfc, zdc]) hk.letters) fun r3 h3 => ?_
 ·simp only [zfc, zdc, zub hj, cond_true, zR hj, Option.bind_some, z5f hj hs.letters, zse, zIk, z6u, z1d, zXp hs.far]
  refine Ok.pure ⟨_, rfl, ?_⟩
  simp only [Bool.and_eq_true, decide_eq_true_eq]
 refine Ok.bind (Ok.everyW b.Apart.1 (fun p => (0 ≤ p 0 ∧ p 0 ≤ (b.Letters.1.length : Int) - 1) ∧ (0 ≤ p 1 ∧ p 1 ≤ (b.Letters.1.length : Int) - 1)) (fun j hj => ?_) (fun i => by simp [zac, zgc]) (by simp [zac, zgc]) hk.apart) fun r4 h4 => ?_
 ·simp only [zac, zgc, zub hj, cond_true, zR hj, Option.bind_some, z5f hj hs.apart, zme, zIk, z1d, zXp hs.letters]
  refine Ok.pure ⟨_, rfl, ?_⟩
  simp only [Bool.and_eq_true, decide_eq_true_eq]
 refine Ok.pure fun h => ?_
 obtain ⟨h5, h6⟩ := h4.1 h
 obtain ⟨h7, _⟩ := h3.1 h5
 obtain ⟨h8, _⟩ := h2.1 h7
 exact ⟨h1 h8, fun p hp => ⟨(h6 p hp).1.1, (h6 p hp).2.1⟩⟩
structure z2n (n : Nat) (b x : za) : Prop where
 most : b.Most ≤ x.Most
 day : ∀ i, i < n → (lt x i).Day = (lt b i).Day
 dead : ∀ i, i < n → (lt x i).Dead = (lt b i).Dead
 account : ∀ i, i < n → (lt x i).Account = (lt b i).Account
 low : ∀ i, i < n → (lt x i).Born.Low ≤ (lt b i).Born.Low
 high : ∀ i, i < n → (lt b i).Born.High ≤ (lt x i).Born.High
 far : ∀ i j, i < n → j < n → farB x i j ≤ farB b i j
 apart : ∀ i j, AP x i j → AP b i j
theorem z2n.step {n : Nat} {b x : za} (h : z2n n b x) {p : List Int} {w : Int} (hp : p.length < n) (hs : zvo (lim b) (okP b) p w) : zvo (lim x) (okP x) p w := by
 obtain ⟨h1, h2, h3, h4⟩ := hs
 have hlim : lim b p ≤ lim x p := by
  have := h.most
  unfold lim
  split <;> split <;> omega
 have wr : ∀ i, zPb p w i = true → i < n := fun i hi => by
  have : p[i]? = some w := by simpa [zPb] using hi
  have := (List.getElem?_eq_some_iff.1 this).1
  omega
 have inn : ∀ i, InL (zPb p w) p.length i → i < n := fun i hi => by
  rcases hi with rfl | hi
  ·exact hp
  ·exact wr i hi.2
 refine ⟨h1, by omega, fun i y hy ha he => ?_, ?_⟩
 ·have hi : i < n := by
   have := (List.getElem?_eq_some_iff.1 hy).1
   omega
  rw [h.account i hi] at ha he
  rw [h.account _ hp] at he
  exact h3 i y hy ha he
 ·rcases h4 with h4 | ⟨g1, g2, g3, g4⟩
  ·exact .inl h4
  ·refine .inr ⟨fun i j hi hj => ?_, fun j hj => ?_, fun j hj => ?_, fun i hi hl ha => g4 i hi hl (h.apart _ _ ha)⟩
   ·have e1 := h.low i (inn i hi)
    have e2 := h.high j (inn j hj)
    have := g1 i j hi hj
    omega
   ·have hjn := wr j hj.2.1
    have e1 := h.far j p.length hjn hp
    rw [h.day _ hp, h.day _ hjn]
    exact Int.le_trans e1 (g2 j hj)
   ·rw [h.dead _ (wr j hj.2.1)]
    exact g3 j hj
theorem z2n.pre {n : Nat} {b x : za} (h : z2n n b x) {q : List Int} (hq : q.length ≤ n) (hp : Pre b q) : Pre x q := by
 intro i w hw
 have hi := (List.getElem?_eq_some_iff.1 hw).1
 exact h.step (by rw [List.length_take]; omega) (hp i w hw)
end Go.AM
set_option linter.unusedVariables false
namespace Go.AM
open Go
theorem z8u {b : za} (hb : z8k b) {p : Nat → Int} (hp : p ∈ b.Apart.1) : 0 ≤ p 0 ∧ p 0 < p 1 ∧ p 1 < (nL b : Int) := by
 obtain ⟨i, hi, rfl⟩ := List.getElem_of_mem hp
 obtain ⟨h1, h2, _⟩ := hb.1.apart i hi
 obtain ⟨h3, h4⟩ := hb.2 _ hp
 have hl := hb.1.nletters
 rw [zfd (by omega) (by omega)] at h1
 exact ⟨h3, by omega, h2⟩
theorem z4u {f : Nat → Bool} (h : letN f ≠ []) : ∃ (g : (letN f).length - 1 < (letN f).length), zEm f ((letN f)[(letN f).length - 1]) := by
 have hpos := List.length_pos_iff.2 h
 have hlt : (letN f).length - 1 < (letN f).length := by omega
 refine ⟨hlt, ?_⟩
 have hm := zyc.1 (List.getElem_mem hlt)
 refine ⟨hm.1, hm.2, fun i hi1 hi2 => ?_⟩
 cases hli : f i with
 | false => rfl
 | true =>
  obtain ⟨a, ha, hx⟩ := List.getElem_of_mem (zyc.2 ⟨hi2, hli⟩)
  by_cases e : a = (letN f).length - 1
  ·subst e
   omega
  ·have := List.pairwise_iff_getElem.1 (z0i f) a _ ha hlt (by omega)
   omega
theorem zBv (k : Nat) (s t : zN) : zZf k s t = some ⟨if t.Low > s.Low then t.Low else s.Low, if t.High < s.High then t.High else s.High⟩ := rfl
theorem zYr {k : Nat} {b : za} (hb : z8k b) (hs : z2f b) (hk : Fuel k b) {l : SL Int} {f : Nat → Bool} {n : Nat} (hl : l.1 = zxe (letN f)) (hf : ∀ i, i < 8 → f i = true → i < n) (hn : n < nL b) : Ok (zmc k b l (n : Int)) (fun r => r = true ↔ CanP b f n) := by
 unfold zmc
 have k0 := hk.k0
 have hfine := hb.1
 have hlen := ztj f
 have hll : l.1.length = (letN f).length := by rw [hl]; simp
 refine Ok.cond (fun h => ?_) fun h => ?_
 ·have h : (l.1.length : Int) = 0 := by simpa using h
  refine Ok.pure ⟨fun _ => .inl fun i hi => ?_, fun _ => rfl⟩
  cases hc : f i with
  | false => rfl
  | true =>
   have := List.length_pos_of_mem (zyc.2 ⟨hi, hc⟩)
   omega
 ·have h : ¬ (l.1.length : Int) = 0 := by simpa using h
  have hne : letN f ≠ [] := fun e => by rw [e] at hll; simp at hll; exact h (by rw [hll]; rfl)
  obtain ⟨hlt, hlast⟩ := z4u hne
  have e1 : w64 ((l.1.length : Int) - 1) = (((letN f).length - 1 : Nat) : Int) := by
   rw [zfd (by omega) (by omega)]
   omega
  rw [e1]
  have e2 : idx l.1 (((letN f).length - 1 : Nat) : Int) = some (((letN f)[(letN f).length - 1] : Nat) : Int) := by rw [hl]; exact zgj hlt
  rw [e2]
  simp only [Option.bind_some]
  generalize hj : (letN f)[(letN f).length - 1] = j at *
  have hjn := hf j hlast.1 hlast.2.1
  rw [zTd (show j < nL b by omega)]
  simp only [Option.bind_some]
  rw [zTd hn]
  simp only [Option.bind_some]
  have hcan : CanP b f n ↔ z2l b f n ∧ WayP b f n ∧ zWk b f ∧ zBi b f n := by
   refine ⟨fun h => h.elim (fun h => ?_) id, .inr⟩
   have h1 := hlast.2.1
   rw [h j hlast.1] at h1
   exact absurd h1 (by decide)
  rw [hcan]
  refine Ok.bind (Ok.count (letN f).length (fun j s => s.1 = (j : Int) ∧ (∃ i, (i = n ∨ i ∈ (letN f).take j) ∧ s.2.1 = (lt b i).Born.Low) ∧ (∃ i, (i = n ∨ i ∈ (letN f).take j) ∧ s.2.2 = (lt b i).Born.High) ∧ (∀ i, (i = n ∨ i ∈ (letN f).take j) → (lt b i).Born.Low ≤ s.2.1 ∧ s.2.2 ≤ (lt b i).Born.High) ∧ ∀ i ∈ (letN f).take j, ¬ AP b (i : Int) (n : Int))
   (Q := fun r : (Int × Int × Int × Int) ⊕ (Int × Int × Int) => match r with
    | .inl _ => ¬ zBi b f n
    | .inr s => zBi b f n ∧ (s.2.1 ≤ s.2.2 ↔ z2l b f n)) ?_ ?_ ⟨rfl, ⟨n, .inl rfl, rfl⟩, ⟨n, .inl rfl, rfl⟩, ?_, by simp⟩ (by omega)) fun r hr => ?_
  ·rintro a ⟨i, lo, hi⟩ ha ⟨hji, ⟨i1, h1, e1⟩, ⟨i2, h2, e2⟩, h3, h4⟩
   obtain rfl : i = (a : Int) := hji
   have e1 : lo = _ := e1
   have e2 : hi = _ := e2
   have h3 : ∀ i, (i = n ∨ i ∈ (letN f).take a) → (lt b i).Born.Low ≤ lo ∧ hi ≤ (lt b i).Born.High := h3
   have ha' : (a : Int) < (l.1.length : Int) := by omega
   have hm := zyc.1 (List.getElem_mem ha)
   have hx := hf _ hm.1 hm.2
   have e3 : idx l.1 (a : Int) = some (((letN f)[a] : Nat) : Int) := by rw [hl]; exact zgj ha
   simp only [z8c, ha', decide_true, cond_true, e3, Option.bind_some, w8 (show a < 9 by omega)]
   have hnx : (letN f)[a] < nL b := by omega
   rw [zTd hnx]
   simp only [Option.bind_some, zBv]
   have tk : ∀ i, (i = n ∨ i ∈ (letN f).take (a + 1)) ↔ ((i = n ∨ i ∈ (letN f).take a) ∨ i = (letN f)[a]) := fun i => by
    rw [List.take_succ_eq_append_getElem ha, List.mem_append, List.mem_singleton, or_assoc]
   have tk' : ∀ i, i ∈ (letN f).take (a + 1) ↔ (i ∈ (letN f).take a ∨ i = (letN f)[a]) := fun i => by
    rw [List.take_succ_eq_append_getElem ha, List.mem_append, List.mem_singleton]
   generalize hgx : (letN f)[a] = x at *
   refine Ok.bind (Ok.count b.Apart.1.length (fun c s => s = (c : Int) ∧ ∀ p ∈ b.Apart.1.take c, ¬ (p 0 = (x : Int) ∧ p 1 = (n : Int))) (Q := fun r : Int ⊕ Int => match r with
    | .inl _ => AP b x n
    | .inr _ => ¬ AP b x n) ?_ ?_ ⟨rfl, by simp⟩ hk.apart) fun r hr => ?_
   ·rintro c s hc ⟨rfl, hg⟩
    obtain ⟨p0, p1, p2⟩ := z8u hb (List.getElem_mem hc)
    have ej : zbd k b l (n : Int) (lt b j) (lt b n) (a : Int) ⟨if (lt b x).Born.Low > lo then (lt b x).Born.Low else lo, if (lt b x).Born.High < hi then (lt b x).Born.High else hi⟩ (c : Int) = some (decide (b.Apart.1[c] 0 = (x : Int) ∧ b.Apart.1[c] 1 = (n : Int))) := by
     simp only [zbd, zR hc, Option.bind_some, e3]
     by_cases g0 : b.Apart.1[c] 0 = (x : Int)
     ·rw [show (b.Apart.1[c] 0 == (x : Int)) = true by simp [g0], cond_true]
      by_cases g1 : b.Apart.1[c] 1 = (n : Int)
      ·rw [show (b.Apart.1[c] 1 == (n : Int)) = true by simp [g1], cond_true]
       simp [g0, g1]
      ·rw [show (b.Apart.1[c] 1 == (n : Int)) = false by simp [g1], cond_false]
       rw [show (b.Apart.1[c] 1 == (x : Int)) = false by simp; omega, cond_false]
       simp [g1]
     ·rw [show (b.Apart.1[c] 0 == (x : Int)) = false by simp [g0], cond_false]
      by_cases g1 : b.Apart.1[c] 1 = (x : Int)
      ·rw [show (b.Apart.1[c] 1 == (x : Int)) = true by simp [g1], cond_true]
       rw [show (b.Apart.1[c] 0 == (n : Int)) = false by simp; omega]
       simp [g0]
      ·rw [show (b.Apart.1[c] 1 == (x : Int)) = false by simp [g1], cond_false]
       simp [g0]
    simp only [zdd, zub hc, cond_true, ej, Option.bind_some, z5f hc hs.apart]
    refine Ok.cond (fun h => ?_) fun h => ?_
    ·exact Ok.pure ⟨_, List.getElem_mem hc, of_decide_eq_true h⟩
    ·refine Ok.pure ⟨rfl, fun p hp => ?_⟩
     rw [List.take_succ_eq_append_getElem hc] at hp
     rcases List.mem_append.1 hp with hp | hp
     ·exact hg p hp
     ·rw [List.mem_singleton] at hp
      rw [hp]
      exact of_decide_eq_false h
   ·rintro s ⟨rfl, hg⟩
    simp only [zdd, zLd, cond_false]
    rw [List.take_length] at hg
    exact Ok.pure fun ⟨p, hp, h⟩ => hg p hp h
   ·cases r with
    | inl z => exact Ok.pure fun hp => hp x hm.1 hm.2 hr
    | inr z =>
     refine Ok.pure ⟨rfl, ?_, ?_, ?_, ?_⟩
     ·show ∃ i, _ ∧ (if (lt b x).Born.Low > lo then (lt b x).Born.Low else lo) = _
      split
      ·exact ⟨x, (tk x).2 (.inr rfl), rfl⟩
      ·exact ⟨i1, (tk i1).2 (.inl h1), e1⟩
     ·show ∃ i, _ ∧ (if (lt b x).Born.High < hi then (lt b x).Born.High else hi) = _
      split
      ·exact ⟨x, (tk x).2 (.inr rfl), rfl⟩
      ·exact ⟨i2, (tk i2).2 (.inl h2), e2⟩
     ·intro i h
      show (lt b i).Born.Low ≤ (if (lt b x).Born.Low > lo then (lt b x).Born.Low else lo) ∧ (if (lt b x).Born.High < hi then (lt b x).Born.High else hi) ≤ (lt b i).Born.High
      rcases (tk i).1 h with h | rfl
      ·have := h3 i h
       constructor <;> split <;> omega
      ·constructor <;> split <;> omega
     ·intro i h
      rcases (tk' i).1 h with h | rfl
      ·exact h4 i h
      ·exact hr
  ·rintro ⟨i, lo, hi⟩ ⟨hji, ⟨i1, h1, e1⟩, ⟨i2, h2, e2⟩, h3, h4⟩
   obtain rfl : i = ((letN f).length : Int) := hji
   have ha' : ¬ ((letN f).length : Int) < (l.1.length : Int) := by omega
   simp only [z8c, ha', decide_false, cond_false]
   rw [List.take_length] at h1 h2 h3 h4
   have e1 : lo = _ := e1
   have e2 : hi = _ := e2
   have inl : ∀ i, InL f n i ↔ (i = n ∨ i ∈ letN f) := fun i => by unfold InL; rw [zyc]
   refine Ok.pure ⟨fun i hi hli => h4 i (zyc.2 ⟨hi, hli⟩), ⟨fun h i j hi' hj' => ?_, fun h => ?_⟩⟩
   ·have g1 := (h3 i ((inl i).1 hi')).1
    have g2 := (h3 j ((inl j).1 hj')).2
    have h : lo ≤ hi := h
    have g1 : _ ≤ lo := g1
    have g2 : hi ≤ _ := g2
    omega
   ·show lo ≤ hi
    rw [e1, e2]
    exact h _ _ ((inl _).2 h1) ((inl _).2 h2)
  ·intro i h
   rcases h with rfl | h
   ·exact ⟨Int.le_refl _, Int.le_refl _⟩
   ·simp at h
  ·cases r with
   | inl z => exact Ok.pure ⟨fun h => (by cases h), fun h => absurd h.2.2.2 hr⟩
   | inr z =>
    obtain ⟨hp, hbn⟩ := hr
    have hdeath : zWk b f ↔ (lt b j).Dead = false := ⟨fun h => h j hlast, fun h i hi => by rw [← hlast.one hi]; exact h⟩
    have hway : WayP b f n ↔ farB b j n ≤ (lt b n).Day - (lt b j).Day := ⟨fun h => h j hlast, fun h i hi => by rw [← hlast.one hi]; exact h⟩
    obtain ⟨row, r1, r2, r3⟩ := zLu hfine (show j < nL b by omega) hn
    have d1 := z0q hfine (show j < nL b by omega)
    have d2 := z0q hfine hn
    show Ok (cond (!(lt b j).Dead) _ _) _
    rw [hdeath, hway]
    cases hd : (lt b j).Dead with
    | true => exact Ok.pure ⟨fun h => (by cases h), fun h => (by cases h.2.2.1)⟩
    | false =>
     simp only [Bool.not_false, cond_true]
     rw [r1]
     simp only [Option.bind_some]
     rw [r2]
     simp only [Option.bind_some]
     rw [zfd (by omega) (by omega)]
     refine Ok.cond (fun h => ?_) fun h => ?_
     ·refine Ok.pure ?_
      have h := of_decide_eq_true h
      rw [decide_eq_true_eq]
      exact ⟨fun g => ⟨hbn.1 g, h, by trivial, hp⟩, fun g => hbn.2 g.1⟩
     ·have h := of_decide_eq_false h
      exact Ok.pure ⟨fun g => (by cases g), fun g => absurd g.2.1 h⟩
end Go.AM
set_option linter.unusedVariables false
namespace Go.AM
open Go
def z7h (P : List Int → Int → Prop) (q : List Int) : Prop := ∀ i x, q[i]? = some x → P (q.take i) x
theorem z7h.nil {P : List Int → Int → Prop} : z7h P [] := fun i x hx => by simp at hx
theorem z7h.snoc {P : List Int → Int → Prop} {q : List Int} {w : Int} : z7h P (q ++ [w]) ↔ z7h P q ∧ P q w := by
 constructor
 ·intro h
  refine ⟨fun i x hx => ?_, ?_⟩
  ·have hi := (List.getElem?_eq_some_iff.1 hx).1
   have := h i x (by rw [List.getElem?_append_left hi]; exact hx)
   rwa [List.take_append_of_le_length (by omega)] at this
  ·have := h q.length w (by simp)
   rwa [List.take_left' rfl] at this
 ·rintro ⟨h1, h2⟩ i x hx
  by_cases hi : i < q.length
  ·rw [List.getElem?_append_left hi] at hx
   rw [List.take_append_of_le_length (by omega)]
   exact h1 i x hx
  ·have hlt := (List.getElem?_eq_some_iff.1 hx).1
   simp only [List.length_append, List.length_cons, List.length_nil] at hlt
   obtain rfl : i = q.length := by omega
   simp at hx
   subst hx
   rw [List.take_left' rfl]
   exact h2
theorem z7h.take {P : List Int → Int → Prop} {q : List Int} (h : z7h P q) (i : Nat) : z7h P (q.take i) := by
 intro j x hx
 have hj : j < i := by
  have := (List.getElem?_eq_some_iff.1 hx).1
  rw [List.length_take] at this
  omega
 rw [List.getElem?_take, if_pos hj] at hx
 rw [List.take_take, Nat.min_eq_left (by omega)]
 exact h j x hx
def zlk (b : za) : List Int → Prop := z7h fun p x => 0 ≤ x ∧ x ≤ zD p ∧ CanP b (zPb p x) p.length
def AccP (b : za) : List Int → Prop := z7h fun p x => zCp b p p.length x
theorem zUp {b : za} {q : List Int} : zlk b q → (0 ≤ zD q ∧ zD q ≤ q.length) ∧ ∀ x ∈ q, 0 ≤ x ∧ x + 1 ≤ q.length := by
 refine zOp (P := fun q => zlk b q → (0 ≤ zD q ∧ zD q ≤ q.length) ∧ ∀ x ∈ q, 0 ≤ x ∧ x + 1 ≤ q.length) ?_ ?_ q
 ·intro _
  exact ⟨⟨by decide, by decide⟩, by simp⟩
 ·intro q w ih h
  obtain ⟨h1, h2, h3, _⟩ := z7h.snoc.1 h
  obtain ⟨⟨g1, g2⟩, g3⟩ := ih h1
  rw [zOe, List.length_append, List.length_singleton]
  refine ⟨⟨by split <;> omega, by split <;> omega⟩, fun x hx => ?_⟩
  rcases List.mem_append.1 hx with hx | hx
  ·have := g3 x hx
   omega
  ·rw [List.mem_singleton] at hx
   omega
theorem zlk.ppl {b : za} {q : List Int} (h : zlk b q) (hl : q.length ≤ 8) : Ppl q :=
 ⟨hl, fun x hx => by have := (zUp h).2 x hx; omega⟩
theorem zUt {b : za} (hf : Fine b) {q : List Int} : q ∈ Tr b ↔ q.length = nL b ∧ zlk b q ∧ AccP b q ∧ zD q ≤ b.Most := by
 have hm := hf.most
 rw [zPh]
 constructor
 ·rintro ⟨h1, h2⟩
  have lt_ : ∀ i x, q[i]? = some x → (q.take i).length = i := fun i x hx => by
   have := (List.getElem?_eq_some_iff.1 hx).1
   rw [List.length_take]
   omega
  have lim_ : ∀ p (x : Int), 0 ≤ x → x < (lim b p : Int) → x ≤ zD p ∧ x < b.Most := fun p x h0 hx => by
   unfold lim at hx
   split at hx <;> omega
  refine ⟨h1, fun i x hx => ?_, fun i x hx => ?_, zhv (by omega) fun x hx => ?_⟩
  ·obtain ⟨g1, g2, g3, g4⟩ := h2 i x hx
   exact ⟨g1, (lim_ _ _ g1 g2).1, g4⟩
  ·exact (h2 i x hx).2.2.1
  ·obtain ⟨i, hi, rfl⟩ := List.getElem_of_mem hx
   obtain ⟨g1, g2, _⟩ := h2 i _ (List.getElem?_eq_getElem hi)
   have := (lim_ _ _ g1 g2).2
   omega
 ·rintro ⟨h1, h2, h3, h4⟩
  refine ⟨h1, fun i x hx => ?_⟩
  obtain ⟨g1, g2, g3⟩ := h2 i x hx
  have hmem : x ∈ q := List.mem_of_getElem? hx
  have := zgn x hmem
  refine ⟨g1, ?_, h3 i x hx, g3⟩
  unfold lim
  split <;> omega
theorem z4i (q : List Int) (w v : Int) : zPb (q ++ [w]) v = if v = w then upd (zPb q v) q.length true else zPb q v := by
 funext i
 unfold zPb
 by_cases hi : i < q.length
 ·rw [List.getElem?_append_left hi]
  by_cases e : v = w
  ·rw [if_pos e]
   unfold upd
   rw [if_neg (by omega)]
  ·rw [if_neg e]
 ·by_cases hq : i = q.length
  ·subst hq
   rw [show (q ++ [w])[q.length]? = some w by simp]
   by_cases e : v = w
   ·rw [if_pos e]
    unfold upd
    rw [if_pos rfl]
    simp [e]
   ·rw [if_neg e, List.getElem?_eq_none (Nat.le_refl _)]
    have : w ≠ v := fun h => e h.symm
    simp [this]
  ·rw [List.getElem?_eq_none (by simp; omega)]
   by_cases e : v = w
   ·rw [if_pos e]
    unfold upd
    rw [if_neg hq]
    show decide (none = some v) = decide (q[i]? = some v)
    rw [List.getElem?_eq_none (show q.length ≤ i by omega)]
   ·rw [if_neg e, List.getElem?_eq_none (by omega)]
theorem zYk {q : List Int} {w : Int} {i : Nat} (h : zPb q w i = true) : i < q.length := by
 have : q[i]? = some w := by simpa [zPb] using h
 exact (List.getElem?_eq_some_iff.1 this).1
theorem zRq {q : List Int} {w : Int} (h : zD q ≤ w) (i : Nat) : zPb q w i = false := by
 cases hc : zPb q w i with
 | false => rfl
 | true =>
  have : q[i]? = some w := by simpa [zPb] using hc
  have := zgn w (List.mem_of_getElem? this)
  omega
theorem zkq {f : Nat → Bool} {n : Nat} (hn : n < 8) (hf : ∀ i, f i = true → i < n) : letN (upd f n true) = letN f ++ [n] := by
 refine zIo (R := (· < ·)) (fun a c h1 h2 => by omega) (z0i _) ?_ fun i => ?_
 ·rw [List.pairwise_append]
  refine ⟨z0i f, List.pairwise_singleton _ _, fun a ha c hc => ?_⟩
  rw [List.mem_singleton] at hc
  have := hf a (zyc.1 ha).2
  omega
 ·rw [List.mem_append, List.mem_singleton, zyc, zyc]
  unfold upd
  constructor
  ·rintro ⟨h1, h2⟩
   by_cases e : i = n
   ·exact .inr e
   ·rw [if_neg e] at h2
    exact .inl ⟨h1, h2⟩
  ·rintro (⟨h1, h2⟩ | rfl)
   ·refine ⟨h1, ?_⟩
    split
    ·rfl
    ·exact h2
   ·exact ⟨hn, by rw [if_pos rfl]⟩
theorem zKp {f : Nat → Bool} (h : ∀ i, f i = false) : letN f = [] := by
 unfold letN
 rw [List.filter_eq_nil_iff]
 intro i _
 rw [h i]
 decide
theorem zam (l : List Nat) (n : Nat) : zxe (l ++ [n]) = zxe l ++ [(n : Int)] := by simp [zxe]
theorem zrr {k : Nat} {l : SL Int} (h : l.1.length ≤ 100) (n : Int) : zTc k l n = some (l.1 ++ [n], rcap false (l.1 ++ [n])) := by
 unfold zTc
 have c1 : decide (l.1.length ≤ LIM) = true := decide_eq_true (show l.1.length ≤ 1073741824 by omega)
 have c2 : decide (l.1.length + 1 ≤ LIM) = true := decide_eq_true (show l.1.length + 1 ≤ 1073741824 by omega)
 rw [c1, c2]
 rfl
def OfP (q : List Int) (of : List (SL Int)) : Prop := (of.length : Int) = zD q ∧ ∀ w (h : w < of.length), of[w].1 = zxe (letN (zPb q (w : Int)))
theorem OfP.old {q : List Int} {of : List (SL Int)} (h : OfP q of) {w n : Nat} (hn : q.length = n) (hw : w < of.length) (h8 : n < 8) {c : Cap} : OfP (q ++ [(w : Int)]) (of.set w (of[w].1 ++ [(n : Int)], c)) := by
 subst hn
 obtain ⟨h1, h2⟩ := h
 refine ⟨?_, fun v hv => ?_⟩
 ·rw [List.length_set, h1, zOe, if_neg (by omega)]
 ·rw [List.length_set] at hv
  by_cases e : v = w
  ·subst e
   rw [List.getElem_set_self]
   show of[v].1 ++ [_] = _
   rw [h2 v hw, z4i, if_pos rfl, zkq h8 fun i hi => zYk hi, zam]
  ·rw [List.getElem_set_ne (by omega), z4i, if_neg (by omega)]
   exact h2 v hv
theorem OfP.new {q : List Int} {of : List (SL Int)} (h : OfP q of) {n : Nat} (hn : q.length = n) (h8 : n < 8) {c c' : Cap} : OfP (q ++ [(of.length : Int)]) ((of ++ [([], c)]).set of.length ([(n : Int)], c')) := by
 subst hn
 obtain ⟨h1, h2⟩ := h
 refine ⟨?_, fun v hv => ?_⟩
 ·rw [List.length_set, List.length_append, List.length_singleton, zOe, if_pos (by omega)]
  push_cast
  rfl
 ·rw [List.length_set, List.length_append, List.length_singleton] at hv
  by_cases e : v = of.length
  ·subst e
   rw [List.getElem_set_self]
   show [_] = _
   rw [z4i, if_pos rfl, zkq h8 fun i hi => zYk hi, zam, zKp fun i => zRq (by omega) i]
   rfl
  ·rw [List.getElem_set_ne (by omega), List.getElem_append_left (by omega), z4i, if_neg (by omega)]
   exact h2 v (by omega)
end Go.AM
set_option linter.unusedVariables false
namespace Go.AM
open Go
theorem zcx {k : Nat} {l : SL Int} (hl : l.1.length < 9223372036854775808) (x : Int) : Ok (zWe k l x) (fun _ => True) := by
 unfold zWe
 by_cases h : l.1.length = 0
 ·rw [show ((l.1.length : Int) == 0) = true by simp [h], cond_true]
  exact Ok.pure trivial
 ·rw [show ((l.1.length : Int) == 0) = false by rw [beq_eq_false_iff_ne]; omega, cond_false]
  refine (znt (n := l.1.length) (by omega) hl).bind fun i hi => ?_
  obtain ⟨i, rfl, hi⟩ := hi
  rw [zR hi]
  exact Ok.pure trivial
theorem OfP.agrees {k : Nat} {b : za} (hb : z8k b) (hs : z2f b) (hk : Fuel k b) {q : List Int} {of : List (SL Int)} (h : OfP q of) (hq : q.length < nL b) {w : Nat} (hw : w < of.length) : Ok (zmc k b of[w] (q.length : Int)) (fun r => r = true ↔ CanP b (zPb q w) q.length) :=
 zYr hb hs hk (h.2 w hw) (fun i _ hi => zYk hi) hq
theorem zis {b : za} (hf : Fine b) {q : List Int} (hq : q.length ≤ nL b) : AccP b q ↔ ∀ i (h : i < q.length) j (g : j < q.length), j < i → (lt b j).Account ≠ 0 → (lt b j).Account = (lt b i).Account → q[j] = q[i] := by
 have pos : ∀ j, j < q.length → 0 ≤ (lt b j).Account := fun j hj => (hf.letters j (by omega)).2.2.2.2.1
 constructor
 ·intro h i hi j hj hji h0 he
  have := h i _ (List.getElem?_eq_getElem hi) j q[j] (by rw [List.getElem?_take, if_pos hji]; exact List.getElem?_eq_getElem hj) (by have := pos j hj; omega)
  rw [List.length_take, Nat.min_eq_left (by omega)] at this
  exact this he
 ·intro h i x hx j y hy h0 he
  obtain ⟨hi, rfl⟩ := List.getElem?_eq_some_iff.1 hx
  have hj : j < i := by
   have := (List.getElem?_eq_some_iff.1 hy).1
   rw [List.length_take] at this
   omega
  rw [List.getElem?_take, if_pos hj] at hy
  obtain ⟨hj', rfl⟩ := List.getElem?_eq_some_iff.1 hy
  rw [List.length_take, Nat.min_eq_left (by omega)] at he
  exact h i hi j hj' hj (by omega) he
theorem zlu {k : Nat} {b : za} (hb : z8k b) (hs : z2f b) (hk : Fuel k b) {l : SL Int} (hl : l.1.length < 9223372036854775808) : Ok (iter (fun s => zrc k b l s.1 s.2.1 s.2.2) k (0, ([] : List Int), ([] : List (SL Int)))) (fun r => r.2.1.length = nL b ∧ zlk b r.2.1 ∧ OfP r.2.1 r.2.2) := by
 have h8 := hb.1.nletters
 have k0 := hk.k0
 refine Ok.count (nL b) (fun j s => s.1 = (j : Int) ∧ s.2.1.length = j ∧ zlk b s.2.1 ∧ OfP s.2.1 s.2.2) ?_ ?_ ⟨rfl, rfl, show zlk b ([] : List Int) from z7h.nil, rfl, fun w h => by simp at h⟩ hk.letters
 ·rintro j ⟨i, q, of⟩ hj ⟨hi, hq, hfree, hof⟩
  obtain rfl : i = (j : Int) := hi
  have hq : q.length = j := hq
  have hfree : zlk b q := hfree
  have hof : OfP q of := hof
  obtain ⟨⟨m0, m1⟩, m2⟩ := zUp hfree
  have hofl := hof.1
  have hof8 : of.length ≤ 8 := by omega
  simp only [zrc, zub hj, cond_true, w8 (show j < 9 by omega)]
  refine (zcx hl _).bind fun v802 _ => ?_
  have e1 : w64 ((of.length : Int) + 1) = ((of.length + 1 : Nat) : Int) := by
   rw [zfd (by omega) (by omega)]; push_cast; rfl
  rw [e1]
  refine (znt (n := of.length + 1) (by omega) (by omega)).bind fun v804 h804 => ?_
  refine Ok.bind (Ok.count j (fun i s => s.2 = (i : Int) ∧ ∃ w : Nat, s.1 = (w : Int) ∧ w ≤ of.length) (Q := fun s => ∃ w : Nat, s.1 = (w : Int) ∧ w ≤ of.length) ?_ ?_ ⟨rfl, ?_⟩ (by omega)) fun v806 hv => ?_
  ·rintro i ⟨w, i'⟩ hi ⟨hi', w', hw, hw'⟩
   obtain rfl : i' = (i : Int) := hi'
   have c : decide ((i : Int) < (j : Int)) = true := by simp; omega
   have hin : i < nL b := by omega
   simp only [zrd, c, cond_true, zoe, w8 (show i < 9 by omega)]
   rw [zTd hin]
   simp only [Option.bind_some]
   rw [zTd hj]
   simp only [Option.bind_some, z1d, zte]
   have hiq : i < q.length := by omega
   refine Ok.bind (P := fun z : Int × Bool => ∃ w : Nat, z.1 = (w : Int) ∧ w ≤ of.length) (Ok.cond (fun _ => ?_) fun _ => Ok.pure ⟨w', hw, hw'⟩) fun z hz => Ok.pure ⟨rfl, hz⟩
   rw [zR hiq]
   have g1 := m2 _ (List.getElem_mem hiq)
   have g2 := zgn _ (List.getElem_mem hiq)
   exact Ok.pure ⟨q[i].toNat, show q[i] = _ by omega, by omega⟩
  ·rintro ⟨w, i'⟩ ⟨hi', hw⟩
   obtain rfl : i' = (j : Int) := hi'
   have c : decide ((j : Int) < (j : Int)) = false := by simp
   simp only [zrd, c, cond_false]
   exact Ok.pure hw
  ·obtain ⟨w, e, hw⟩ := h804
   exact ⟨w, e, by omega⟩
  ·obtain ⟨w, hw1, hw2⟩ := hv
   refine Ok.bind (P := fun r : Bool => (r = true → w < of.length) ∧ (r = false → w < of.length → CanP b (zPb q w) j)) ?_ fun v808 h808 => ?_
   ·unfold zwe
    rw [hw1]
    refine Ok.cond (fun h => ?_) fun h => ?_
    ·have h : (w : Int) < (of.length : Int) := of_decide_eq_true h
     have hw : w < of.length := by omega
     rw [zR hw, Option.bind_some, ← hq]
     refine (hof.agrees hb hs hk (by omega) hw).bind fun r hr => Ok.pure ⟨fun _ => hw, fun e _ => hr.1 ?_⟩
     cases r with
     | true => rfl
     | false => cases e
    ·have h := of_decide_eq_false h
     exact Ok.pure ⟨fun e => (by cases e), fun _ hlt => absurd (show (w : Int) < (of.length : Int) by omega) h⟩
   refine Ok.bind (P := fun z : Int × Bool => ∃ w : Nat, z.1 = (w : Int) ∧ (w = of.length ∨ (w < of.length ∧ CanP b (zPb q w) j))) ?_ fun v810 h810 => ?_
   ·unfold zne
    refine Ok.cond (fun h => Ok.pure ⟨of.length, rfl, .inl rfl⟩) fun h => Ok.pure ⟨w, hw1, ?_⟩
    by_cases e : w = of.length
    ·exact .inl e
    ·exact .inr ⟨by omega, h808.2 h (by omega)⟩
   obtain ⟨w, hv, hw⟩ := h810
   rw [hv]
   have cq : decide (q.length + 1 ≤ LIM) = true := zWp (by omega)
   have co : decide (of.length + 1 ≤ LIM) = true := decide_eq_true (show of.length + 1 ≤ 1073741824 by omega)
   rcases hw with rfl | ⟨hlt, hcan⟩
   ·have c : ((of.length : Int) == (of.length : Int)) = true := by simp
    have hx : of.length < (of ++ [(([], Cap.nil) : SL Int)]).length := by simp
    have ex : (of ++ [(([], Cap.nil) : SL Int)])[of.length] = ([], Cap.nil) := by simp
    rw [c, cond_true, co, cond_true, zR hx, ex]
    simp only [Option.bind_some]
    rw [zrr (by simp), Option.bind_some, cq, cond_true]
    refine Ok.pure ⟨rfl, ?_, z7h.snoc.2 ⟨hfree, by omega, by omega, .inl fun i _ => zRq (by omega) i⟩, ?_⟩
    ·show (q ++ [_]).length = _
     simp [hq]
    ·exact hof.new hq (by omega)
   ·have c : ((w : Int) == (of.length : Int)) = false := by simp; omega
    rw [c, cond_false, zR hlt]
    simp only [Option.bind_some]
    have hlen : of[w].1.length ≤ 100 := by
     rw [hof.2 w hlt]
     have := ztj (zPb q w)
     simp
     omega
    rw [zrr hlen, Option.bind_some, cq, cond_true]
    refine Ok.pure ⟨rfl, ?_, z7h.snoc.2 ⟨hfree, by omega, by omega, by rw [hq]; exact hcan⟩, ?_⟩
    ·show (q ++ [_]).length = _
     simp [hq]
    ·exact hof.old hq hlt (by omega)
 ·rintro ⟨i, q, of⟩ ⟨hi, hq, hfree, hof⟩
  obtain rfl : i = (nL b : Int) := hi
  simp only [zrc, zLd, cond_false]
  exact Ok.pure ⟨hq, hfree, hof⟩
theorem zov {k : Nat} {b : za} (hb : z8k b) (hs : z2f b) (hk : Fuel k b) {l : SL Int} (hl : l.1.length < 9223372036854775808) : Ok (zze k b l) (fun r => r.1.1.length = nL b ∧ zlk b r.1.1 ∧ (r.2 = true ↔ r.1.1 ∈ Tr b)) := by
 have h8 := hb.1.nletters
 have k0 := hk.k0
 unfold zze
 refine (zlu hb hs hk hl).bind fun v hv => ?_
 obtain ⟨i, q, of⟩ := v
 obtain ⟨hq, hfree, hof⟩ := hv
 have hq : q.length = nL b := hq
 have hofl : (of.length : Int) = zD q := hof.1
 refine Ok.bind (Ok.everyI q (fun i x => ∀ j (g : j < q.length), j < i → (lt b j).Account ≠ 0 → (lt b j).Account = (lt b i).Account → q[j] = x) (fun acc j hj => ?_) (fun acc => by simp [z3c]) (by omega)) fun r hr => Ok.pure ⟨hq, hfree, ?_⟩
 ·simp only [z3c, zub hj, cond_true, w8 (show j < 9 by omega)]
  refine Ok.bind (Ok.count j (fun i s => s.2 = (i : Int) ∧ (s.1 = true ↔ acc = true ∧ ∀ a (g : a < q.length), a < i → (lt b a).Account ≠ 0 → (lt b a).Account = (lt b j).Account → q[a] = q[j])) (Q := fun s => s.1 = true ↔ acc = true ∧ ∀ a (g : a < q.length), a < j → (lt b a).Account ≠ 0 → (lt b a).Account = (lt b j).Account → q[a] = q[j]) ?_ ?_ ⟨rfl, by simp⟩ (by omega)) fun z hz => Ok.pure ⟨_, rfl, hz⟩
  ·rintro i ⟨a, i'⟩ hi ⟨hi', ha⟩
   obtain rfl : i' = (i : Int) := hi'
   have c : decide ((i : Int) < (j : Int)) = true := by simp; omega
   have hiq : i < q.length := by omega
   have hin : i < nL b := by omega
   have hjn : j < nL b := by omega
   simp only [z4c, c, cond_true, zpe, w8 (show i < 9 by omega)]
   rw [zTd hjn]
   simp only [Option.bind_some]
   rw [zTd hin]
   simp only [Option.bind_some]
   rw [zR hj]
   simp only [Option.bind_some]
   rw [zR hiq]
   simp only [Option.bind_some, zzt, z1d]
   refine Ok.pure ⟨rfl, ?_⟩
   show _ = true ↔ _
   simp only [Bool.and_eq_true, Bool.or_eq_true, beq_iff_eq, bne_iff_ne, ne_eq]
   rw [show a = true ↔ _ from ha]
   constructor
   ·rintro ⟨⟨g1, g2⟩, g3⟩
    refine ⟨g1, fun a' ga hai h0 he => ?_⟩
    by_cases e : a' = i
    ·subst e
     rcases g3 with g3 | g3 | g3
     ·exact absurd (he.trans g3) h0
     ·exact absurd he.symm g3
     ·exact g3.symm
    ·exact g2 a' ga (by omega) h0 he
   ·rintro ⟨g1, g2⟩
    refine ⟨⟨g1, fun a' ga hai => g2 a' ga (by omega)⟩, ?_⟩
    by_cases e0 : (lt b j).Account = 0
    ·exact .inl e0
    ·by_cases e1 : (lt b j).Account = (lt b i).Account
     ·exact .inr (.inr (g2 i hiq (by omega) (by rw [← e1]; exact e0) e1.symm).symm)
     ·exact .inr (.inl e1)
  ·rintro ⟨a, i'⟩ ⟨hi', ha⟩
   obtain rfl : i' = (j : Int) := hi'
   have c : decide ((j : Int) < (j : Int)) = false := by simp
   simp only [z4c, c, cond_false]
   exact Ok.pure ha
 ·rw [zUt hb.1, zis hb.1 (show q.length ≤ nL b by omega), hr, decide_eq_true_eq]
  constructor
  ·rintro ⟨h1, h2⟩
   exact ⟨hq, hfree, fun i hi j hj => h2 i hi j hj, show zD q ≤ b.Most by have h1 : (of.length : Int) ≤ b.Most := h1; omega⟩
  ·rintro ⟨_, _, h2, h1⟩
   exact ⟨show (of.length : Int) ≤ b.Most by have h1 : zD q ≤ b.Most := h1; omega, fun i hi j hj => h2 i hi j hj⟩
theorem zgu {k : Nat} (hk : 100 < k) {q : SL Int} (hq : Ppl q.1) : Ok (zRd k q) (fun r => r = zD q.1) := by
 unfold zRd
 have hlen := hq.1
 refine Ok.bind (Ok.count q.1.length (fun j s => s.2 = (j : Int) ∧ s.1 = zD (q.1.take j)) (Q := fun s => s.1 = zD q.1) ?_ ?_ ⟨rfl, rfl⟩ (by omega)) fun r hr => Ok.pure hr
 ·rintro j ⟨n, i⟩ hj ⟨hi, hn⟩
  obtain rfl : i = (j : Int) := hi
  obtain rfl : n = _ := hn
  have hx := hq.2 _ (List.getElem_mem hj)
  simp only [zOc, zub hj, cond_true, zR hj, Option.bind_some, w8 (show j < 9 by omega)]
  refine Ok.pure ⟨rfl, ?_⟩
  show (if _ > _ then _ else _) = _
  rw [List.take_succ_eq_append_getElem hj, zOe, zfd (by omega) (by omega)]
 ·rintro ⟨n, i⟩ ⟨hi, hn⟩
  obtain rfl : i = (q.1.length : Int) := hi
  simp only [zOc, zLd, cond_false]
  rw [List.take_length] at hn
  exact Ok.pure hn
end Go.AM
set_option linter.unusedVariables false
namespace Go.AM
open Go
theorem znv {k : Nat} {b : za} (hb : z8k b) (hs : z2f b) (hk : Fuel k b) {q : SL Int} (hq : q.1.length = nL b) (hfree : zlk b q.1) : Ok (zfe k b q) (fun r => r = true ↔ q.1 ∈ Tr b) := by
 have h8 := hb.1.nletters
 have k0 := hk.k0
 have hin := (zUp hfree).2
 unfold zfe
 refine Ok.cond (fun h => ?_) fun _ => ?_
 ·rw [bne_iff_ne] at h
  exact absurd (by rw [hq]) h
 rw [zUt hb.1, zis hb.1 (show q.1.length ≤ nL b by omega)]
 refine Ok.bind (Ok.count q.1.length (fun j s => s.2.1 = (j : Int) ∧ s.1 = zD (q.1.take j) ∧ (∀ w : Nat, w < 8 → (s.2.2 w).1 = zxe (letN (zPb (q.1.take j) (w : Int)))) ∧ ∀ i (h : i < q.1.length) a (g : a < q.1.length), i < j → a < i → (lt b a).Account ≠ 0 → (lt b a).Account = (lt b i).Account → q.1[a] = q.1[i])
  (Q := fun r : (Int × Int × (Nat → SL Int)) ⊕ ((Int × Int × Int × (Nat → SL Int)) ⊕ (Int × Int × (Nat → SL Int))) => match r with
   | .inl _ => False
   | .inr (.inl _) => ¬ ∀ i (h : i < q.1.length) a (g : a < q.1.length), a < i → (lt b a).Account ≠ 0 → (lt b a).Account = (lt b i).Account → q.1[a] = q.1[i]
   | .inr (.inr s) => s.1 = zD q.1 ∧ ∀ i (h : i < q.1.length) a (g : a < q.1.length), a < i → (lt b a).Account ≠ 0 → (lt b a).Account = (lt b i).Account → q.1[a] = q.1[i]) ?_ ?_ ⟨rfl, rfl, fun w _ => ?_, fun i _ a _ h => by omega⟩ (by omega)) fun r hr => ?_
 ·rintro j ⟨next, j', of⟩ hj ⟨hj', hnext, hof, hacc⟩
  obtain rfl : j' = (j : Int) := hj'
  obtain rfl : next = _ := hnext
  have hof : ∀ w : Nat, w < 8 → (of w).1 = zxe (letN (zPb (q.1.take j) (w : Int))) := hof
  have hjn : j < nL b := by omega
  have htl : (q.1.take j).length = j := by rw [List.length_take]; omega
  obtain ⟨f1, f2, f3⟩ := hfree j _ (List.getElem?_eq_getElem hj)
  rw [htl] at f3
  have fj := hin _ (List.getElem_mem hj)
  have hm := (zUp (hfree.take j)).1
  obtain ⟨w, hw⟩ : ∃ w : Nat, q.1[j] = (w : Int) := ⟨q.1[j].toNat, by omega⟩
  have hw8 : w < 8 := by omega
  rw [hw] at f1 f2 f3
  have c2 : (decide (0 ≤ (w : Int)) && decide ((w : Int) < 8)) = true := by simp; omega
  have J4 : z6c k b q (zD (q.1.take j)) (j : Int) of = some false := by
   unfold z6c
   have c1 : (decide (0 ≤ (w : Int)) && decide ((w : Int) ≤ zD (q.1.take j))) = true := by
    rw [Bool.and_eq_true, decide_eq_true_eq, decide_eq_true_eq]
    exact ⟨f1, f2⟩
   simp only [zR hj, Option.bind_some, hw, zIk, c1, Bool.not_true, cond_false, c2, cond_true, Int.toNat_natCast]
   obtain ⟨r, hr, hiff⟩ := zYr hb hs hk (hof w hw8) (fun i _ hi => by have := zYk hi; omega) hjn
   rw [hr, hiff.2 f3]
   rfl
  have hlen : (of w).1.length ≤ 100 := by
   rw [hof w hw8]
   have := ztj (zPb (q.1.take j) w)
   simp
   omega
  simp only [z9c, zub hj, cond_true, J4, Option.bind_some, cond_false, zR hj, hw, c2, Int.toNat_natCast, w8 (show j < 9 by omega)]
  rw [zrr hlen]
  simp only [Option.bind_some]
  refine Ok.bind (Ok.count j (fun i s => s = (i : Int) ∧ ∀ a (g : a < q.1.length), a < i → (lt b a).Account ≠ 0 → (lt b a).Account = (lt b j).Account → q.1[a] = q.1[j])
   (Q := fun r : Int ⊕ Int => match r with
    | .inl _ => ¬ ∀ i (h : i < q.1.length) a (g : a < q.1.length), a < i → (lt b a).Account ≠ 0 → (lt b a).Account = (lt b i).Account → q.1[a] = q.1[i]
    | .inr _ => ∀ a (g : a < q.1.length), a < j → (lt b a).Account ≠ 0 → (lt b a).Account = (lt b j).Account → q.1[a] = q.1[j]) ?_ ?_ ⟨rfl, by omega⟩ (by omega)) fun r hr => ?_
  ·rintro i s hi ⟨rfl, hg⟩
   have c : decide ((i : Int) < (j : Int)) = true := by simp; omega
   have hiq : i < q.1.length := by omega
   have hin : i < nL b := by omega
   have J7 : ∀ v1 v2 v3, zad k b q (zD (q.1.take j)) (j : Int) of v1 v2 v3 (i : Int) = some (decide ((lt b i).Account ≠ 0 ∧ (lt b i).Account = (lt b j).Account ∧ q.1[i] ≠ q.1[j])) := by
    intro v1 v2 v3
    unfold zad
    rw [zTd hin]
    simp only [Option.bind_some]
    rw [zTd hjn]
    simp only [Option.bind_some, zR hiq, zR hj, z1d]
    congr 1
    rw [Bool.eq_iff_iff]
    simp only [Bool.and_eq_true, bne_iff_ne, beq_iff_eq, decide_eq_true_eq, ne_eq]
   simp only [z5c, c, cond_true, J7, Option.bind_some, w8 (show i < 9 by omega)]
   refine Ok.cond (fun h => ?_) fun h => ?_
   ·obtain ⟨g1, g2, g3⟩ := of_decide_eq_true h
    exact Ok.pure fun hh => g3 (hh j hj i hiq hi g1 g2)
   ·have h := of_decide_eq_false h
    refine Ok.pure ⟨rfl, fun a ga hai h0 he => ?_⟩
    by_cases e : a = i
    ·subst e
     apply Classical.byContradiction
     intro hne
     exact h ⟨h0, he, hne⟩
    ·exact hg a ga (by omega) h0 he
  ·rintro s ⟨rfl, hg⟩
   have c : decide ((j : Int) < (j : Int)) = false := by simp
   simp only [z5c, c, cond_false]
   exact Ok.pure hg
  ·cases r with
   | inl z => exact Ok.pure hr
   | inr z =>
    have tk : q.1.take (j + 1) = q.1.take j ++ [(w : Int)] := by rw [List.take_succ_eq_append_getElem hj, hw]
    refine Ok.pure ⟨rfl, ?_, fun v hv => ?_, fun i h a g hij hai => ?_⟩
    ·show (if _ > _ then _ else _) = _
     rw [tk, zOe, zfd (by omega) (by omega)]
    ·show (if v = w then _ else of v).1 = _
     rw [tk, z4i]
     by_cases e : v = w
     ·subst e
      rw [if_pos rfl, if_pos rfl, htl]
      show (of v).1 ++ [_] = _
      rw [hof v hv, zkq (by omega) fun i hi => by have := zYk hi; omega, zam]
     ·rw [if_neg e, if_neg (by omega)]
      exact hof v hv
    ·by_cases e : i = j
     ·subst e
      exact hr a g hai
     ·exact hacc i h a g (by omega) hai
 ·rintro ⟨next, j', of⟩ ⟨hj', hnext, hof, hacc⟩
  obtain rfl : j' = (q.1.length : Int) := hj'
  simp only [z9c, zLd, cond_false]
  rw [List.take_length] at hnext
  exact Ok.pure ⟨hnext, fun i h a g => hacc i h a g h⟩
 ·show [] = zxe _
  rw [zKp fun i => by simp [zPb]]
  rfl
 ·rcases r with r | r | r
  ·exact hr.elim
  ·exact Ok.pure ⟨fun h => (by cases h), fun h => absurd h.2.2.1 hr⟩
  ·refine Ok.pure ?_
   show decide (r.1 ≤ b.Most) = true ↔ _
   rw [decide_eq_true_eq, hr.1]
   exact ⟨fun h => ⟨hq, hfree, hr.2, h⟩, fun h => h.2.2.2⟩
end Go.AM
set_option linter.unusedVariables false
namespace Go.AM
open Go
theorem z2n.sub {b x : za} (h : z2n (nL b) b x) (hl : nL x = nL b) : ∀ q ∈ Tr b, q ∈ Tr x := by
 intro q hq
 obtain ⟨h1, h2⟩ := zPh.1 hq
 exact zPh.2 ⟨by omega, h.pre (by omega) h2⟩
end Go.AM
set_option linter.unusedVariables false
namespace Go.AM
open Go
theorem z6r {f : Nat → Bool} {x : Nat} : ∀ {l : List Nat}, x ∉ l → l.filter (upd f x true) = l.filter f := by
 intro l h
 refine List.filter_congr fun y hy => ?_
 unfold upd
 have hne : y ≠ x := fun e => h (by rw [← e]; exact hy)
 rw [if_neg hne]
theorem zGr {f : Nat → Bool} {x : Nat} (hf : f x = false) : ∀ {l : List Nat}, l.Nodup → x ∈ l → (l.filter (upd f x true)).length = (l.filter f).length + 1
 | [], _, h => by simp at h
 | y :: t, hn, h => by
  obtain ⟨h1, h2⟩ := List.nodup_cons.1 hn
  by_cases e : y = x
  ·subst e
   have e1 : upd f y true y = true := by unfold upd; rw [if_pos rfl]
   rw [List.filter_cons_of_pos e1, List.filter_cons_of_neg (by rw [hf]; decide), z6r h1, List.length_cons]
  ·have hx : x ∈ t := (List.mem_cons.1 h).resolve_left fun e' => e e'.symm
   have e1 : upd f x true y = f y := by unfold upd; rw [if_neg e]
   have ih := zGr hf h2 hx
   cases hc : f y with
   | true => rw [List.filter_cons_of_pos (by rw [e1, hc]), List.filter_cons_of_pos hc, List.length_cons, List.length_cons, ih]
   | false => rw [List.filter_cons_of_neg (by rw [e1, hc]; decide), List.filter_cons_of_neg (by rw [hc]; decide), ih]
theorem zws {f : Nat → Bool} {x : Nat} (hf : f x = false) (hx : x < 8) : (letN (upd f x true)).length = (letN f).length + 1 :=
 zGr hf List.nodup_range (List.mem_range.2 hx)
def zHh (b : za) (i j : Nat) : Prop := ∀ q ∈ Tr b, q[i]? = q[j]?
def zcs (b : za) (t : SL Int) : Prop := ∃ ns : List Nat, t.1 = zxe ns ∧ ns ≠ [] ∧ ns.Pairwise (· < ·) ∧ (∀ a ∈ ns, a < nL b) ∧ ∀ a ∈ ns, ∀ c ∈ ns, zHh b a c
def sumL (out : List (SL Int)) : Nat := (out.map fun t => t.1.length).sum
theorem z2r (out : List (SL Int)) (t : SL Int) : sumL (out ++ [t]) = sumL out + t.1.length := by simp [sumL]
theorem z7t {k : Nat} {b : za} (hf : Fine b) (hk : 100 < k) {v1 : z7 × Int} (hv : zJm (Tr b) (v1.1.same, v1.1.many)) {i : Nat} (hi : i < nL b) (out : List (SL Int)) (met : Nat → Bool) (hfree : ∀ a, i ≤ a → a < nL b → zHh b i a → met a = false) :
  Ok (iter (fun s => zHd k b v1 (i : Int) out s.1 s.2.1 s.2.2) k ((i : Int), met, ([] : List Int))) (fun r => ∃ ns : List Nat, r.2.2 = zxe ns ∧ ns.Pairwise (· < ·) ∧ (∀ a, a ∈ ns ↔ i ≤ a ∧ a < nL b ∧ zHh b i a) ∧ (∀ a, r.2.1 a = true ↔ met a = true ∨ a ∈ ns) ∧ (letN r.2.1).length = (letN met).length + ns.length) := by
 have h8 := hf.nletters
 refine Ok.count (nL b - i) (fun j s => s.1 = ((i + j : Nat) : Int) ∧ ∃ ns : List Nat, s.2.2 = zxe ns ∧ ns.Pairwise (· < ·) ∧ (∀ a, a ∈ ns ↔ i ≤ a ∧ a < i + j ∧ zHh b i a) ∧ (∀ a, s.2.1 a = true ↔ met a = true ∨ a ∈ ns) ∧ (letN s.2.1).length = (letN met).length + ns.length) ?_ ?_ ⟨rfl, [], rfl, List.Pairwise.nil, fun a => ⟨fun h => (by simp at h), fun h => (by omega)⟩, fun a => by simp, by simp⟩ (by omega)
 ·rintro j ⟨x, m, l⟩ hj ⟨hx, ns, hl, hns, hmem, hm, hlen⟩
  obtain rfl : x = ((i + j : Nat) : Int) := hx
  obtain rfl : l = zxe ns := hl
  have hm : ∀ a, m a = true ↔ met a = true ∨ a ∈ ns := hm
  have hlen : (letN m).length = (letN met).length + ns.length := hlen
  have hxn : i + j < nL b := by omega
  have hl8 := ztj m
  have c : decide (((i + j : Nat) : Int) < (b.Letters.1.length : Int)) = true := by
   have : i + j < b.Letters.1.length := hxn
   rw [decide_eq_true_eq]
   omega
  have c2 : (decide (0 ≤ ((i + j : Nat) : Int)) && decide (((i + j : Nat) : Int) < 8)) = true := by
   rw [Bool.and_eq_true, decide_eq_true_eq, decide_eq_true_eq]
   omega
  have c3 : decide ((zxe ns).length + 1 ≤ LIM) = true := by
   refine decide_eq_true (show (zxe ns).length + 1 ≤ 1073741824 from ?_)
   rw [List.length_map]
   omega
  have e1 : w64 (((i + j : Nat) : Int) + 1) = ((i + (j + 1) : Nat) : Int) := w8 (show i + j < 9 by omega)
  simp only [zHd, c, cond_true, e1]
  rw [zMs hf hv i (i + j), Option.bind_some]
  have hiff := zKr hi hxn
  refine Ok.cond (fun h => ?_) fun h => ?_
  ·have hS : zHh b i (i + j) := hiff.1 (by simpa using h)
   rw [c3, c2]
   refine Ok.pure ⟨rfl, ns ++ [i + j], ?_, ?_, fun a => ?_, fun a => ?_, ?_⟩
   ·exact (zam ns (i + j)).symm
   ·rw [List.pairwise_append]
    refine ⟨hns, List.pairwise_singleton _ _, fun a ha d hd => ?_⟩
    rw [List.mem_singleton] at hd
    have := ((hmem a).1 ha).2.1
    omega
   ·rw [List.mem_append, List.mem_singleton, hmem]
    constructor
    ·rintro (⟨g1, g2, g3⟩ | rfl)
     ·exact ⟨g1, by omega, g3⟩
     ·exact ⟨by omega, by omega, hS⟩
    ·rintro ⟨g1, g2, g3⟩
     by_cases e : a = i + j
     ·exact .inr e
     ·exact .inl ⟨g1, by omega, g3⟩
   ·show upd m (((i + j : Nat) : Int)).toNat true a = true ↔ _
    rw [Int.toNat_natCast, List.mem_append, List.mem_singleton]
    unfold upd
    by_cases e : a = i + j
    ·rw [if_pos e]; exact ⟨fun _ => .inr (.inr e), fun _ => rfl⟩
    ·rw [if_neg e, hm]
     constructor
     ·rintro (g | g)
      ·exact .inl g
      ·exact .inr (.inl g)
     ·rintro (g | g | g)
      ·exact .inl g
      ·exact .inr g
      ·exact absurd g e
   ·show (letN (upd m (((i + j : Nat) : Int)).toNat true)).length = _
    rw [Int.toNat_natCast, zws ?_ (by omega), hlen, List.length_append, List.length_singleton]
    ·omega
    ·cases hc : m (i + j) with
     | false => rfl
     | true =>
      rcases (hm _).1 hc with g | g
      ·rw [hfree _ (by omega) hxn hS] at g
       cases g
      ·have := ((hmem _).1 g).2.1
       omega
  ·have hS : ¬ zHh b i (i + j) := fun hS => by
    have := hiff.2 hS
    simp [this] at h
   refine Ok.pure ⟨rfl, ns, rfl, hns, fun a => ?_, hm, hlen⟩
   rw [hmem]
   constructor
   ·rintro ⟨g1, g2, g3⟩
    exact ⟨g1, by omega, g3⟩
   ·rintro ⟨g1, g2, g3⟩
    refine ⟨g1, ?_, g3⟩
    by_cases e : a = i + j
    ·subst e
     exact absurd g3 hS
    ·omega
 ·rintro ⟨x, m, l⟩ ⟨hx, ns, hl, hns, hmem, hm, hlen⟩
  have e : i + (nL b - i) = nL b := by omega
  rw [e] at hx hmem
  obtain rfl : x = (nL b : Int) := hx
  simp only [zHd, zLd, cond_false]
  exact Ok.pure ⟨ns, hl, hns, hmem, hm, hlen⟩
theorem zHh.symm {b : za} {i j : Nat} (h : zHh b i j) : zHh b j i := fun q hq => (h q hq).symm
theorem zHh.trans {b : za} {i j l : Nat} (h : zHh b i j) (g : zHh b j l) : zHh b i l := fun q hq => (h q hq).trans (g q hq)
theorem zlv {k : Nat} {b : za} (hs : z2f b) (hk : Fuel k b) (hf : Fine b) (hne : Tr b ≠ []) : Ok (zhf k b) (fun r => r.2 = 0 ∧ (∀ t ∈ r.1.1, zcs b t) ∧ sumL r.1.1 = nL b) := by
 have h8 := hf.nletters
 have k0 := hk.k0
 unfold zhf
 refine (zHs hs hk).bind fun v hv => ?_
 rcases hv with ⟨h, _⟩ | ⟨_, h, _⟩ | ⟨_, _, h0, hseen⟩
 ·exact absurd hf h
 ·exact absurd h hne
 rw [h0]
 refine Ok.cond (fun h => by cases h) fun _ => ?_
 refine Ok.bind (Ok.count (nL b) (fun j s => s.1 = (j : Int) ∧ (∀ t ∈ s.2.1, zcs b t) ∧ sumL s.2.1 = (letN s.2.2).length ∧ s.2.1.length ≤ j ∧ (∀ a, a < j → s.2.2 a = true) ∧ (∀ a, s.2.2 a = true → a < nL b) ∧ ∀ a c, s.2.2 a = true → c < nL b → zHh b a c → s.2.2 c = true)
  (Q := fun s => (∀ t ∈ s.2.1, zcs b t) ∧ sumL s.2.1 = nL b) ?_ ?_ ⟨rfl, by simp, ?_, by simp, by omega, fun a h => (by cases h), fun a c h => (by cases h)⟩ (by omega)) fun r hr => Ok.pure ⟨rfl, hr⟩
 ·rintro j ⟨x, out, met⟩ hj ⟨hx, hg, hsum, hol, hc, hd, he⟩
  obtain rfl : x = (j : Int) := hx
  have hg : ∀ t ∈ out, zcs b t := hg
  have hsum : sumL out = (letN met).length := hsum
  have hol : out.length ≤ j := hol
  have hc : ∀ a, a < j → met a = true := hc
  have hd : ∀ a, met a = true → a < nL b := hd
  have he : ∀ a c, met a = true → c < nL b → zHh b a c → met c = true := he
  have c2 : (decide (0 ≤ (j : Int)) && decide ((j : Int) < 8)) = true := by
   rw [Bool.and_eq_true, decide_eq_true_eq, decide_eq_true_eq]
   omega
  simp only [zTe, zub hj, cond_true, c2, Int.toNat_natCast, w8 (show j < 9 by omega)]
  refine Ok.cond (fun h => ?_) fun h => ?_
  ·refine Ok.pure ⟨rfl, hg, hsum, by show out.length ≤ _; omega, fun a ha => ?_, hd, he⟩
   by_cases e : a = j
   ·rw [e]; exact h
   ·exact hc a (by omega)
  ·refine (z7t hf (by omega) hseen hj out met fun a hja han hS => ?_).bind fun r hr => ?_
   ·cases hm : met a with
    | false => rfl
    | true =>
     have := he a j hm hj hS.symm
     rw [h] at this
     cases this
   ·obtain ⟨ns, hl, hns, hmem, hm, hlen⟩ := hr
    have c3 : decide (out.length + 1 ≤ LIM) = true := decide_eq_true (show out.length + 1 ≤ 1073741824 by omega)
    rw [c3, cond_true]
    have hjm : j ∈ ns := (hmem j).2 ⟨Nat.le_refl _, hj, fun q _ => rfl⟩
    refine Ok.pure ⟨rfl, fun t ht => ?_, ?_, ?_, fun a ha => ?_, fun a ha => ?_, fun a c ha hcn hS => ?_⟩
    ·rcases List.mem_append.1 ht with ht | ht
     ·exact hg t ht
     ·rw [List.mem_singleton] at ht
      rw [ht]
      refine ⟨ns, hl, List.ne_nil_of_mem hjm, hns, fun a ha => ((hmem a).1 ha).2.1, fun a ha c hc' => ((hmem a).1 ha).2.2.symm.trans ((hmem c).1 hc').2.2⟩
    ·show sumL (out ++ [_]) = (letN r.2.1).length
     rw [z2r, hlen, hsum]
     show _ + r.2.2.length = _
     rw [hl, List.length_map]
    ·show (out ++ [_]).length ≤ _
     rw [List.length_append, List.length_singleton]
     omega
    ·refine (hm a).2 ?_
     by_cases e : a = j
     ·exact .inr (e ▸ hjm)
     ·exact .inl (hc a (by omega))
    ·rcases (hm a).1 ha with g | g
     ·exact hd a g
     ·exact ((hmem a).1 g).2.1
    ·refine (hm c).2 ?_
     rcases (hm a).1 ha with g | g
     ·exact .inl (he a c g hcn hS)
     ·by_cases e : c < j
      ·exact .inl (hc c e)
      ·exact .inr ((hmem c).2 ⟨by omega, hcn, ((hmem a).1 g).2.2.trans hS⟩)
 ·rintro ⟨x, out, met⟩ ⟨hx, hg, hsum, hol, hc, hd, he⟩
  obtain rfl : x = (nL b : Int) := hx
  simp only [zTe, zLd, cond_false]
  refine Ok.pure ⟨hg, ?_⟩
  show sumL out = _
  have hsum : sumL out = (letN met).length := hsum
  have e : letN met = List.range (nL b) := by
   refine zIo (R := (· < ·)) (fun a c h1 h2 => by omega) (z0i _) List.pairwise_lt_range fun a => ?_
   rw [zyc, List.mem_range]
   constructor
   ·rintro ⟨_, h⟩
    exact hd a h
   ·intro h
    exact ⟨by omega, hc a h⟩
  rw [hsum, e, List.length_range]
 ·show sumL [] = (letN fun _ => false).length
  rw [zKp fun _ => rfl]
  rfl
end Go.AM
set_option linter.unusedVariables false
namespace Go.AM
open Go
theorem zsv {k : Nat} {l : SL Int} {n : Int} (hk : l.1.length < k) (hs : l.1.length < 9223372036854775808) (hc : l.1.Pairwise (· < ·)) (hl : ∀ x ∈ l.1, 0 ≤ x ∧ x < n) : Ok (z2d k l n) (fun r => r = true) := by
 unfold z2d
 refine Ok.bind (Ok.count l.1.length (fun j z => z.2 = (j : Int) ∧ ∀ i (h : i < l.1.length), j ≤ i → z.1 < l.1[i]) (Q := fun r : (Int × Int) ⊕ (Int × Int) => ∃ z, r = .inr z) ?_ ?_ ⟨rfl, fun i h _ => by have := (hl _ (List.getElem_mem h)).1; show (-1 : Int) < _; omega⟩ hk) fun r hr => ?_
 ·rintro j ⟨p, i'⟩ hj ⟨hi', hg⟩
  obtain rfl : i' = (j : Int) := hi'
  have h1 := hg j hj (Nat.le_refl _)
  have h2 := (hl _ (List.getElem_mem hj)).2
  have c1 : decide (l.1[j] ≤ p) = false := by simp only [decide_eq_false_iff_not]; have h1' : p < l.1[j] := h1; omega
  have c2 : decide (l.1[j] ≥ n) = false := by simp only [decide_eq_false_iff_not]; omega
  simp only [zed, zve, zub hj, cond_true, zR hj, Option.bind_some, c1, c2, cond_false, z5f hj hs]
  exact Ok.pure ⟨rfl, fun i h hji => List.pairwise_iff_getElem.1 hc j i hj h (by omega)⟩
 ·rintro ⟨p, i'⟩ ⟨hi', hg⟩
  obtain rfl : i' = (l.1.length : Int) := hi'
  have c1 : decide ((l.1.length : Int) < (l.1.length : Int)) = false := by simp
  simp only [zed, c1, cond_false]
  exact Ok.pure ⟨_, rfl⟩
 ·obtain ⟨z, rfl⟩ := hr
  exact Ok.pure rfl
theorem zJu {out : List (SL Int)} {j : Nat} (h : j < out.length) : sumL (out.take (j + 1)) = sumL (out.take j) + out[j].1.length := by
 rw [List.take_succ_eq_append_getElem h, z2r]
theorem zxp : ∀ (out : List (SL Int)) (j : Nat), sumL (out.take j) ≤ sumL out
 | [], j => by simp
 | t :: r, 0 => by simp [sumL]
 | t :: r, j + 1 => by
  have := zxp r j
  simp only [sumL, List.take_succ_cons, List.map_cons, List.sum_cons] at this ⊢
  omega
theorem zbx {out : List (SL Int)} (h : ∀ t ∈ out, 1 ≤ t.1.length) : out.length ≤ sumL out := by
 induction out with
 | nil => simp
 | cons t r ih =>
  have h1 := h t (by simp)
  have h2 := ih fun x hx => h x (by simp [hx])
  simp only [sumL, List.map_cons, List.sum_cons, List.length_cons] at h2 ⊢
  omega
theorem zyq {k : Nat} {b : za} (hs : z2f b) (hk : Fuel k b) (hsg : zhc k = some true) {l : SL Int} (hl : l.1.length < 9223372036854775808) : zGb k b l = some true := by
 refine Ok.eq ?_
 have k0 := hk.k0
 unfold zGb
 rw [hsg]
 simp only [Option.bind_some]
 refine (zYv hs hk).bind fun r hr => Ok.cond (fun _ => Ok.pure rfl) fun h => ?_
 have hb : z8k b := hr (by simpa using h)
 have hf := hb.1
 have h8 := hf.nletters
 refine (zov hb hs hk hl).bind fun v4 h4 => ?_
 obtain ⟨hq, hfree, hiff⟩ := h4
 refine (z1t hs hk hf v4.1).bind fun v6 h6 => ?_
 obtain ⟨h60, h61⟩ := h6
 obtain ⟨pr, hpr, hpiff⟩ := znv hb hs hk hq hfree
 have e1 : v6.1 = v4.2 := by rw [Bool.eq_iff_iff, h61, hiff]
 have e2 : pr = v4.2 := by rw [Bool.eq_iff_iff, hpiff, hiff]
 have J1 : zXb k b l v4 v6 = some false := by
  unfold zXb
  rw [hpr, h60, e1, e2]
  cases v4.2 <;> rfl
 rw [J1, Option.bind_some, cond_false]
 refine Ok.cond (fun _ => Ok.pure rfl) fun hv => ?_
 have hqT : v4.1.1 ∈ Tr b := hiff.1 (by simpa using hv)
 have hne : Tr b ≠ [] := List.ne_nil_of_mem hqT
 have hpos := List.length_pos_of_mem hqT
 generalize hpe : v4.1.1 = q at *
 have hppl : Ppl q := hfree.ppl (by omega)
 refine (zOw hs hk).bind fun v12 h12 => ?_
 refine (z9u hs hk).bind fun v14 h14 => ?_
 refine (zlv hs hk hf hne).bind fun v16 h16 => ?_
 obtain ⟨h160, hgrp, hsum⟩ := h16
 rcases h12 with ⟨h, _⟩ | ⟨_, rfl⟩
 ·exact absurd hf h
 rcases h14 with ⟨h, _⟩ | ⟨_, h, _⟩ | ⟨_, h140, p, hp, hfew, hmin⟩
 ·exact absurd hf h
 ·exact absurd h hne
 have hfew1 : 1 ≤ v14.1 := by
  obtain ⟨g1, g2⟩ := zPh.1 hp
  have hlt : 0 < p.length := by omega
  have g3 := g2.ppl hf _ (List.getElem_mem hlt)
  have g4 := zgn _ (List.getElem_mem hlt)
  rw [hfew]
  omega
 have hfew2 : v14.1 ≤ zD q := by rw [hfew]; exact hmin q hqT
 have J2 : zYb k b l v4 v6 (((Tr b).length : Int), 0) v14 v16 = some false := by
  unfold zYb
  have c1 : decide (((Tr b).length : Int) < 1) = false := by simp; omega
  have c2 : (decide (1 ≤ v14.1) && decide (v14.1 ≤ zD q)) = true := by
   rw [Bool.and_eq_true, decide_eq_true_eq, decide_eq_true_eq]
   exact ⟨hfew1, hfew2⟩
  have hper := (zgu (k := k) (by omega) (q := v4.1) (by rw [hpe]; exact hppl)).eq
  rw [hpe] at hper
  rw [h140, h160, c1, hper]
  simp only [Option.bind_some, zIk, c2]
  rfl
 rw [J2, Option.bind_some, cond_false]
 refine Ok.bind (Ok.count q.length (fun j s => s = (j : Int)) (Q := fun r : (Int × Int × Int × Int) ⊕ Int => ∃ z, r = .inr z) ?_ ?_ rfl (by omega)) fun r hr => ?_
 ·rintro i s hi rfl
  have hin : i < nL b := by omega
  have c : decide ((i : Int) < (v4.1.1.length : Int)) = true := by rw [hpe]; exact zub hi
  simp only [zUb, c, cond_true, w8 (show i < 9 by omega)]
  refine Ok.bind (Ok.count q.length (fun j s => s = (j : Int)) (Q := fun r : (Int × Int × Int) ⊕ Int => ∃ z, r = .inr z) ?_ ?_ rfl (by omega)) fun r hr => ?_
  ·rintro j s hj rfl
   have hjn : j < nL b := by omega
   have c : decide ((j : Int) < (v4.1.1.length : Int)) = true := by rw [hpe]; exact zub hj
   simp only [zVb, c, cond_true, w8 (show j < 9 by omega)]
   refine (zUw hs hk hin hjn).bind fun v hv => ?_
   rcases hv with ⟨h, _⟩ | ⟨_, h, _⟩ | ⟨_, _, rfl⟩
   ·exact absurd hf h
   ·exact absurd h hne
   have J9 : zWb k b l v4 v6 (((Tr b).length : Int), 0) v14 v16 (i : Int) (j : Int) (zcj b i j, 0) = some false := by
    unfold zWb
    rw [hpe]
    simp only [zR hi, zR hj, Option.bind_some]
    have gi := List.getElem?_eq_getElem hi
    have gj := List.getElem?_eq_getElem hj
    by_cases e : q[i] = q[j]
    ·have n0 : ¬ zcj b i j = 0 := fun h0 => (zMv hin hjn hne).1 h0 q hqT (by rw [gi, gj, e])
     rw [show (q[i] == q[j]) = true by simp [e], show (q[i] != q[j]) = false by simp [e], show (zcj b i j == 0) = false by simp [n0]]
     rfl
    ·have n2 : ¬ zcj b i j = 2 := fun h2 => by
      have := (zKr hin hjn).1 h2 q hqT
      rw [gi, gj] at this
      injection this with this
      exact e this
     rw [show (q[i] == q[j]) = false by simp [e], show (q[i] != q[j]) = true by simp [e], show (zcj b i j == 2) = false by simp [n2]]
     rfl
   rw [J9]
   exact Ok.pure rfl
  ·rintro s rfl
   have c : decide ((q.length : Int) < (v4.1.1.length : Int)) = false := by rw [hpe]; exact zLd
   simp only [zVb, c, cond_false]
   exact Ok.pure ⟨_, rfl⟩
  ·obtain ⟨z, rfl⟩ := hr
   exact Ok.pure rfl
 ·rintro s rfl
  have c : decide ((q.length : Int) < (v4.1.1.length : Int)) = false := by rw [hpe]; exact zLd
  simp only [zUb, c, cond_false]
  exact Ok.pure ⟨_, rfl⟩
 obtain ⟨v24, rfl⟩ := hr
 simp only [Sum.elim_inr]
 have hglen : ∀ t ∈ v16.1.1, 1 ≤ t.1.length := fun t ht => by
  obtain ⟨ns, g1, g2, _⟩ := hgrp t ht
  rw [g1, List.length_map]
  exact List.length_pos_iff.2 g2
 have holen := zbx hglen
 refine Ok.bind (Ok.count v16.1.1.length (fun j s => s.2 = (j : Int) ∧ s.1 = (sumL (v16.1.1.take j) : Int)) (Q := fun r : (Int × Int) ⊕ ((Int × Int × Int) ⊕ (Int × Int)) => ∃ z, r = .inr (.inr z) ∧ z.1 = (nL b : Int)) ?_ ?_ ⟨rfl, rfl⟩ (by omega)) fun r hr => ?_
 ·rintro j ⟨met, j'⟩ hj ⟨hj', hmet⟩
  obtain rfl : j' = (j : Int) := hj'
  obtain rfl : met = _ := hmet
  have htm := List.getElem_mem hj
  obtain ⟨ns, g1, g2, g3, g4, g5⟩ := hgrp _ htm
  have hl1 := hglen _ htm
  have hsj := zJu hj
  have hle := zxp v16.1.1 (j + 1)
  generalize ht : v16.1.1[j] = t at *
  have hnl : ns.length ≤ 8 := by rw [g1, List.length_map] at hsj; omega
  have htl : t.1.length = ns.length := by rw [g1, List.length_map]
  have J13 : zKb k b l v4 v6 (((Tr b).length : Int), 0) v14 v16 v24 (sumL (v16.1.1.take j) : Int) (j : Int) = some false := by
   unfold zKb
   rw [zR hj, ht, hpe]
   simp only [Option.bind_some]
   rw [show ((t.1.length : Int) == 0) = false by rw [beq_eq_false_iff_ne]; omega, cond_false]
   rw [(zsv (n := (q.length : Int)) (l := t) (k := k) (by omega) (by omega) (by rw [g1]; exact (List.pairwise_map.2 (g3.imp fun h => by omega))) (fun x hx => by
    rw [g1] at hx
    obtain ⟨a, ha, rfl⟩ := List.mem_map.1 hx
    have := g4 a ha
    omega)).eq]
   rfl
  simp only [zLb, zub hj, cond_true, J13, Option.bind_some, cond_false]
  rw [zR hj, ht]
  simp only [Option.bind_some]
  refine Ok.bind (Ok.count t.1.length (fun a s => s = (a : Int)) (Q := fun r : Int ⊕ Int => ∃ z, r = .inr z) ?_ ?_ rfl (by omega)) fun r hr => ?_
  ·rintro a s ha rfl
   have han : a < ns.length := by omega
   have h0n : 0 < ns.length := by omega
   have ca := g4 _ (List.getElem_mem han)
   have c0 := g4 _ (List.getElem_mem h0n)
   have ea : idx t.1 (a : Int) = some ((ns[a] : Nat) : Int) := by rw [g1]; exact zgj han
   have e0 : idx t.1 0 = some ((ns[0] : Nat) : Int) := by rw [g1]; exact zgj (j := 0) h0n
   have hS := g5 _ (List.getElem_mem han) _ (List.getElem_mem h0n) q hqT
   simp only [zHb]
   rw [zR hj, ht, hpe]
   simp only [Option.bind_some, zub ha, cond_true, ea, e0]
   have qa : ns[a] < q.length := by omega
   have q0 : ns[0] < q.length := by omega
   rw [zR qa]
   simp only [Option.bind_some]
   rw [zR q0]
   simp only [Option.bind_some]
   have e : q[ns[a]] = q[ns[0]] := by
    rw [List.getElem?_eq_getElem qa, List.getElem?_eq_getElem q0] at hS
    injection hS
   rw [show (q[ns[a]] != q[ns[0]]) = false by simp [e], cond_false]
   exact Ok.pure (w8 (show a < 9 by omega))
  ·rintro s rfl
   simp only [zHb]
   rw [zR hj, ht]
   simp only [Option.bind_some, zLd, cond_false]
   exact Ok.pure ⟨_, rfl⟩
  ·obtain ⟨z, rfl⟩ := hr
   refine Ok.pure ⟨w8 (show j < 9 by omega), ?_⟩
   show w64 _ = _
   rw [hsj, zfd (by omega) (by omega)]
   push_cast
   rfl
 ·rintro ⟨met, j'⟩ ⟨hj', hmet⟩
  obtain rfl : j' = (v16.1.1.length : Int) := hj'
  have hmet : met = _ := hmet
  rw [List.take_length] at hmet
  simp only [zLb, zLd, cond_false]
  refine Ok.pure ⟨_, rfl, ?_⟩
  show met = _
  rw [hmet, hsum]
 ·obtain ⟨z, rfl, hz⟩ := hr
  simp only [Sum.elim_inr]
  rw [hz, show (((nL b : Nat) : Int) == (q.length : Int)) = true by rw [beq_iff_eq]; omega]
  exact Ok.pure rfl
end Go.AM
set_option linter.unusedVariables false
namespace Go.AM
open Go
def zok (x : zN) : Prop := (-9223372036854775808 ≤ x.Low ∧ x.Low ≤ 9223372036854775807) ∧ (-9223372036854775808 ≤ x.High ∧ x.High ≤ 9223372036854775807) ∧ True
def zNe (x : zn) : Prop := (-9223372036854775808 ≤ x.Day ∧ x.Day ≤ 9223372036854775807) ∧ (-9223372036854775808 ≤ x.Place ∧ x.Place ≤ 9223372036854775807) ∧ zok x.Born ∧ True ∧ (-9223372036854775808 ≤ x.Account ∧ x.Account ≤ 9223372036854775807) ∧ True
def z1c (x : za) : Prop := zEg (fun (a : zn) => zNe a) x.Letters ∧ zEg (fun (a : (SL Int)) => zEg (fun (a : Int) => (-9223372036854775808 ≤ a ∧ a ≤ 9223372036854775807)) a) x.Far ∧ zEg (fun (a : (Nat → Int)) => (∀ k, k < 2 → -9223372036854775808 ≤ a k ∧ a k ≤ 9223372036854775807)) x.Apart ∧ (-9223372036854775808 ≤ x.Most ∧ x.Most ≤ 9223372036854775807) ∧ True
end Go.AM
set_option linter.unusedVariables false
namespace Go.AM
open Go
theorem zxt (k : Nat) : zhc (k + 300) = some true := by kernel_rfl
end Go.AM
set_option linter.unusedVariables false
namespace Go.AM
open Go
theorem zDu {b : za} (h : z1c b) : z2f b := by
 obtain ⟨h1, h2, h3, _⟩ := h
 have e : maxLen = 9223372036854775807 := by decide
 have l1 := h1.2.2
 have l2 := h2.2.2
 have l3 := h3.2.2
 rw [e] at l1 l2 l3
 refine ⟨show b.Letters.1.length < _ by omega, by omega, fun r hr => ?_, by omega⟩
 have := (h2.1 r hr).2.2
 rw [e] at this
 omega
def zmv (b : za) : Nat := 500000 + b.Letters.1.length + b.Far.1.length + b.Apart.1.length + (b.Far.1.map fun r => r.1.length).sum
theorem zAx {l : List Nat} {n : Nat} : n ∈ l → n ≤ l.sum := by
 induction l with
 | nil => intro h; simp at h
 | cons x t ih =>
  intro h
  rw [List.sum_cons]
  rcases List.mem_cons.1 h with rfl | h
  ·omega
  ·have := ih h
   omega
theorem z6w (b : za) : Fuel (zmv b + 300) b := by
 unfold zmv
 refine ⟨by omega, show b.Letters.1.length < _ by omega, by omega, fun r hr => ?_, by omega⟩
 have := zAx (List.mem_map.2 ⟨r, hr, rfl⟩ : r.1.length ∈ b.Far.1.map fun r => r.1.length)
 omega
end Go.AM
set_option linter.unusedVariables false
namespace Go.AM
open Go
theorem zkw (b : za) (l : SL Int) (hb : z1c b) (hl : zEg (fun (a : Int) => (-9223372036854775808 ≤ a ∧ a ≤ 9223372036854775807)) l) : ∃ k, zGb k b l = some true := by
 have e : maxLen = 9223372036854775807 := by decide
 have := hl.2.2
 exact ⟨_, zyq (zDu hb) (z6w b) (zxt _) (by omega)⟩
end Go.AM
