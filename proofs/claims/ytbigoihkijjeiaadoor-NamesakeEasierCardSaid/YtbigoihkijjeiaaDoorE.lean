/- The statement NamesakeEasier holds for every input that its row lets in. Conditions: none. -/
import Derived.KernelRfl
import Derived.Test.YtbigoihkijjeiaaDoorD
set_option linter.all false
set_option linter.unusedVariables false
set_option maxRecDepth 100000
namespace Go.AM
open Go Go.Proofs
theorem zM (k : Nat) (v3 v7 : zt2) (v11 : zt1) (v15 : ((SL Int) × Int)) (r : Bool) (h : z1e k v3 v7 v11 v15 = some r) : ev TE 22 (rgn TE 22 5) ⟨(zev v3 v7 v11 v15), ⟨[], []⟩, []⟩ = some (.nor, zB v3 v7 v11 v15 r) := by
 unfold z1e at h
 refine zo h (fun h201 g1 => ?_) (fun h201 g1 => ?_)
 ·exact zu (g := fun r => (Ex.nor, zB v3 v7 v11 v15 r)) g1 (zqe [(22, 5, 2, .q (xb true))] [] (ob (o_b h201) ob0) (by kernel_rfl))
 ·refine zo g1 (fun h202 g2 => ?_) (fun h202 g2 => ?_)
  ·exact zu (g := fun r => (Ex.nor, zB v3 v7 v11 v15 r)) g2 (zqe [(22, 5, 2, .q (xb false)), (22, 5, 6, .q (xb true))] [] (ob (o_b h201) (ob (o_b h202) ob0)) (by kernel_rfl))
  ·refine zo g2 (fun h203 g3 => ?_) (fun h203 g3 => ?_)
   ·exact zu (g := fun r => (Ex.nor, zB v3 v7 v11 v15 r)) g3 (zqe [(22, 5, 2, .q (xb false)), (22, 5, 6, .q (xb false)), (22, 5, 10, .q (xb true))] [] (ob (o_b h201) (ob (o_b h202) (ob (o_b h203) ob0))) (by kernel_rfl))
   ·refine zo g3 (fun h204 g4 => ?_) (fun h204 g4 => ?_)
    ·exact zu (g := fun r => (Ex.nor, zB v3 v7 v11 v15 r)) g4 (zqe [(22, 5, 2, .q (xb false)), (22, 5, 6, .q (xb false)), (22, 5, 10, .q (xb false)), (22, 5, 14, .q (xb true))] [] (ob (o_b h201) (ob (o_b h202) (ob (o_b h203) (ob (o_b h204) ob0)))) (by kernel_rfl))
    ·refine zo g4 (fun h205 g5 => ?_) (fun h205 g5 => ?_)
     ·exact zu (g := fun r => (Ex.nor, zB v3 v7 v11 v15 r)) g5 (zqe [(22, 5, 2, .q (xb false)), (22, 5, 6, .q (xb false)), (22, 5, 10, .q (xb false)), (22, 5, 14, .q (xb false)), (22, 5, 18, .q (xb true))] [] (ob (o_b h201) (ob (o_b h202) (ob (o_b h203) (ob (o_b h204) (ob (o_b h205) ob0))))) (by kernel_rfl))
     ·refine zo g5 (fun h206 g6 => ?_) (fun h206 g6 => ?_)
      ·exact zu (g := fun r => (Ex.nor, zB v3 v7 v11 v15 r)) g6 (zqe [(22, 5, 2, .q (xb false)), (22, 5, 6, .q (xb false)), (22, 5, 10, .q (xb false)), (22, 5, 14, .q (xb false)), (22, 5, 18, .q (xb false)), (22, 5, 22, .q (xb true))] [] (ob (o_b h201) (ob (o_b h202) (ob (o_b h203) (ob (o_b h204) (ob (o_b h205) (ob (o_b h206) ob0)))))) (by kernel_rfl))
      ·refine zo g6 (fun h207 g7 => ?_) (fun h207 g7 => ?_)
       ·exact zu (g := fun r => (Ex.nor, zB v3 v7 v11 v15 r)) g7 (zqe [(22, 5, 2, .q (xb false)), (22, 5, 6, .q (xb false)), (22, 5, 10, .q (xb false)), (22, 5, 14, .q (xb false)), (22, 5, 18, .q (xb false)), (22, 5, 22, .q (xb false)), (22, 5, 26, .q (xb true))] [] (ob (o_b h201) (ob (o_b h202) (ob (o_b h203) (ob (o_b h204) (ob (o_b h205) (ob (o_b h206) (ob (o_b h207) ob0))))))) (by kernel_rfl))
       ·refine zl g7 (fun v208 h209 g8 => ?_)
        exact zu (g := fun r => (Ex.nor, zB v3 v7 v11 v15 r)) g8 (zqe [(22, 5, 2, .q (xb false)), (22, 5, 6, .q (xb false)), (22, 5, 10, .q (xb false)), (22, 5, 14, .q (xb false)), (22, 5, 18, .q (xb false)), (22, 5, 22, .q (xb false)), (22, 5, 26, .q (xb false)), (22, 5, 29, .c (db v208))] [] (ob (o_b h201) (ob (o_b h202) (ob (o_b h203) (ob (o_b h204) (ob (o_b h205) (ob (o_b h206) (ob (o_b h207) (ob (zrf k v15.1 ([0, 1, 0, 0, 1], .ex) _ h209) ob0)))))))) (by kernel_rfl))
theorem z9 (k : Nat) (r : Bool) (h : zQ k = some r) : zC TE (ev TE) 22 [] = some (zO r) := by
 unfold zQ at h
 refine zl h (fun v1 h2 g1 => ?_)
 refine zl g1 (fun v3 h4 g2 => ?_)
 refine zl g2 (fun v5 h6 g3 => ?_)
 refine zl g3 (fun v7 h8 g4 => ?_)
 refine zl g4 (fun v9 h10 g5 => ?_)
 refine zl g5 (fun v11 h12 g6 => ?_)
 refine zl g6 (fun v13 h14 g7 => ?_)
 refine zl g7 (fun v15 h16 g8 => ?_)
 refine zl g8 (fun v17 h18 g9 => ?_)
 refine zo g9 (fun h19 g10 => ?_) (fun h19 g10 => ?_)
 ·subst h19
  exact zt (g := zO) g10 (zqc [(22, 1, 0, .c (.agg (zd v1))), (22, 1, 2, .c (.tup [(db v3.1), (di v3.2)])), (22, 2, 0, .c (.agg (zd v5))), (22, 2, 2, .c (.tup [(db v7.1), (di v7.2)])), (22, 3, 0, .c (.agg (zd v9))), (22, 3, 1, .c (.tup [(di v11.1), (di v11.2)])), (22, 4, 0, .c (.agg (zd v13))), (22, 4, 1, .c (.tup [(dl eI v15.1.1 v15.1.2), (di v15.2)]))] [(22, 1000005, (.nor, zB v3 v7 v11 v15 true))] (ob (zk k 3 _ h2) (ob (zab k v1 ([2, 3], .ex) _ h4) (ob (zk k 3 _ h6) (ob (zX k v5 ([0, 1, 2, 0, 1], .ex) _ h8) (ob (zk k 3 _ h10) (ob (zw k v9 _ h12) (ob (zk k 3 _ h14) (ob (z8 k v13 _ h16) (ob (zM k v3 v7 v11 v15 _ h18) ob0))))))))) (by kernel_rfl))
 ·subst h19
  refine zl g10 (fun v20 h21 g11 => ?_)
  refine zl g11 (fun v22 h23 g12 => ?_)
  refine zl g12 (fun v24 h25 g13 => ?_)
  refine zl g13 (fun v26 h27 g14 => ?_)
  refine zl g14 (fun v28 h29 g15 => ?_)
  refine zl g15 (fun v30 h31 g16 => ?_)
  refine zl g16 (fun v32 h33 g17 => ?_)
  refine zl g17 (fun v34 h35 g18 => ?_)
  refine zl g18 (fun v36 h37 g19 => ?_)
  refine zl g19 (fun v38 h39 g20 => ?_)
  refine zo g20 (fun h40 g21 => ?_) (fun h40 g21 => ?_)
  ·refine zo g21 (fun h41 g22 => ?_) (fun h41 g22 => ?_)
   ·refine zo g22 (fun h42 g23 => ?_) (fun h42 g23 => ?_)
    ·refine zo g23 (fun h43 g24 => ?_) (fun h43 g24 => ?_)
     ·refine zo g24 (fun h44 g25 => ?_) (fun h44 g25 => ?_)
      ·refine zo g25 (fun h45 g26 => ?_) (fun h45 g26 => ?_)
       ·refine zo g26 (fun h46 g27 => ?_) (fun h46 g27 => ?_)
        ·refine zl g27 (fun v47 h48 g28 => ?_)
         refine zo g28 (fun h49 g29 => ?_) (fun h49 g29 => ?_)
         ·refine zo g29 (fun h50 g30 => ?_) (fun h50 g30 => ?_)
          ·refine zo g30 (fun h51 g31 => ?_) (fun h51 g31 => ?_)
           ·refine zl g31 (fun v52 h53 g32 => ?_)
            exact zt (g := zO) g32 (zqc [(22, 1, 0, .c (.agg (zd v1))), (22, 1, 2, .c (.tup [(db v3.1), (di v3.2)])), (22, 2, 0, .c (.agg (zd v5))), (22, 2, 2, .c (.tup [(db v7.1), (di v7.2)])), (22, 3, 0, .c (.agg (zd v9))), (22, 3, 1, .c (.tup [(di v11.1), (di v11.2)])), (22, 4, 0, .c (.agg (zd v13))), (22, 4, 1, .c (.tup [(dl eI v15.1.1 v15.1.2), (di v15.2)])), (22, 7, 0, .c (.agg (zd v20))), (22, 7, 1, .c (.tup [(di v22.1), (di v22.2)])), (22, 8, 0, .c (.agg (zd v24))), (22, 8, 1, .c (.tup [(di v26.1), (di v26.2)])), (22, 9, 0, .c (.agg (zd v28))), (22, 9, 1, .c (.tup [(dl (eL eI) v30.1.1 v30.1.2), (di v30.2)])), (22, 10, 0, .c (.agg (zd v32))), (22, 10, 1, .c (.tup [(di v34.1), (di v34.2.1), (di v34.2.2)])), (22, 11, 0, .c (.agg (zd v36))), (22, 11, 1, .c (.tup [(dl eI v38.1.1 v38.1.2), (di v38.2)])), (22, 12, 2, .q (xb true)), (22, 12, 6, .q (xb true)), (22, 12, 10, .q (xb true)), (22, 12, 14, .q (xb true)), (22, 12, 18, .q (xb true)), (22, 12, 22, .q (xb true)), (22, 12, 26, .q (xb true)), (22, 12, 33, .c (db v47)), (22, 12, 35, .q (xb true)), (22, 12, 39, .q (xb true)), (22, 12, 43, .q (xb true)), (22, 12, 46, .c (db v52))] [(22, 1000005, (.nor, zB v3 v7 v11 v15 false))] (ob (zk k 3 _ h2) (ob (zab k v1 ([2, 3], .ex) _ h4) (ob (zk k 3 _ h6) (ob (zX k v5 ([0, 1, 2, 0, 1], .ex) _ h8) (ob (zk k 3 _ h10) (ob (zw k v9 _ h12) (ob (zk k 3 _ h14) (ob (z8 k v13 _ h16) (ob (zM k v3 v7 v11 v15 _ h18) (ob (zk k 3 _ h21) (ob (zp k v20 _ h23) (ob (zk k 3 _ h25) (ob (ztb k v24 0 3 _ h27) (ob (zk k 3 _ h29) (ob (zcb k v28 _ h31) (ob (zk k 3 _ h33) (ob (zFb k v32 _ h35) (ob (zk k 1 _ h37) (ob (zrb k v36 _ h39) (ob (o_b h40) (ob (o_b h41) (ob (o_b h42) (ob (o_b h43) (ob (o_b h44) (ob (o_b h45) (ob (o_b h46) (ob (zXc k v30.1 ([([0, 3], .ex), ([1], .ex), ([2], .ex), ([4], .ex)], .ex) _ h48) (ob (o_b h49) (ob (o_b h50) (ob (o_b h51) (ob (zrf k v38.1 ([1, 4], .ex) _ h53) ob0))))))))))))))))))))))))))))))) (by kernel_rfl))
           ·exact zt (g := zO) g31 (zqc [(22, 1, 0, .c (.agg (zd v1))), (22, 1, 2, .c (.tup [(db v3.1), (di v3.2)])), (22, 2, 0, .c (.agg (zd v5))), (22, 2, 2, .c (.tup [(db v7.1), (di v7.2)])), (22, 3, 0, .c (.agg (zd v9))), (22, 3, 1, .c (.tup [(di v11.1), (di v11.2)])), (22, 4, 0, .c (.agg (zd v13))), (22, 4, 1, .c (.tup [(dl eI v15.1.1 v15.1.2), (di v15.2)])), (22, 7, 0, .c (.agg (zd v20))), (22, 7, 1, .c (.tup [(di v22.1), (di v22.2)])), (22, 8, 0, .c (.agg (zd v24))), (22, 8, 1, .c (.tup [(di v26.1), (di v26.2)])), (22, 9, 0, .c (.agg (zd v28))), (22, 9, 1, .c (.tup [(dl (eL eI) v30.1.1 v30.1.2), (di v30.2)])), (22, 10, 0, .c (.agg (zd v32))), (22, 10, 1, .c (.tup [(di v34.1), (di v34.2.1), (di v34.2.2)])), (22, 11, 0, .c (.agg (zd v36))), (22, 11, 1, .c (.tup [(dl eI v38.1.1 v38.1.2), (di v38.2)])), (22, 12, 2, .q (xb true)), (22, 12, 6, .q (xb true)), (22, 12, 10, .q (xb true)), (22, 12, 14, .q (xb true)), (22, 12, 18, .q (xb true)), (22, 12, 22, .q (xb true)), (22, 12, 26, .q (xb true)), (22, 12, 33, .c (db v47)), (22, 12, 35, .q (xb true)), (22, 12, 39, .q (xb true)), (22, 12, 43, .q (xb false))] [(22, 1000005, (.nor, zB v3 v7 v11 v15 false))] (ob (zk k 3 _ h2) (ob (zab k v1 ([2, 3], .ex) _ h4) (ob (zk k 3 _ h6) (ob (zX k v5 ([0, 1, 2, 0, 1], .ex) _ h8) (ob (zk k 3 _ h10) (ob (zw k v9 _ h12) (ob (zk k 3 _ h14) (ob (z8 k v13 _ h16) (ob (zM k v3 v7 v11 v15 _ h18) (ob (zk k 3 _ h21) (ob (zp k v20 _ h23) (ob (zk k 3 _ h25) (ob (ztb k v24 0 3 _ h27) (ob (zk k 3 _ h29) (ob (zcb k v28 _ h31) (ob (zk k 3 _ h33) (ob (zFb k v32 _ h35) (ob (zk k 1 _ h37) (ob (zrb k v36 _ h39) (ob (o_b h40) (ob (o_b h41) (ob (o_b h42) (ob (o_b h43) (ob (o_b h44) (ob (o_b h45) (ob (o_b h46) (ob (zXc k v30.1 ([([0, 3], .ex), ([1], .ex), ([2], .ex), ([4], .ex)], .ex) _ h48) (ob (o_b h49) (ob (o_b h50) (ob (o_b h51) ob0)))))))))))))))))))))))))))))) (by kernel_rfl))
          ·exact zt (g := zO) g30 (zqc [(22, 1, 0, .c (.agg (zd v1))), (22, 1, 2, .c (.tup [(db v3.1), (di v3.2)])), (22, 2, 0, .c (.agg (zd v5))), (22, 2, 2, .c (.tup [(db v7.1), (di v7.2)])), (22, 3, 0, .c (.agg (zd v9))), (22, 3, 1, .c (.tup [(di v11.1), (di v11.2)])), (22, 4, 0, .c (.agg (zd v13))), (22, 4, 1, .c (.tup [(dl eI v15.1.1 v15.1.2), (di v15.2)])), (22, 7, 0, .c (.agg (zd v20))), (22, 7, 1, .c (.tup [(di v22.1), (di v22.2)])), (22, 8, 0, .c (.agg (zd v24))), (22, 8, 1, .c (.tup [(di v26.1), (di v26.2)])), (22, 9, 0, .c (.agg (zd v28))), (22, 9, 1, .c (.tup [(dl (eL eI) v30.1.1 v30.1.2), (di v30.2)])), (22, 10, 0, .c (.agg (zd v32))), (22, 10, 1, .c (.tup [(di v34.1), (di v34.2.1), (di v34.2.2)])), (22, 11, 0, .c (.agg (zd v36))), (22, 11, 1, .c (.tup [(dl eI v38.1.1 v38.1.2), (di v38.2)])), (22, 12, 2, .q (xb true)), (22, 12, 6, .q (xb true)), (22, 12, 10, .q (xb true)), (22, 12, 14, .q (xb true)), (22, 12, 18, .q (xb true)), (22, 12, 22, .q (xb true)), (22, 12, 26, .q (xb true)), (22, 12, 33, .c (db v47)), (22, 12, 35, .q (xb true)), (22, 12, 39, .q (xb false))] [(22, 1000005, (.nor, zB v3 v7 v11 v15 false))] (ob (zk k 3 _ h2) (ob (zab k v1 ([2, 3], .ex) _ h4) (ob (zk k 3 _ h6) (ob (zX k v5 ([0, 1, 2, 0, 1], .ex) _ h8) (ob (zk k 3 _ h10) (ob (zw k v9 _ h12) (ob (zk k 3 _ h14) (ob (z8 k v13 _ h16) (ob (zM k v3 v7 v11 v15 _ h18) (ob (zk k 3 _ h21) (ob (zp k v20 _ h23) (ob (zk k 3 _ h25) (ob (ztb k v24 0 3 _ h27) (ob (zk k 3 _ h29) (ob (zcb k v28 _ h31) (ob (zk k 3 _ h33) (ob (zFb k v32 _ h35) (ob (zk k 1 _ h37) (ob (zrb k v36 _ h39) (ob (o_b h40) (ob (o_b h41) (ob (o_b h42) (ob (o_b h43) (ob (o_b h44) (ob (o_b h45) (ob (o_b h46) (ob (zXc k v30.1 ([([0, 3], .ex), ([1], .ex), ([2], .ex), ([4], .ex)], .ex) _ h48) (ob (o_b h49) (ob (o_b h50) ob0))))))))))))))))))))))))))))) (by kernel_rfl))
         ·exact zt (g := zO) g29 (zqc [(22, 1, 0, .c (.agg (zd v1))), (22, 1, 2, .c (.tup [(db v3.1), (di v3.2)])), (22, 2, 0, .c (.agg (zd v5))), (22, 2, 2, .c (.tup [(db v7.1), (di v7.2)])), (22, 3, 0, .c (.agg (zd v9))), (22, 3, 1, .c (.tup [(di v11.1), (di v11.2)])), (22, 4, 0, .c (.agg (zd v13))), (22, 4, 1, .c (.tup [(dl eI v15.1.1 v15.1.2), (di v15.2)])), (22, 7, 0, .c (.agg (zd v20))), (22, 7, 1, .c (.tup [(di v22.1), (di v22.2)])), (22, 8, 0, .c (.agg (zd v24))), (22, 8, 1, .c (.tup [(di v26.1), (di v26.2)])), (22, 9, 0, .c (.agg (zd v28))), (22, 9, 1, .c (.tup [(dl (eL eI) v30.1.1 v30.1.2), (di v30.2)])), (22, 10, 0, .c (.agg (zd v32))), (22, 10, 1, .c (.tup [(di v34.1), (di v34.2.1), (di v34.2.2)])), (22, 11, 0, .c (.agg (zd v36))), (22, 11, 1, .c (.tup [(dl eI v38.1.1 v38.1.2), (di v38.2)])), (22, 12, 2, .q (xb true)), (22, 12, 6, .q (xb true)), (22, 12, 10, .q (xb true)), (22, 12, 14, .q (xb true)), (22, 12, 18, .q (xb true)), (22, 12, 22, .q (xb true)), (22, 12, 26, .q (xb true)), (22, 12, 33, .c (db v47)), (22, 12, 35, .q (xb false))] [(22, 1000005, (.nor, zB v3 v7 v11 v15 false))] (ob (zk k 3 _ h2) (ob (zab k v1 ([2, 3], .ex) _ h4) (ob (zk k 3 _ h6) (ob (zX k v5 ([0, 1, 2, 0, 1], .ex) _ h8) (ob (zk k 3 _ h10) (ob (zw k v9 _ h12) (ob (zk k 3 _ h14) (ob (z8 k v13 _ h16) (ob (zM k v3 v7 v11 v15 _ h18) (ob (zk k 3 _ h21) (ob (zp k v20 _ h23) (ob (zk k 3 _ h25) (ob (ztb k v24 0 3 _ h27) (ob (zk k 3 _ h29) (ob (zcb k v28 _ h31) (ob (zk k 3 _ h33) (ob (zFb k v32 _ h35) (ob (zk k 1 _ h37) (ob (zrb k v36 _ h39) (ob (o_b h40) (ob (o_b h41) (ob (o_b h42) (ob (o_b h43) (ob (o_b h44) (ob (o_b h45) (ob (o_b h46) (ob (zXc k v30.1 ([([0, 3], .ex), ([1], .ex), ([2], .ex), ([4], .ex)], .ex) _ h48) (ob (o_b h49) ob0)))))))))))))))))))))))))))) (by kernel_rfl))
        ·exact zt (g := zO) g27 (zqc [(22, 1, 0, .c (.agg (zd v1))), (22, 1, 2, .c (.tup [(db v3.1), (di v3.2)])), (22, 2, 0, .c (.agg (zd v5))), (22, 2, 2, .c (.tup [(db v7.1), (di v7.2)])), (22, 3, 0, .c (.agg (zd v9))), (22, 3, 1, .c (.tup [(di v11.1), (di v11.2)])), (22, 4, 0, .c (.agg (zd v13))), (22, 4, 1, .c (.tup [(dl eI v15.1.1 v15.1.2), (di v15.2)])), (22, 7, 0, .c (.agg (zd v20))), (22, 7, 1, .c (.tup [(di v22.1), (di v22.2)])), (22, 8, 0, .c (.agg (zd v24))), (22, 8, 1, .c (.tup [(di v26.1), (di v26.2)])), (22, 9, 0, .c (.agg (zd v28))), (22, 9, 1, .c (.tup [(dl (eL eI) v30.1.1 v30.1.2), (di v30.2)])), (22, 10, 0, .c (.agg (zd v32))), (22, 10, 1, .c (.tup [(di v34.1), (di v34.2.1), (di v34.2.2)])), (22, 11, 0, .c (.agg (zd v36))), (22, 11, 1, .c (.tup [(dl eI v38.1.1 v38.1.2), (di v38.2)])), (22, 12, 2, .q (xb true)), (22, 12, 6, .q (xb true)), (22, 12, 10, .q (xb true)), (22, 12, 14, .q (xb true)), (22, 12, 18, .q (xb true)), (22, 12, 22, .q (xb true)), (22, 12, 26, .q (xb false))] [(22, 1000005, (.nor, zB v3 v7 v11 v15 false))] (ob (zk k 3 _ h2) (ob (zab k v1 ([2, 3], .ex) _ h4) (ob (zk k 3 _ h6) (ob (zX k v5 ([0, 1, 2, 0, 1], .ex) _ h8) (ob (zk k 3 _ h10) (ob (zw k v9 _ h12) (ob (zk k 3 _ h14) (ob (z8 k v13 _ h16) (ob (zM k v3 v7 v11 v15 _ h18) (ob (zk k 3 _ h21) (ob (zp k v20 _ h23) (ob (zk k 3 _ h25) (ob (ztb k v24 0 3 _ h27) (ob (zk k 3 _ h29) (ob (zcb k v28 _ h31) (ob (zk k 3 _ h33) (ob (zFb k v32 _ h35) (ob (zk k 1 _ h37) (ob (zrb k v36 _ h39) (ob (o_b h40) (ob (o_b h41) (ob (o_b h42) (ob (o_b h43) (ob (o_b h44) (ob (o_b h45) (ob (o_b h46) ob0)))))))))))))))))))))))))) (by kernel_rfl))
       ·exact zt (g := zO) g26 (zqc [(22, 1, 0, .c (.agg (zd v1))), (22, 1, 2, .c (.tup [(db v3.1), (di v3.2)])), (22, 2, 0, .c (.agg (zd v5))), (22, 2, 2, .c (.tup [(db v7.1), (di v7.2)])), (22, 3, 0, .c (.agg (zd v9))), (22, 3, 1, .c (.tup [(di v11.1), (di v11.2)])), (22, 4, 0, .c (.agg (zd v13))), (22, 4, 1, .c (.tup [(dl eI v15.1.1 v15.1.2), (di v15.2)])), (22, 7, 0, .c (.agg (zd v20))), (22, 7, 1, .c (.tup [(di v22.1), (di v22.2)])), (22, 8, 0, .c (.agg (zd v24))), (22, 8, 1, .c (.tup [(di v26.1), (di v26.2)])), (22, 9, 0, .c (.agg (zd v28))), (22, 9, 1, .c (.tup [(dl (eL eI) v30.1.1 v30.1.2), (di v30.2)])), (22, 10, 0, .c (.agg (zd v32))), (22, 10, 1, .c (.tup [(di v34.1), (di v34.2.1), (di v34.2.2)])), (22, 11, 0, .c (.agg (zd v36))), (22, 11, 1, .c (.tup [(dl eI v38.1.1 v38.1.2), (di v38.2)])), (22, 12, 2, .q (xb true)), (22, 12, 6, .q (xb true)), (22, 12, 10, .q (xb true)), (22, 12, 14, .q (xb true)), (22, 12, 18, .q (xb true)), (22, 12, 22, .q (xb false))] [(22, 1000005, (.nor, zB v3 v7 v11 v15 false))] (ob (zk k 3 _ h2) (ob (zab k v1 ([2, 3], .ex) _ h4) (ob (zk k 3 _ h6) (ob (zX k v5 ([0, 1, 2, 0, 1], .ex) _ h8) (ob (zk k 3 _ h10) (ob (zw k v9 _ h12) (ob (zk k 3 _ h14) (ob (z8 k v13 _ h16) (ob (zM k v3 v7 v11 v15 _ h18) (ob (zk k 3 _ h21) (ob (zp k v20 _ h23) (ob (zk k 3 _ h25) (ob (ztb k v24 0 3 _ h27) (ob (zk k 3 _ h29) (ob (zcb k v28 _ h31) (ob (zk k 3 _ h33) (ob (zFb k v32 _ h35) (ob (zk k 1 _ h37) (ob (zrb k v36 _ h39) (ob (o_b h40) (ob (o_b h41) (ob (o_b h42) (ob (o_b h43) (ob (o_b h44) (ob (o_b h45) ob0))))))))))))))))))))))))) (by kernel_rfl))
      ·exact zt (g := zO) g25 (zqc [(22, 1, 0, .c (.agg (zd v1))), (22, 1, 2, .c (.tup [(db v3.1), (di v3.2)])), (22, 2, 0, .c (.agg (zd v5))), (22, 2, 2, .c (.tup [(db v7.1), (di v7.2)])), (22, 3, 0, .c (.agg (zd v9))), (22, 3, 1, .c (.tup [(di v11.1), (di v11.2)])), (22, 4, 0, .c (.agg (zd v13))), (22, 4, 1, .c (.tup [(dl eI v15.1.1 v15.1.2), (di v15.2)])), (22, 7, 0, .c (.agg (zd v20))), (22, 7, 1, .c (.tup [(di v22.1), (di v22.2)])), (22, 8, 0, .c (.agg (zd v24))), (22, 8, 1, .c (.tup [(di v26.1), (di v26.2)])), (22, 9, 0, .c (.agg (zd v28))), (22, 9, 1, .c (.tup [(dl (eL eI) v30.1.1 v30.1.2), (di v30.2)])), (22, 10, 0, .c (.agg (zd v32))), (22, 10, 1, .c (.tup [(di v34.1), (di v34.2.1), (di v34.2.2)])), (22, 11, 0, .c (.agg (zd v36))), (22, 11, 1, .c (.tup [(dl eI v38.1.1 v38.1.2), (di v38.2)])), (22, 12, 2, .q (xb true)), (22, 12, 6, .q (xb true)), (22, 12, 10, .q (xb true)), (22, 12, 14, .q (xb true)), (22, 12, 18, .q (xb false))] [(22, 1000005, (.nor, zB v3 v7 v11 v15 false))] (ob (zk k 3 _ h2) (ob (zab k v1 ([2, 3], .ex) _ h4) (ob (zk k 3 _ h6) (ob (zX k v5 ([0, 1, 2, 0, 1], .ex) _ h8) (ob (zk k 3 _ h10) (ob (zw k v9 _ h12) (ob (zk k 3 _ h14) (ob (z8 k v13 _ h16) (ob (zM k v3 v7 v11 v15 _ h18) (ob (zk k 3 _ h21) (ob (zp k v20 _ h23) (ob (zk k 3 _ h25) (ob (ztb k v24 0 3 _ h27) (ob (zk k 3 _ h29) (ob (zcb k v28 _ h31) (ob (zk k 3 _ h33) (ob (zFb k v32 _ h35) (ob (zk k 1 _ h37) (ob (zrb k v36 _ h39) (ob (o_b h40) (ob (o_b h41) (ob (o_b h42) (ob (o_b h43) (ob (o_b h44) ob0)))))))))))))))))))))))) (by kernel_rfl))
     ·exact zt (g := zO) g24 (zqc [(22, 1, 0, .c (.agg (zd v1))), (22, 1, 2, .c (.tup [(db v3.1), (di v3.2)])), (22, 2, 0, .c (.agg (zd v5))), (22, 2, 2, .c (.tup [(db v7.1), (di v7.2)])), (22, 3, 0, .c (.agg (zd v9))), (22, 3, 1, .c (.tup [(di v11.1), (di v11.2)])), (22, 4, 0, .c (.agg (zd v13))), (22, 4, 1, .c (.tup [(dl eI v15.1.1 v15.1.2), (di v15.2)])), (22, 7, 0, .c (.agg (zd v20))), (22, 7, 1, .c (.tup [(di v22.1), (di v22.2)])), (22, 8, 0, .c (.agg (zd v24))), (22, 8, 1, .c (.tup [(di v26.1), (di v26.2)])), (22, 9, 0, .c (.agg (zd v28))), (22, 9, 1, .c (.tup [(dl (eL eI) v30.1.1 v30.1.2), (di v30.2)])), (22, 10, 0, .c (.agg (zd v32))), (22, 10, 1, .c (.tup [(di v34.1), (di v34.2.1), (di v34.2.2)])), (22, 11, 0, .c (.agg (zd v36))), (22, 11, 1, .c (.tup [(dl eI v38.1.1 v38.1.2), (di v38.2)])), (22, 12, 2, .q (xb true)), (22, 12, 6, .q (xb true)), (22, 12, 10, .q (xb true)), (22, 12, 14, .q (xb false))] [(22, 1000005, (.nor, zB v3 v7 v11 v15 false))] (ob (zk k 3 _ h2) (ob (zab k v1 ([2, 3], .ex) _ h4) (ob (zk k 3 _ h6) (ob (zX k v5 ([0, 1, 2, 0, 1], .ex) _ h8) (ob (zk k 3 _ h10) (ob (zw k v9 _ h12) (ob (zk k 3 _ h14) (ob (z8 k v13 _ h16) (ob (zM k v3 v7 v11 v15 _ h18) (ob (zk k 3 _ h21) (ob (zp k v20 _ h23) (ob (zk k 3 _ h25) (ob (ztb k v24 0 3 _ h27) (ob (zk k 3 _ h29) (ob (zcb k v28 _ h31) (ob (zk k 3 _ h33) (ob (zFb k v32 _ h35) (ob (zk k 1 _ h37) (ob (zrb k v36 _ h39) (ob (o_b h40) (ob (o_b h41) (ob (o_b h42) (ob (o_b h43) ob0))))))))))))))))))))))) (by kernel_rfl))
    ·exact zt (g := zO) g23 (zqc [(22, 1, 0, .c (.agg (zd v1))), (22, 1, 2, .c (.tup [(db v3.1), (di v3.2)])), (22, 2, 0, .c (.agg (zd v5))), (22, 2, 2, .c (.tup [(db v7.1), (di v7.2)])), (22, 3, 0, .c (.agg (zd v9))), (22, 3, 1, .c (.tup [(di v11.1), (di v11.2)])), (22, 4, 0, .c (.agg (zd v13))), (22, 4, 1, .c (.tup [(dl eI v15.1.1 v15.1.2), (di v15.2)])), (22, 7, 0, .c (.agg (zd v20))), (22, 7, 1, .c (.tup [(di v22.1), (di v22.2)])), (22, 8, 0, .c (.agg (zd v24))), (22, 8, 1, .c (.tup [(di v26.1), (di v26.2)])), (22, 9, 0, .c (.agg (zd v28))), (22, 9, 1, .c (.tup [(dl (eL eI) v30.1.1 v30.1.2), (di v30.2)])), (22, 10, 0, .c (.agg (zd v32))), (22, 10, 1, .c (.tup [(di v34.1), (di v34.2.1), (di v34.2.2)])), (22, 11, 0, .c (.agg (zd v36))), (22, 11, 1, .c (.tup [(dl eI v38.1.1 v38.1.2), (di v38.2)])), (22, 12, 2, .q (xb true)), (22, 12, 6, .q (xb true)), (22, 12, 10, .q (xb false))] [(22, 1000005, (.nor, zB v3 v7 v11 v15 false))] (ob (zk k 3 _ h2) (ob (zab k v1 ([2, 3], .ex) _ h4) (ob (zk k 3 _ h6) (ob (zX k v5 ([0, 1, 2, 0, 1], .ex) _ h8) (ob (zk k 3 _ h10) (ob (zw k v9 _ h12) (ob (zk k 3 _ h14) (ob (z8 k v13 _ h16) (ob (zM k v3 v7 v11 v15 _ h18) (ob (zk k 3 _ h21) (ob (zp k v20 _ h23) (ob (zk k 3 _ h25) (ob (ztb k v24 0 3 _ h27) (ob (zk k 3 _ h29) (ob (zcb k v28 _ h31) (ob (zk k 3 _ h33) (ob (zFb k v32 _ h35) (ob (zk k 1 _ h37) (ob (zrb k v36 _ h39) (ob (o_b h40) (ob (o_b h41) (ob (o_b h42) ob0)))))))))))))))))))))) (by kernel_rfl))
   ·exact zt (g := zO) g22 (zqc [(22, 1, 0, .c (.agg (zd v1))), (22, 1, 2, .c (.tup [(db v3.1), (di v3.2)])), (22, 2, 0, .c (.agg (zd v5))), (22, 2, 2, .c (.tup [(db v7.1), (di v7.2)])), (22, 3, 0, .c (.agg (zd v9))), (22, 3, 1, .c (.tup [(di v11.1), (di v11.2)])), (22, 4, 0, .c (.agg (zd v13))), (22, 4, 1, .c (.tup [(dl eI v15.1.1 v15.1.2), (di v15.2)])), (22, 7, 0, .c (.agg (zd v20))), (22, 7, 1, .c (.tup [(di v22.1), (di v22.2)])), (22, 8, 0, .c (.agg (zd v24))), (22, 8, 1, .c (.tup [(di v26.1), (di v26.2)])), (22, 9, 0, .c (.agg (zd v28))), (22, 9, 1, .c (.tup [(dl (eL eI) v30.1.1 v30.1.2), (di v30.2)])), (22, 10, 0, .c (.agg (zd v32))), (22, 10, 1, .c (.tup [(di v34.1), (di v34.2.1), (di v34.2.2)])), (22, 11, 0, .c (.agg (zd v36))), (22, 11, 1, .c (.tup [(dl eI v38.1.1 v38.1.2), (di v38.2)])), (22, 12, 2, .q (xb true)), (22, 12, 6, .q (xb false))] [(22, 1000005, (.nor, zB v3 v7 v11 v15 false))] (ob (zk k 3 _ h2) (ob (zab k v1 ([2, 3], .ex) _ h4) (ob (zk k 3 _ h6) (ob (zX k v5 ([0, 1, 2, 0, 1], .ex) _ h8) (ob (zk k 3 _ h10) (ob (zw k v9 _ h12) (ob (zk k 3 _ h14) (ob (z8 k v13 _ h16) (ob (zM k v3 v7 v11 v15 _ h18) (ob (zk k 3 _ h21) (ob (zp k v20 _ h23) (ob (zk k 3 _ h25) (ob (ztb k v24 0 3 _ h27) (ob (zk k 3 _ h29) (ob (zcb k v28 _ h31) (ob (zk k 3 _ h33) (ob (zFb k v32 _ h35) (ob (zk k 1 _ h37) (ob (zrb k v36 _ h39) (ob (o_b h40) (ob (o_b h41) ob0))))))))))))))))))))) (by kernel_rfl))
  ·exact zt (g := zO) g21 (zqc [(22, 1, 0, .c (.agg (zd v1))), (22, 1, 2, .c (.tup [(db v3.1), (di v3.2)])), (22, 2, 0, .c (.agg (zd v5))), (22, 2, 2, .c (.tup [(db v7.1), (di v7.2)])), (22, 3, 0, .c (.agg (zd v9))), (22, 3, 1, .c (.tup [(di v11.1), (di v11.2)])), (22, 4, 0, .c (.agg (zd v13))), (22, 4, 1, .c (.tup [(dl eI v15.1.1 v15.1.2), (di v15.2)])), (22, 7, 0, .c (.agg (zd v20))), (22, 7, 1, .c (.tup [(di v22.1), (di v22.2)])), (22, 8, 0, .c (.agg (zd v24))), (22, 8, 1, .c (.tup [(di v26.1), (di v26.2)])), (22, 9, 0, .c (.agg (zd v28))), (22, 9, 1, .c (.tup [(dl (eL eI) v30.1.1 v30.1.2), (di v30.2)])), (22, 10, 0, .c (.agg (zd v32))), (22, 10, 1, .c (.tup [(di v34.1), (di v34.2.1), (di v34.2.2)])), (22, 11, 0, .c (.agg (zd v36))), (22, 11, 1, .c (.tup [(dl eI v38.1.1 v38.1.2), (di v38.2)])), (22, 12, 2, .q (xb false))] [(22, 1000005, (.nor, zB v3 v7 v11 v15 false))] (ob (zk k 3 _ h2) (ob (zab k v1 ([2, 3], .ex) _ h4) (ob (zk k 3 _ h6) (ob (zX k v5 ([0, 1, 2, 0, 1], .ex) _ h8) (ob (zk k 3 _ h10) (ob (zw k v9 _ h12) (ob (zk k 3 _ h14) (ob (z8 k v13 _ h16) (ob (zM k v3 v7 v11 v15 _ h18) (ob (zk k 3 _ h21) (ob (zp k v20 _ h23) (ob (zk k 3 _ h25) (ob (ztb k v24 0 3 _ h27) (ob (zk k 3 _ h29) (ob (zcb k v28 _ h31) (ob (zk k 3 _ h33) (ob (zFb k v32 _ h35) (ob (zk k 1 _ h37) (ob (zrb k v36 _ h39) (ob (o_b h40) ob0)))))))))))))))))))) (by kernel_rfl))
noncomputable def zkv (p0 p1 : Int) (r : (Int × Bool)) : TM := [(0, (xi p0)), (1, (xi p1)), (4, (xi 0)), (7, (xb false)), (5, (xi r.1)), (12, (xb r.2))]
noncomputable def zud (p0 p1 : Int) (cb : Bool) (r : (Int × Bool)) : St := ⟨(zkv p0 p1 r), ⟨[], []⟩, []⟩
noncomputable def zKv (p0 p1 : Int) (cb : Bool) : TM := [(0, (xi p0)), (1, (xi p1)), (4, (xi 0)), (7, (xb false)), (5, (xi (p0.tmod p1))), (12, (xb cb))]
theorem zgk (k : Nat) (p0 p1 : Int) (cb : Bool) (r : (Int × Bool)) (h : zZc k p0 p1 cb = some r) : ev TE 45 (cnd TE 45 12) ⟨(zKv p0 p1 cb), ⟨[], []⟩, []⟩ = some (.nor, zud p0 p1 cb r) := by
 unfold zZc at h
 refine zo h (fun h201 g1 => ?_) (fun h201 g1 => ?_)
 ·subst h201
  exact zu (g := fun r => (Ex.nor, zud p0 p1 true r)) g1 (zqe [] [] ob0 (by kernel_rfl))
 ·subst h201
  exact zu (g := fun r => (Ex.nor, zud p0 p1 false r)) g1 (zqe [] [] ob0 (by kernel_rfl))
theorem zr (k : Nat) (p0 p1 r : Int) (h : ztc k p0 p1 = some r) : zC TE (ev TE) 45 [(di p0), (di p1)] = some (zdg r) := by
 unfold ztc at h
 refine zo h (fun h1 g1 => ?_) (fun h1 g1 => ?_)
 ·exact zt (g := zdg) g1 (zqc [(45, 1, 1, .q (xb true))] [] (ob (o_b h1) ob0) (by kernel_rfl))
 ·refine zo g1 (fun h2 g2 => ?_) (fun h2 g2 => ?_)
  ·cases g2
  ·refine zl g2 (fun v3 h4 g3 => ?_)
   exact zt (g := zdg) g3 (zqc [(45, 1, 1, .q (xb false)), (45, 3, 2, .q (xi (p0.tmod p1)))] [(45, 2000012, (.nor, zud p0 p1 (decide ((p0.tmod p1) < 0)) v3))] (ob (o_b h1) (ob (zuv (x := p0) .i64 h2) (ob (zgk k p0 p1 (decide ((p0.tmod p1) < 0)) _ h4) ob0))) (by kernel_rfl))
noncomputable def zWv (p0 : za) (p1 : zt4) (v4 v6 : Int) (v9 v11 v13 v15 : zt1) (r : Bool) : TM := [(0, (.d (.agg (zd p0)))), (1, (.d (.agg (aI 3 p1)))), (zsp 2), (zsp 3), (4, (xb false)), (22, (xb false)), (zsp 5), (6, (xi v4)), (30, (xi v6)), (39, (xb true)), (12, (xi v9.1)), (13, (xi v9.2)), (14, (xi v11.1)), (15, (xi v11.2)), (16, (xi v13.1)), (17, (xi v13.2)), (18, (xi v15.1)), (19, (xi v15.2)), (168, (xb r))]
noncomputable def zK (p0 : za) (p1 : zt4) (v4 v6 : Int) (v9 v11 v13 v15 : zt1) (r : Bool) : St := ⟨(zWv p0 p1 v4 v6 v9 v11 v13 v15 r), ⟨[(zc 2 (zd p0)), (zc 3 (aI 3 p1)), (5, (.cells [(.d (dl zb p0.Letters.1 p0.Letters.2)), (.d (dl (eL eI) p0.Far.1 p0.Far.2)), (.d (dl (aI 2) p0.Apart.1 p0.Apart.2)), (xi (if (w64 (p0.Most + v4)) < 8 then (w64 (p0.Most + v4)) else 8))]))], []⟩, []⟩
noncomputable def zTv (p0 : za) (p1 : zt4) (v4 v6 : Int) (v9 v11 v13 v15 : zt1) : TM := [(0, (.d (.agg (zd p0)))), (1, (.d (.agg (aI 3 p1)))), (zsp 2), (zsp 3), (4, (xb false)), (22, (xb false)), (zsp 5), (6, (xi v4)), (30, (xi v6)), (39, (xb true)), (12, (xi v9.1)), (13, (xi v9.2)), (14, (xi v11.1)), (15, (xi v11.2)), (16, (xi v13.1)), (17, (xi v13.2)), (18, (xi v15.1)), (19, (xi v15.2))]
theorem zNb (k : Nat) (p0 : za) (p1 : zt4) (v4 v6 : Int) (v9 v11 v13 v15 : zt1) (r : Bool) (h : zcc k p0 p1 v4 v6 v9 v11 v13 v15 = some r) : ev TE 10 (rgn TE 10 31) ⟨(zTv p0 p1 v4 v6 v9 v11 v13 v15), ⟨[(zc 2 (zd p0)), (zc 3 (aI 3 p1)), (5, (.cells [(.d (dl zb p0.Letters.1 p0.Letters.2)), (.d (dl (eL eI) p0.Far.1 p0.Far.2)), (.d (dl (aI 2) p0.Apart.1 p0.Apart.2)), (xi (if (w64 (p0.Most + v4)) < 8 then (w64 (p0.Most + v4)) else 8))]))], []⟩, []⟩ = some (.nor, zK p0 p1 v4 v6 v9 v11 v13 v15 r) := by
 unfold zcc at h
 refine zo h (fun h1001 g1 => ?_) (fun h1001 g1 => ?_)
 ·exact zu (g := fun r => (Ex.nor, zK p0 p1 v4 v6 v9 v11 v13 v15 r)) g1 (zqe [(10, 31, 2, .q (xb true))] [] (ob (o_b h1001) ob0) (by kernel_rfl))
 ·refine zo g1 (fun h1002 g2 => ?_) (fun h1002 g2 => ?_)
  ·exact zu (g := fun r => (Ex.nor, zK p0 p1 v4 v6 v9 v11 v13 v15 r)) g2 (zqe [(10, 31, 2, .q (xb false)), (10, 31, 6, .q (xb true))] [] (ob (o_b h1001) (ob (o_b h1002) ob0)) (by kernel_rfl))
  ·refine zo g2 (fun h1003 g3 => ?_) (fun h1003 g3 => ?_)
   ·exact zu (g := fun r => (Ex.nor, zK p0 p1 v4 v6 v9 v11 v13 v15 r)) g3 (zqe [(10, 31, 2, .q (xb false)), (10, 31, 6, .q (xb false)), (10, 31, 11, .q (xb true))] [] (ob (o_b h1001) (ob (o_b h1002) (ob (o_b h1003) ob0))) (by kernel_rfl))
   ·refine zo g3 (fun h1004 g4 => ?_) (fun h1004 g4 => ?_)
    ·exact zu (g := fun r => (Ex.nor, zK p0 p1 v4 v6 v9 v11 v13 v15 r)) g4 (zqe [(10, 31, 2, .q (xb false)), (10, 31, 6, .q (xb false)), (10, 31, 11, .q (xb false)), (10, 31, 18, .q (xb true))] [] (ob (o_b h1001) (ob (o_b h1002) (ob (o_b h1003) (ob (o_b h1004) ob0)))) (by kernel_rfl))
    ·exact zu (g := fun r => (Ex.nor, zK p0 p1 v4 v6 v9 v11 v13 v15 r)) g4 (zqe [(10, 31, 2, .q (xb false)), (10, 31, 6, .q (xb false)), (10, 31, 11, .q (xb false)), (10, 31, 18, .q (xb false))] [] (ob (o_b h1001) (ob (o_b h1002) (ob (o_b h1003) (ob (o_b h1004) ob0)))) (by kernel_rfl))
noncomputable def zVv (p0 : za) (p1 : zt4) (v4 v6 v10 : Int) (v19 v21 v23 v25 : zt1) (r : Bool) : TM := [(0, (.d (.agg (zd p0)))), (1, (.d (.agg (aI 3 p1)))), (zsp 2), (zsp 3), (4, (xb false)), (22, (xb false)), (zsp 5), (6, (xi v4)), (30, (xi v6)), (39, (xb false)), (47, (xb true)), (7, (xi v10)), (zsp 8), (12, (xi v19.1)), (13, (xi v19.2)), (14, (xi v21.1)), (15, (xi v21.2)), (16, (xi v23.1)), (17, (xi v23.2)), (18, (xi v25.1)), (19, (xi v25.2)), (168, (xb r))]
noncomputable def zJ (p0 : za) (p1 : zt4) (v4 v6 v10 : Int) (v12 : zi) (v14 : zOb) (v19 v21 v23 v25 : zt1) (r : Bool) : St := ⟨(zVv p0 p1 v4 v6 v10 v19 v21 v23 v25 r), ⟨[(zc 2 (zd p0)), (zc 3 (aI 3 p1)), (5, (.cells [(.row 0 77 (p0.Letters.1.set v10.toNat (⟨v12.Day, v12.Place, v14, v12.Dead, v12.Account⟩ : zi)).length), (.d (dl (eL eI) p0.Far.1 p0.Far.2)), (.d (dl (aI 2) p0.Apart.1 p0.Apart.2)), (xi p0.Most)])), (8, (.cells [(xi v12.Day), (xi v12.Place), (xi v14.Low), (xi v14.High), (xb v12.Dead), (xi v12.Account)])), (77, (rowO false 6 zb (p0.Letters.1.set v10.toNat (⟨v12.Day, v12.Place, v14, v12.Dead, v12.Account⟩ : zi)) false))], []⟩, []⟩
noncomputable def zSv (p0 : za) (p1 : zt4) (v4 v6 v10 : Int) (v19 v21 v23 v25 : zt1) : TM := [(0, (.d (.agg (zd p0)))), (1, (.d (.agg (aI 3 p1)))), (zsp 2), (zsp 3), (4, (xb false)), (22, (xb false)), (zsp 5), (6, (xi v4)), (30, (xi v6)), (39, (xb false)), (47, (xb true)), (7, (xi v10)), (zsp 8), (12, (xi v19.1)), (13, (xi v19.2)), (14, (xi v21.1)), (15, (xi v21.2)), (16, (xi v23.1)), (17, (xi v23.2)), (18, (xi v25.1)), (19, (xi v25.2))]
theorem zJb (k : Nat) (p0 : za) (p1 : zt4) (v4 v6 v10 : Int) (v12 : zi) (v14 : zOb) (v19 v21 v23 v25 : zt1) (r : Bool) (h : z5b k p0 p1 v4 v6 v10 v12 v14 v19 v21 v23 v25 = some r) : ev TE 10 (rgn TE 10 31) ⟨(zSv p0 p1 v4 v6 v10 v19 v21 v23 v25), ⟨[(zc 2 (zd p0)), (zc 3 (aI 3 p1)), (5, (.cells [(.row 0 77 (p0.Letters.1.set v10.toNat (⟨v12.Day, v12.Place, v14, v12.Dead, v12.Account⟩ : zi)).length), (.d (dl (eL eI) p0.Far.1 p0.Far.2)), (.d (dl (aI 2) p0.Apart.1 p0.Apart.2)), (xi p0.Most)])), (8, (.cells [(xi v12.Day), (xi v12.Place), (xi v14.Low), (xi v14.High), (xb v12.Dead), (xi v12.Account)])), (77, (rowO false 6 zb (p0.Letters.1.set v10.toNat (⟨v12.Day, v12.Place, v14, v12.Dead, v12.Account⟩ : zi)) false))], []⟩, []⟩ = some (.nor, zJ p0 p1 v4 v6 v10 v12 v14 v19 v21 v23 v25 r) := by
 unfold z5b at h
 refine zo h (fun h1101 g1 => ?_) (fun h1101 g1 => ?_)
 ·exact zu (g := fun r => (Ex.nor, zJ p0 p1 v4 v6 v10 v12 v14 v19 v21 v23 v25 r)) g1 (zqe [(10, 31, 2, .q (xb true))] [] (ob (o_b h1101) ob0) (by kernel_rfl))
 ·refine zo g1 (fun h1102 g2 => ?_) (fun h1102 g2 => ?_)
  ·exact zu (g := fun r => (Ex.nor, zJ p0 p1 v4 v6 v10 v12 v14 v19 v21 v23 v25 r)) g2 (zqe [(10, 31, 2, .q (xb false)), (10, 31, 6, .q (xb true))] [] (ob (o_b h1101) (ob (o_b h1102) ob0)) (by kernel_rfl))
  ·refine zo g2 (fun h1103 g3 => ?_) (fun h1103 g3 => ?_)
   ·exact zu (g := fun r => (Ex.nor, zJ p0 p1 v4 v6 v10 v12 v14 v19 v21 v23 v25 r)) g3 (zqe [(10, 31, 2, .q (xb false)), (10, 31, 6, .q (xb false)), (10, 31, 11, .q (xb true))] [] (ob (o_b h1101) (ob (o_b h1102) (ob (o_b h1103) ob0))) (by kernel_rfl))
   ·refine zo g3 (fun h1104 g4 => ?_) (fun h1104 g4 => ?_)
    ·exact zu (g := fun r => (Ex.nor, zJ p0 p1 v4 v6 v10 v12 v14 v19 v21 v23 v25 r)) g4 (zqe [(10, 31, 2, .q (xb false)), (10, 31, 6, .q (xb false)), (10, 31, 11, .q (xb false)), (10, 31, 18, .q (xb true))] [] (ob (o_b h1101) (ob (o_b h1102) (ob (o_b h1103) (ob (o_b h1104) ob0)))) (by kernel_rfl))
    ·exact zu (g := fun r => (Ex.nor, zJ p0 p1 v4 v6 v10 v12 v14 v19 v21 v23 v25 r)) g4 (zqe [(10, 31, 2, .q (xb false)), (10, 31, 6, .q (xb false)), (10, 31, 11, .q (xb false)), (10, 31, 18, .q (xb false))] [] (ob (o_b h1101) (ob (o_b h1102) (ob (o_b h1103) (ob (o_b h1104) ob0)))) (by kernel_rfl))
noncomputable def z8v (p0 : za) (p1 : zt4) (v4 v6 s4_12 : Int) (s7_25 : (List Int)) (s7_14 : Int) : TM := [(0, (.d (.agg (zd p0)))), (1, (.d (.agg (aI 3 p1)))), (zsp 2), (zsp 3), (4, (xb false)), (22, (xb false)), (zsp 5), (6, (xi v4)), (30, (xi v6)), (39, (xb false)), (47, (xb false)), (84, (xb true)), (9, (xi s4_12)), (91, (xb true)), (10, (.row 0 10 s7_25.length)), (11, (xi s7_14))]
noncomputable def zsh (p0 : za) (p1 : zt4) (v4 v6 s4_12 : Int) (s4_21 : zt10) (s7_14 : Int) (s7_25 : (List Int)) : St := ⟨(z8v p0 p1 v4 v6 s4_12 s7_25 s7_14), ⟨[(zc 2 (zd p0)), (zc 3 (aI 3 p1)), (5, (.cells [(.d (dl zb p0.Letters.1 p0.Letters.2)), (.row 0 1086 s4_21.length), (.d (dl (aI 2) p0.Apart.1 p0.Apart.2)), (xi p0.Most)])), (1086, (rowO true 1 (eL eI) s4_21 true)), (10, (rowO true 1 eI s7_25 true))], []⟩, []⟩
noncomputable def z9u (p0 : za) (p1 : zt4) (v4 v6 s4_12 : Int) (r : (Int × (List Int))) : TM := [(0, (.d (.agg (zd p0)))), (1, (.d (.agg (aI 3 p1)))), (zsp 2), (zsp 3), (4, (xb false)), (22, (xb false)), (zsp 5), (6, (xi v4)), (30, (xi v6)), (39, (xb false)), (47, (xb false)), (84, (xb true)), (9, (xi s4_12)), (91, (xb true)), (10, (.row 0 10 r.2.length)), (11, (xi r.1)), (101, (xb false))]
noncomputable def zOc (p0 : za) (p1 : zt4) (v4 v6 s4_12 : Int) (s4_21 : zt10) (r : (Int × (List Int))) : St := ⟨(z9u p0 p1 v4 v6 s4_12 r), ⟨[(zc 2 (zd p0)), (zc 3 (aI 3 p1)), (5, (.cells [(.d (dl zb p0.Letters.1 p0.Letters.2)), (.row 0 1086 s4_21.length), (.d (dl (aI 2) p0.Apart.1 p0.Apart.2)), (xi p0.Most)])), (1086, (rowO true 1 (eL eI) s4_21 true)), (10, (rowO true 1 eI r.2 true))], []⟩, []⟩
noncomputable def zxh (p0 : za) (p1 : zt4) (v4 v6 s4_12 : Int) (s4_21 : zt10) : (Int × (List Int)) → Ex × St := fun r => ((.exit 3), zOc p0 p1 v4 v6 s4_12 s4_21 r)
theorem zoh (k : Nat) (p0 : za) (p1 : zt4) (v4 v6 s4_12 : Int) (s4_21 : zt10) (s7_14 : Int) (s7_25 : (List Int)) (x : (Int × (List Int)) ⊕ (Int × (List Int))) (h : zzb k p0 p1 v4 v6 s4_12 s4_21 s7_14 s7_25 = some x) : zN TE 10 (blk TE 10 3) (fun s : (Int × (List Int)) => zsh p0 p1 v4 v6 s4_12 s4_21 s.1 s.2) (zxh p0 p1 v4 v6 s4_12 s4_21) (s7_14, s7_25) x := by
 unfold zzb at h
 refine zl h (fun v801 h802 g1 => ?_)
 refine zo g1 (fun h803 g2 => ?_) (fun h803 g2 => ?_)
 ·refine zl g2 (fun v804 h805 g3 => ?_)
  refine zl g3 (fun v806 h807 g4 => ?_)
  refine zAb g4 (fun h808 g5 => ?_)
  exact zqn ((w64 (s7_14 + 1)), (s7_25 ++ [(if (w64 (v806 - v4)) > 0 then (w64 (v806 - v4)) else 0)])) [1086, 10] [(10, 23, 4, .q (.d (.pin [(dl eI v801.1 v801.2)]))), (10, 23, 6, .q (xi (v801.1.length : Int))), (10, 23, 7, .q (xb true)), (10, 25, 4, .q (.d (.pin [(dl eI v804.1 v804.2)]))), (10, 25, 7, .q (.d (.pin [(di v806)]))), (10, 25, 13, .ap (s7_25 ++ [(if (w64 (v806 - v4)) > 0 then (w64 (v806 - v4)) else 0)]).length (rowO true 1 eI (s7_25 ++ [(if (w64 (v806 - v4)) > 0 then (w64 (v806 - v4)) else 0)]) true))] [] g5 (ob (o_ia (e := (eL eI)) 1 h802 rfl) (ob (zq eI v801.1) (ob (o_b h803) (ob (o_ia (e := (eL eI)) 1 h805 rfl) (ob (o_ia (e := eI) 1 h807 rfl) (ob (o_ap (b := true) (z := 1) (e := eI) (l := s7_25) (w := true) (if (w64 (v806 - v4)) > 0 then (w64 (v806 - v4)) else 0) (fun _ => rfl) h808) (ob (zif true 1 (eL eI) s4_21 true) (ob (zif true 1 eI (s7_25 ++ [(if (w64 (v806 - v4)) > 0 then (w64 (v806 - v4)) else 0)]) true) ob0)))))))) (by kernel_rfl)
 ·exact zqo [(10, 23, 4, .q (.d (.pin [(dl eI v801.1 v801.2)]))), (10, 23, 6, .q (xi (v801.1.length : Int))), (10, 23, 7, .q (xb false))] [] g2 (ob (o_ia (e := (eL eI)) 1 h802 rfl) (ob (zq eI v801.1) (ob (o_b h803) ob0))) (by kernel_rfl)
noncomputable def zdv (p0 : za) (p1 : zt4) (v4 v6 s4_12 : Int) : TM := [(0, (.d (.agg (zd p0)))), (1, (.d (.agg (aI 3 p1)))), (zsp 2), (zsp 3), (4, (xb false)), (22, (xb false)), (zsp 5), (6, (xi v4)), (30, (xi v6)), (39, (xb false)), (47, (xb false)), (84, (xb true)), (9, (xi s4_12))]
noncomputable def zth (p0 : za) (p1 : zt4) (v4 v6 s4_12 : Int) (s4_21 : zt10) : St := ⟨(zdv p0 p1 v4 v6 s4_12), ⟨[(zc 2 (zd p0)), (zc 3 (aI 3 p1)), (5, (.cells [(.d (dl zb p0.Letters.1 p0.Letters.2)), (.row 0 1086 s4_21.length), (.d (dl (aI 2) p0.Apart.1 p0.Apart.2)), (xi p0.Most)])), (1086, (rowO true 1 (eL eI) s4_21 true))], []⟩, []⟩
noncomputable def zRv (p0 : za) (p1 : zt4) (v4 v6 : Int) (r : (Int × (List (SL Int)))) : TM := [(0, (.d (.agg (zd p0)))), (1, (.d (.agg (aI 3 p1)))), (zsp 2), (zsp 3), (4, (xb false)), (22, (xb false)), (zsp 5), (6, (xi v4)), (30, (xi v6)), (39, (xb false)), (47, (xb false)), (84, (xb true)), (9, (xi r.1)), (91, (xb false))]
noncomputable def zL (p0 : za) (p1 : zt4) (v4 v6 : Int) (r : (Int × (List (SL Int)))) : St := ⟨(zRv p0 p1 v4 v6 r), ⟨[(zc 2 (zd p0)), (zc 3 (aI 3 p1)), (5, (.cells [(.d (dl zb p0.Letters.1 p0.Letters.2)), (.row 0 1086 r.2.length), (.d (dl (aI 2) p0.Apart.1 p0.Apart.2)), (xi p0.Most)])), (1086, (rowO true 1 (eL eI) r.2 true))], []⟩, []⟩
noncomputable def zwh (p0 : za) (p1 : zt4) (v4 v6 : Int) : (Int × (List (SL Int))) → Ex × St := fun r => ((.exit 1), zL p0 p1 v4 v6 r)
theorem zQb (k : Nat) (p0 : za) (p1 : zt4) (v4 v6 s4_12 : Int) (s4_21 : zt10) (x : (Int × (List (SL Int))) ⊕ (Int × (List (SL Int)))) (h : zbb k p0 p1 v4 v6 s4_12 s4_21 = some x) : zN TE 10 (blk TE 10 1) (fun s : (Int × (List (SL Int))) => zth p0 p1 v4 v6 s.1 s.2) (zwh p0 p1 v4 v6) (s4_12, s4_21) x := by
 unfold zbb at h
 refine zo h (fun h701 g1 => ?_) (fun h701 g1 => ?_)
 ·refine zl g1 (fun v702 h703 g2 => ?_)
  refine zAb g2 (fun h704 g3 => ?_)
  exact zqn ((w64 (s4_12 + 1)), (s4_21 ++ [(v702.2, (rcap true v702.2))])) [1086] [(10, 19, 3, .q (xi (p0.Far.1.length : Int))), (10, 19, 4, .q (xb true)), (10, 26, 3, .fz (dl eI v702.2 (rcap true v702.2)) (rowO true 1 eI v702.2 false)), (10, 26, 4, .ap (s4_21 ++ [(v702.2, (rcap true v702.2))]).length (rowO true 1 (eL eI) (s4_21 ++ [(v702.2, (rcap true v702.2))]) true))] [(10, 3, (.nor, zOc p0 p1 v4 v6 s4_12 s4_21 v702))] g3 (ob (zq (eL eI) p0.Far.1) (ob (o_b h701) (ob (zz (id := 3) (r' := (.nor, zOc p0 p1 v4 v6 s4_12 s4_21 v702)) (zkc (zoh k p0 p1 v4 v6 s4_12 s4_21) k _ _ h703) rfl) (ob (o_cr true 1 eI v702.2 true 0 10) (ob (o_ap (b := true) (z := 1) (e := (eL eI)) (l := s4_21) (w := true) (v702.2, (rcap true v702.2)) (fun _ => rfl) h704) (ob (zif true 1 (eL eI) (s4_21 ++ [(v702.2, (rcap true v702.2))]) true) ob0)))))) (by kernel_rfl)
 ·exact zqo [(10, 19, 3, .q (xi (p0.Far.1.length : Int))), (10, 19, 4, .q (xb false))] [] g1 (ob (zq (eL eI) p0.Far.1) (ob (o_b h701) ob0)) (by kernel_rfl)
noncomputable def zvv (p0 : za) (p1 : zt4) (v4 v6 : Int) (v11 : (Int × (List (SL Int)))) (v13 v15 v17 v19 : zt1) (r : Bool) : TM := [(0, (.d (.agg (zd p0)))), (1, (.d (.agg (aI 3 p1)))), (zsp 2), (zsp 3), (4, (xb false)), (22, (xb false)), (zsp 5), (6, (xi v4)), (30, (xi v6)), (39, (xb false)), (47, (xb false)), (84, (xb true)), (9, (xi v11.1)), (91, (xb false)), (12, (xi v13.1)), (13, (xi v13.2)), (14, (xi v15.1)), (15, (xi v15.2)), (16, (xi v17.1)), (17, (xi v17.2)), (18, (xi v19.1)), (19, (xi v19.2)), (168, (xb r))]
noncomputable def zH (p0 : za) (p1 : zt4) (v4 v6 : Int) (v11 : (Int × (List (SL Int)))) (v13 v15 v17 v19 : zt1) (r : Bool) : St := ⟨(zvv p0 p1 v4 v6 v11 v13 v15 v17 v19 r), ⟨[(zc 2 (zd p0)), (zc 3 (aI 3 p1)), (5, (.cells [(.d (dl zb p0.Letters.1 p0.Letters.2)), (.row 0 1086 v11.2.length), (.d (dl (aI 2) p0.Apart.1 p0.Apart.2)), (xi p0.Most)])), (1086, (rowO true 1 (eL eI) v11.2 false))], []⟩, []⟩
noncomputable def z2u (p0 : za) (p1 : zt4) (v4 v6 : Int) (v11 : (Int × (List (SL Int)))) (v13 v15 v17 v19 : zt1) : TM := [(0, (.d (.agg (zd p0)))), (1, (.d (.agg (aI 3 p1)))), (zsp 2), (zsp 3), (4, (xb false)), (22, (xb false)), (zsp 5), (6, (xi v4)), (30, (xi v6)), (39, (xb false)), (47, (xb false)), (84, (xb true)), (9, (xi v11.1)), (91, (xb false)), (12, (xi v13.1)), (13, (xi v13.2)), (14, (xi v15.1)), (15, (xi v15.2)), (16, (xi v17.1)), (17, (xi v17.2)), (18, (xi v19.1)), (19, (xi v19.2))]
theorem zKb (k : Nat) (p0 : za) (p1 : zt4) (v4 v6 : Int) (v11 : (Int × (List (SL Int)))) (v13 v15 v17 v19 : zt1) (r : Bool) (h : zac k p0 p1 v4 v6 v11 v13 v15 v17 v19 = some r) : ev TE 10 (rgn TE 10 31) ⟨(z2u p0 p1 v4 v6 v11 v13 v15 v17 v19), ⟨[(zc 2 (zd p0)), (zc 3 (aI 3 p1)), (5, (.cells [(.d (dl zb p0.Letters.1 p0.Letters.2)), (.row 0 1086 v11.2.length), (.d (dl (aI 2) p0.Apart.1 p0.Apart.2)), (xi p0.Most)])), (1086, (rowO true 1 (eL eI) v11.2 false))], []⟩, []⟩ = some (.nor, zH p0 p1 v4 v6 v11 v13 v15 v17 v19 r) := by
 unfold zac at h
 refine zo h (fun h1201 g1 => ?_) (fun h1201 g1 => ?_)
 ·exact zu (g := fun r => (Ex.nor, zH p0 p1 v4 v6 v11 v13 v15 v17 v19 r)) g1 (zqe [(10, 31, 2, .q (xb true))] [] (ob (o_b h1201) ob0) (by kernel_rfl))
 ·refine zo g1 (fun h1202 g2 => ?_) (fun h1202 g2 => ?_)
  ·exact zu (g := fun r => (Ex.nor, zH p0 p1 v4 v6 v11 v13 v15 v17 v19 r)) g2 (zqe [(10, 31, 2, .q (xb false)), (10, 31, 6, .q (xb true))] [] (ob (o_b h1201) (ob (o_b h1202) ob0)) (by kernel_rfl))
  ·refine zo g2 (fun h1203 g3 => ?_) (fun h1203 g3 => ?_)
   ·exact zu (g := fun r => (Ex.nor, zH p0 p1 v4 v6 v11 v13 v15 v17 v19 r)) g3 (zqe [(10, 31, 2, .q (xb false)), (10, 31, 6, .q (xb false)), (10, 31, 11, .q (xb true))] [] (ob (o_b h1201) (ob (o_b h1202) (ob (o_b h1203) ob0))) (by kernel_rfl))
   ·refine zo g3 (fun h1204 g4 => ?_) (fun h1204 g4 => ?_)
    ·exact zu (g := fun r => (Ex.nor, zH p0 p1 v4 v6 v11 v13 v15 v17 v19 r)) g4 (zqe [(10, 31, 2, .q (xb false)), (10, 31, 6, .q (xb false)), (10, 31, 11, .q (xb false)), (10, 31, 18, .q (xb true))] [] (ob (o_b h1201) (ob (o_b h1202) (ob (o_b h1203) (ob (o_b h1204) ob0)))) (by kernel_rfl))
    ·exact zu (g := fun r => (Ex.nor, zH p0 p1 v4 v6 v11 v13 v15 v17 v19 r)) g4 (zqe [(10, 31, 2, .q (xb false)), (10, 31, 6, .q (xb false)), (10, 31, 11, .q (xb false)), (10, 31, 18, .q (xb false))] [] (ob (o_b h1201) (ob (o_b h1202) (ob (o_b h1203) (ob (o_b h1204) ob0)))) (by kernel_rfl))
noncomputable def zjw (p0 : za) (p1 : zt4) (v4 v6 : Int) (r : (Bool × (SL (Nat → Int)))) : TM := [(0, (.d (.agg (zd p0)))), (1, (.d (.agg (aI 3 p1)))), (zsp 2), (zsp 3), (4, (xb false)), (22, (xb false)), (zsp 5), (6, (xi v4)), (30, (xi v6)), (39, (xb false)), (47, (xb false)), (84, (xb false)), (34, (xb r.1))]
noncomputable def zU (p0 : za) (p1 : zt4) (v4 v6 : Int) (cb : Bool) (r : (Bool × (SL (Nat → Int)))) : St := ⟨(zjw p0 p1 v4 v6 r), ⟨[(zc 2 (zd p0)), (zc 3 (aI 3 p1)), (5, (.cells [(.d (dl zb p0.Letters.1 p0.Letters.2)), (.d (dl (eL eI) p0.Far.1 p0.Far.2)), (.d (dl (aI 2) r.2.1 r.2.2)), (xi p0.Most)]))], []⟩, []⟩
noncomputable def z2v (p0 : za) (p1 : zt4) (v4 v6 : Int) (cb : Bool) : TM := [(0, (.d (.agg (zd p0)))), (1, (.d (.agg (aI 3 p1)))), (zsp 2), (zsp 3), (4, (xb false)), (22, (xb false)), (zsp 5), (6, (xi v4)), (30, (xi v6)), (39, (xb false)), (47, (xb false)), (84, (xb false)), (34, (xb cb))]
theorem zPb (k : Nat) (p0 : za) (p1 : zt4) (v4 v6 : Int) (cb : Bool) (r : (Bool × (SL (Nat → Int)))) (h : zbc k p0 p1 v4 v6 cb = some r) : ev TE 10 (cnd TE 10 34) ⟨(z2v p0 p1 v4 v6 cb), ⟨[(zc 2 (zd p0)), (zc 3 (aI 3 p1)), (zc 5 (zd p0))], []⟩, []⟩ = some (.nor, zU p0 p1 v4 v6 cb r) := by
 unfold zbc at h
 refine zo h (fun h901 g1 => ?_) (fun h901 g1 => ?_)
 ·subst h901
  refine zAb g1 (fun h902 g2 => ?_)
  exact zu (g := fun r => (Ex.nor, zU p0 p1 v4 v6 true r)) g2 (zqe [(10, 7, 2, .q (.d (dl (aI 2) (p0.Apart.1.drop (1 : Int).toNat) (pcap p0.Apart.2 true))))] [] (ob (ztu (e := (aI 2)) (z := 2) (n := 1) p0.Apart.1 p0.Apart.2 (fun _ => rfl) h902) ob0) (by kernel_rfl))
 ·subst h901
  exact zu (g := fun r => (Ex.nor, zU p0 p1 v4 v6 false r)) g1 (zqe [] [] ob0 (by kernel_rfl))
noncomputable def z5u (p0 : za) (p1 : zt4) (v4 v6 : Int) (v11 : (Bool × (SL (Nat → Int)))) (v13 v15 v17 v19 : zt1) (r : Bool) : TM := [(0, (.d (.agg (zd p0)))), (1, (.d (.agg (aI 3 p1)))), (zsp 2), (zsp 3), (4, (xb false)), (22, (xb false)), (zsp 5), (6, (xi v4)), (30, (xi v6)), (39, (xb false)), (47, (xb false)), (84, (xb false)), (34, (xb v11.1)), (12, (xi v13.1)), (13, (xi v13.2)), (14, (xi v15.1)), (15, (xi v15.2)), (16, (xi v17.1)), (17, (xi v17.2)), (18, (xi v19.1)), (19, (xi v19.2)), (168, (xb r))]
noncomputable def zI (p0 : za) (p1 : zt4) (v4 v6 : Int) (v11 : (Bool × (SL (Nat → Int)))) (v13 v15 v17 v19 : zt1) (r : Bool) : St := ⟨(z5u p0 p1 v4 v6 v11 v13 v15 v17 v19 r), ⟨[(zc 2 (zd p0)), (zc 3 (aI 3 p1)), (5, (.cells [(.d (dl zb p0.Letters.1 p0.Letters.2)), (.d (dl (eL eI) p0.Far.1 p0.Far.2)), (.d (dl (aI 2) v11.2.1 v11.2.2)), (xi p0.Most)]))], []⟩, []⟩
noncomputable def z1u (p0 : za) (p1 : zt4) (v4 v6 : Int) (v11 : (Bool × (SL (Nat → Int)))) (v13 v15 v17 v19 : zt1) : TM := [(0, (.d (.agg (zd p0)))), (1, (.d (.agg (aI 3 p1)))), (zsp 2), (zsp 3), (4, (xb false)), (22, (xb false)), (zsp 5), (6, (xi v4)), (30, (xi v6)), (39, (xb false)), (47, (xb false)), (84, (xb false)), (34, (xb v11.1)), (12, (xi v13.1)), (13, (xi v13.2)), (14, (xi v15.1)), (15, (xi v15.2)), (16, (xi v17.1)), (17, (xi v17.2)), (18, (xi v19.1)), (19, (xi v19.2))]
theorem zIb (k : Nat) (p0 : za) (p1 : zt4) (v4 v6 : Int) (v11 : (Bool × (SL (Nat → Int)))) (v13 v15 v17 v19 : zt1) (r : Bool) (h : zsb k p0 p1 v4 v6 v11 v13 v15 v17 v19 = some r) : ev TE 10 (rgn TE 10 31) ⟨(z1u p0 p1 v4 v6 v11 v13 v15 v17 v19), ⟨[(zc 2 (zd p0)), (zc 3 (aI 3 p1)), (5, (.cells [(.d (dl zb p0.Letters.1 p0.Letters.2)), (.d (dl (eL eI) p0.Far.1 p0.Far.2)), (.d (dl (aI 2) v11.2.1 v11.2.2)), (xi p0.Most)]))], []⟩, []⟩ = some (.nor, zI p0 p1 v4 v6 v11 v13 v15 v17 v19 r) := by
 unfold zsb at h
 refine zo h (fun h1301 g1 => ?_) (fun h1301 g1 => ?_)
 ·exact zu (g := fun r => (Ex.nor, zI p0 p1 v4 v6 v11 v13 v15 v17 v19 r)) g1 (zqe [(10, 31, 2, .q (xb true))] [] (ob (o_b h1301) ob0) (by kernel_rfl))
 ·refine zo g1 (fun h1302 g2 => ?_) (fun h1302 g2 => ?_)
  ·exact zu (g := fun r => (Ex.nor, zI p0 p1 v4 v6 v11 v13 v15 v17 v19 r)) g2 (zqe [(10, 31, 2, .q (xb false)), (10, 31, 6, .q (xb true))] [] (ob (o_b h1301) (ob (o_b h1302) ob0)) (by kernel_rfl))
  ·refine zo g2 (fun h1303 g3 => ?_) (fun h1303 g3 => ?_)
   ·exact zu (g := fun r => (Ex.nor, zI p0 p1 v4 v6 v11 v13 v15 v17 v19 r)) g3 (zqe [(10, 31, 2, .q (xb false)), (10, 31, 6, .q (xb false)), (10, 31, 11, .q (xb true))] [] (ob (o_b h1301) (ob (o_b h1302) (ob (o_b h1303) ob0))) (by kernel_rfl))
   ·refine zo g3 (fun h1304 g4 => ?_) (fun h1304 g4 => ?_)
    ·exact zu (g := fun r => (Ex.nor, zI p0 p1 v4 v6 v11 v13 v15 v17 v19 r)) g4 (zqe [(10, 31, 2, .q (xb false)), (10, 31, 6, .q (xb false)), (10, 31, 11, .q (xb false)), (10, 31, 18, .q (xb true))] [] (ob (o_b h1301) (ob (o_b h1302) (ob (o_b h1303) (ob (o_b h1304) ob0)))) (by kernel_rfl))
    ·exact zu (g := fun r => (Ex.nor, zI p0 p1 v4 v6 v11 v13 v15 v17 v19 r)) g4 (zqe [(10, 31, 2, .q (xb false)), (10, 31, 6, .q (xb false)), (10, 31, 11, .q (xb false)), (10, 31, 18, .q (xb false))] [] (ob (o_b h1301) (ob (o_b h1302) (ob (o_b h1303) (ob (o_b h1304) ob0)))) (by kernel_rfl))
theorem z8h (k : Nat) (p0 : za) (p1 : zt4) (r : Bool) (h : znb k p0 p1 = some r) : zC TE (ev TE) 10 [(.agg (zd p0)), (.agg (aI 3 p1))] = some (zA r) := by
 unfold znb at h
 refine zl h (fun v1 h2 g1 => ?_)
 refine zo g1 (fun h3 g2 => ?_) (fun h3 g2 => ?_)
 ·refine zl g2 (fun v4 h5 g3 => ?_)
  exact zt (g := zA) g3 (zqc [(10, 1, 1, .c (db v1)), (10, 1, 2, .q (xb true)), (10, 2, 0, .c (db v4))] [] (ob (zE k p0 _ h2) (ob (o_b h3) (ob (z9 k _ h5) ob0))) (by kernel_rfl))
 ·refine zl g2 (fun v4 h5 g3 => ?_)
  refine zl g3 (fun v6 h7 g4 => ?_)
  refine zo g4 (fun h8 g5 => ?_) (fun h8 g5 => ?_)
  ·refine zl g5 (fun v9 h10 g6 => ?_)
   refine zl g6 (fun v11 h12 g7 => ?_)
   refine zl g7 (fun v13 h14 g8 => ?_)
   refine zl g8 (fun v15 h16 g9 => ?_)
   refine zl g9 (fun v17 h18 g10 => ?_)
   refine zo g10 (fun h19 g11 => ?_) (fun h19 g11 => ?_)
   ·subst h19
    exact zt (g := zA) g11 (zqc [(10, 1, 1, .c (db v1)), (10, 1, 2, .q (xb false)), (10, 4, 2, .c (di v4)), (10, 5, 2, .c (di v6)), (10, 8, 1, .q (xb true)), (10, 27, 1, .c (.tup [(di v9.1), (di v9.2)])), (10, 28, 1, .c (.tup [(di v11.1), (di v11.2)])), (10, 29, 1, .c (.tup [(di v13.1), (di v13.2)])), (10, 30, 1, .c (.tup [(di v15.1), (di v15.2)]))] [(10, 1000031, (.nor, zK p0 p1 v4 v6 v9 v11 v13 v15 true))] (ob (zE k p0 _ h2) (ob (o_b h3) (ob (zr k (p1 2) 20 _ h5) (ob (zr k (p1 0) 4 _ h7) (ob (o_b h8) (ob (zw k p0 _ h10) (ob (zw k (⟨p0.Letters, p0.Far, p0.Apart, (if (w64 (p0.Most + v4)) < 8 then (w64 (p0.Most + v4)) else 8)⟩ : za) _ h12) (ob (zp k p0 _ h14) (ob (zp k (⟨p0.Letters, p0.Far, p0.Apart, (if (w64 (p0.Most + v4)) < 8 then (w64 (p0.Most + v4)) else 8)⟩ : za) _ h16) (ob (zNb k p0 p1 v4 v6 v9 v11 v13 v15 _ h18) ob0)))))))))) (by kernel_rfl))
   ·subst h19
    refine zo g11 (fun h20 g12 => ?_) (fun h20 g12 => ?_)
    ·refine zl g12 (fun v21 h22 g13 => ?_)
     exact zt (g := zA) g13 (zqc [(10, 1, 1, .c (db v1)), (10, 1, 2, .q (xb false)), (10, 4, 2, .c (di v4)), (10, 5, 2, .c (di v6)), (10, 8, 1, .q (xb true)), (10, 27, 1, .c (.tup [(di v9.1), (di v9.2)])), (10, 28, 1, .c (.tup [(di v11.1), (di v11.2)])), (10, 29, 1, .c (.tup [(di v13.1), (di v13.2)])), (10, 30, 1, .c (.tup [(di v15.1), (di v15.2)])), (10, 33, 2, .q (xb true)), (10, 33, 8, .c (db v21))] [(10, 1000031, (.nor, zK p0 p1 v4 v6 v9 v11 v13 v15 false))] (ob (zE k p0 _ h2) (ob (o_b h3) (ob (zr k (p1 2) 20 _ h5) (ob (zr k (p1 0) 4 _ h7) (ob (o_b h8) (ob (zw k p0 _ h10) (ob (zw k (⟨p0.Letters, p0.Far, p0.Apart, (if (w64 (p0.Most + v4)) < 8 then (w64 (p0.Most + v4)) else 8)⟩ : za) _ h12) (ob (zp k p0 _ h14) (ob (zp k (⟨p0.Letters, p0.Far, p0.Apart, (if (w64 (p0.Most + v4)) < 8 then (w64 (p0.Most + v4)) else 8)⟩ : za) _ h16) (ob (zNb k p0 p1 v4 v6 v9 v11 v13 v15 _ h18) (ob (o_b h20) (ob (z9 k _ h22) ob0)))))))))))) (by kernel_rfl))
    ·refine zo g12 (fun h21 g13 => ?_) (fun h21 g13 => ?_)
     ·refine zl g13 (fun v22 h23 g14 => ?_)
      exact zt (g := zA) g14 (zqc [(10, 1, 1, .c (db v1)), (10, 1, 2, .q (xb false)), (10, 4, 2, .c (di v4)), (10, 5, 2, .c (di v6)), (10, 8, 1, .q (xb true)), (10, 27, 1, .c (.tup [(di v9.1), (di v9.2)])), (10, 28, 1, .c (.tup [(di v11.1), (di v11.2)])), (10, 29, 1, .c (.tup [(di v13.1), (di v13.2)])), (10, 30, 1, .c (.tup [(di v15.1), (di v15.2)])), (10, 33, 2, .q (xb false)), (10, 33, 7, .q (xb true)), (10, 33, 8, .c (db v22))] [(10, 1000031, (.nor, zK p0 p1 v4 v6 v9 v11 v13 v15 false))] (ob (zE k p0 _ h2) (ob (o_b h3) (ob (zr k (p1 2) 20 _ h5) (ob (zr k (p1 0) 4 _ h7) (ob (o_b h8) (ob (zw k p0 _ h10) (ob (zw k (⟨p0.Letters, p0.Far, p0.Apart, (if (w64 (p0.Most + v4)) < 8 then (w64 (p0.Most + v4)) else 8)⟩ : za) _ h12) (ob (zp k p0 _ h14) (ob (zp k (⟨p0.Letters, p0.Far, p0.Apart, (if (w64 (p0.Most + v4)) < 8 then (w64 (p0.Most + v4)) else 8)⟩ : za) _ h16) (ob (zNb k p0 p1 v4 v6 v9 v11 v13 v15 _ h18) (ob (o_b h20) (ob (o_b h21) (ob (z9 k _ h23) ob0))))))))))))) (by kernel_rfl))
     ·exact zt (g := zA) g13 (zqc [(10, 1, 1, .c (db v1)), (10, 1, 2, .q (xb false)), (10, 4, 2, .c (di v4)), (10, 5, 2, .c (di v6)), (10, 8, 1, .q (xb true)), (10, 27, 1, .c (.tup [(di v9.1), (di v9.2)])), (10, 28, 1, .c (.tup [(di v11.1), (di v11.2)])), (10, 29, 1, .c (.tup [(di v13.1), (di v13.2)])), (10, 30, 1, .c (.tup [(di v15.1), (di v15.2)])), (10, 33, 2, .q (xb false)), (10, 33, 7, .q (xb false))] [(10, 1000031, (.nor, zK p0 p1 v4 v6 v9 v11 v13 v15 false))] (ob (zE k p0 _ h2) (ob (o_b h3) (ob (zr k (p1 2) 20 _ h5) (ob (zr k (p1 0) 4 _ h7) (ob (o_b h8) (ob (zw k p0 _ h10) (ob (zw k (⟨p0.Letters, p0.Far, p0.Apart, (if (w64 (p0.Most + v4)) < 8 then (w64 (p0.Most + v4)) else 8)⟩ : za) _ h12) (ob (zp k p0 _ h14) (ob (zp k (⟨p0.Letters, p0.Far, p0.Apart, (if (w64 (p0.Most + v4)) < 8 then (w64 (p0.Most + v4)) else 8)⟩ : za) _ h16) (ob (zNb k p0 p1 v4 v6 v9 v11 v13 v15 _ h18) (ob (o_b h20) (ob (o_b h21) ob0)))))))))))) (by kernel_rfl))
  ·refine zo g5 (fun h9 g6 => ?_) (fun h9 g6 => ?_)
   ·refine zl g6 (fun v10 h11 g7 => ?_)
    refine zl g7 (fun v12 h13 g8 => ?_)
    refine zl g8 (fun v14 h15 g9 => ?_)
    refine zAb g9 (fun h16 g10 => ?_)
    refine zl g10 (fun v17 h18 g11 => ?_)
    refine zl g11 (fun v19 h20 g12 => ?_)
    refine zl g12 (fun v21 h22 g13 => ?_)
    refine zl g13 (fun v23 h24 g14 => ?_)
    refine zl g14 (fun v25 h26 g15 => ?_)
    refine zl g15 (fun v27 h28 g16 => ?_)
    refine zo g16 (fun h29 g17 => ?_) (fun h29 g17 => ?_)
    ·subst h29
     exact zt (g := zA) g17 (zqc [(10, 1, 1, .c (db v1)), (10, 1, 2, .q (xb false)), (10, 4, 2, .c (di v4)), (10, 5, 2, .c (di v6)), (10, 8, 1, .q (xb false)), (10, 10, 1, .q (xb true)), (10, 11, 4, .q (xi (p0.Letters.1.length : Int))), (10, 11, 5, .c (di v10)), (10, 12, 3, .q (.d (.pin (zb v12)))), (10, 13, 12, .c (.agg [(di v14.Low), (di v14.High)])), (10, 14, 3, .ns (p0.Letters.1.map zb) p0.Letters.1.length), (10, 15, 4, .q (.rp 0 77 p0.Letters.1.length v10.toNat 0)), (10, 15, 5, .rs (rowO false 6 zb (p0.Letters.1.set v10.toNat (⟨v12.Day, v12.Place, v14, v12.Dead, v12.Account⟩ : zi)) true)), (10, 15, 999, .nm [] [(5, 0, (p0.Letters.1.set v10.toNat (⟨v12.Day, v12.Place, v14, v12.Dead, v12.Account⟩ : zi)).length)]), (10, 27, 1, .c (.tup [(di v19.1), (di v19.2)])), (10, 28, 1, .cr [((dl zb (p0.Letters.1.set v10.toNat (⟨v12.Day, v12.Place, v14, v12.Dead, v12.Account⟩ : zi)) (rcap false (p0.Letters.1.set v10.toNat (⟨v12.Day, v12.Place, v14, v12.Dead, v12.Account⟩ : zi)))), (rowO false 6 zb (p0.Letters.1.set v10.toNat (⟨v12.Day, v12.Place, v14, v12.Dead, v12.Account⟩ : zi)) false))] (.tup [(di v21.1), (di v21.2)])), (10, 29, 1, .c (.tup [(di v23.1), (di v23.2)])), (10, 30, 1, .cr [((dl zb (p0.Letters.1.set v10.toNat (⟨v12.Day, v12.Place, v14, v12.Dead, v12.Account⟩ : zi)) (rcap false (p0.Letters.1.set v10.toNat (⟨v12.Day, v12.Place, v14, v12.Dead, v12.Account⟩ : zi)))), (rowO false 6 zb (p0.Letters.1.set v10.toNat (⟨v12.Day, v12.Place, v14, v12.Dead, v12.Account⟩ : zi)) false))] (.tup [(di v25.1), (di v25.2)]))] [(10, 1000031, (.nor, zJ p0 p1 v4 v6 v10 v12 v14 v19 v21 v23 v25 true))] (ob (zE k p0 _ h2) (ob (o_b h3) (ob (zr k (p1 2) 20 _ h5) (ob (zr k (p1 0) 4 _ h7) (ob (o_b h8) (ob (o_b h9) (ob (zq zb p0.Letters.1) (ob (zr k ((fun k => p1 (1 + k)) 0) (p0.Letters.1.length : Int) _ h11) (ob (o_ia (e := zb) 6 h13 rfl) (ob (zDd k (if (w64 (v12.Born.Low - v4)) > 0 then (w64 (v12.Born.Low - v4)) else 0) (if (w64 (v12.Born.High + v4)) < 200 then (w64 (v12.Born.High + v4)) else 200) _ h15) (ob (zeo p0.Letters.1 zb) (ob (o_ns (P := TE.P) (φ := fun _ _ => none) (T := 22) (q := (6, [(di 0), (di 0), (di 0), (di 0), (db false), (di 0)])) (c := p0.Letters.2) (e := zb) p0.Letters.1 (by kernel_rfl) (fun _ => rfl) h16) (ob (rfl : (([] : List (List D)).isEmpty || !(p0.Letters.1.map zb).isEmpty) = true) (ob (zqa 22 48 0 77 v10 false 6 zb p0.Letters.1 true (by kernel_rfl) (by kernel_rfl) h18) (ob (o_rs (b := false) (z := 6) (e := zb) (l := p0.Letters.1) (o := 0) (n := 6) (ds := [(di v12.Day), (di v12.Place), (di v14.Low), (di v14.High), (db v12.Dead), (di v12.Account)]) (i := v10) (y' := (⟨v12.Day, v12.Place, v14, v12.Dead, v12.Account⟩ : zi)) h18 (Nat.le_of_ble_eq_true rfl) rfl) (ob (show p0.Letters.1.length = (p0.Letters.1.set v10.toNat (⟨v12.Day, v12.Place, v14, v12.Dead, v12.Account⟩ : zi)).length by simp) (ob (zw k p0 _ h20) (ob (o_cr false 6 zb (p0.Letters.1.set v10.toNat (⟨v12.Day, v12.Place, v14, v12.Dead, v12.Account⟩ : zi)) true 0 77) (ob (zw k (⟨((p0.Letters.1.set v10.toNat (⟨v12.Day, v12.Place, v14, v12.Dead, v12.Account⟩ : zi)), (rcap false (p0.Letters.1.set v10.toNat (⟨v12.Day, v12.Place, v14, v12.Dead, v12.Account⟩ : zi)))), p0.Far, p0.Apart, p0.Most⟩ : za) _ h22) (ob (zp k p0 _ h24) (ob (o_cr false 6 zb (p0.Letters.1.set v10.toNat (⟨v12.Day, v12.Place, v14, v12.Dead, v12.Account⟩ : zi)) false 0 77) (ob (zp k (⟨((p0.Letters.1.set v10.toNat (⟨v12.Day, v12.Place, v14, v12.Dead, v12.Account⟩ : zi)), (rcap false (p0.Letters.1.set v10.toNat (⟨v12.Day, v12.Place, v14, v12.Dead, v12.Account⟩ : zi)))), p0.Far, p0.Apart, p0.Most⟩ : za) _ h26) (ob (zJb k p0 p1 v4 v6 v10 v12 v14 v19 v21 v23 v25 _ h28) ob0))))))))))))))))))))))) (by kernel_rfl))
    ·subst h29
     refine zo g17 (fun h30 g18 => ?_) (fun h30 g18 => ?_)
     ·refine zl g18 (fun v31 h32 g19 => ?_)
      exact zt (g := zA) g19 (zqc [(10, 1, 1, .c (db v1)), (10, 1, 2, .q (xb false)), (10, 4, 2, .c (di v4)), (10, 5, 2, .c (di v6)), (10, 8, 1, .q (xb false)), (10, 10, 1, .q (xb true)), (10, 11, 4, .q (xi (p0.Letters.1.length : Int))), (10, 11, 5, .c (di v10)), (10, 12, 3, .q (.d (.pin (zb v12)))), (10, 13, 12, .c (.agg [(di v14.Low), (di v14.High)])), (10, 14, 3, .ns (p0.Letters.1.map zb) p0.Letters.1.length), (10, 15, 4, .q (.rp 0 77 p0.Letters.1.length v10.toNat 0)), (10, 15, 5, .rs (rowO false 6 zb (p0.Letters.1.set v10.toNat (⟨v12.Day, v12.Place, v14, v12.Dead, v12.Account⟩ : zi)) true)), (10, 15, 999, .nm [] [(5, 0, (p0.Letters.1.set v10.toNat (⟨v12.Day, v12.Place, v14, v12.Dead, v12.Account⟩ : zi)).length)]), (10, 27, 1, .c (.tup [(di v19.1), (di v19.2)])), (10, 28, 1, .cr [((dl zb (p0.Letters.1.set v10.toNat (⟨v12.Day, v12.Place, v14, v12.Dead, v12.Account⟩ : zi)) (rcap false (p0.Letters.1.set v10.toNat (⟨v12.Day, v12.Place, v14, v12.Dead, v12.Account⟩ : zi)))), (rowO false 6 zb (p0.Letters.1.set v10.toNat (⟨v12.Day, v12.Place, v14, v12.Dead, v12.Account⟩ : zi)) false))] (.tup [(di v21.1), (di v21.2)])), (10, 29, 1, .c (.tup [(di v23.1), (di v23.2)])), (10, 30, 1, .cr [((dl zb (p0.Letters.1.set v10.toNat (⟨v12.Day, v12.Place, v14, v12.Dead, v12.Account⟩ : zi)) (rcap false (p0.Letters.1.set v10.toNat (⟨v12.Day, v12.Place, v14, v12.Dead, v12.Account⟩ : zi)))), (rowO false 6 zb (p0.Letters.1.set v10.toNat (⟨v12.Day, v12.Place, v14, v12.Dead, v12.Account⟩ : zi)) false))] (.tup [(di v25.1), (di v25.2)])), (10, 33, 2, .q (xb true)), (10, 33, 8, .c (db v31))] [(10, 1000031, (.nor, zJ p0 p1 v4 v6 v10 v12 v14 v19 v21 v23 v25 false))] (ob (zE k p0 _ h2) (ob (o_b h3) (ob (zr k (p1 2) 20 _ h5) (ob (zr k (p1 0) 4 _ h7) (ob (o_b h8) (ob (o_b h9) (ob (zq zb p0.Letters.1) (ob (zr k ((fun k => p1 (1 + k)) 0) (p0.Letters.1.length : Int) _ h11) (ob (o_ia (e := zb) 6 h13 rfl) (ob (zDd k (if (w64 (v12.Born.Low - v4)) > 0 then (w64 (v12.Born.Low - v4)) else 0) (if (w64 (v12.Born.High + v4)) < 200 then (w64 (v12.Born.High + v4)) else 200) _ h15) (ob (zeo p0.Letters.1 zb) (ob (o_ns (P := TE.P) (φ := fun _ _ => none) (T := 22) (q := (6, [(di 0), (di 0), (di 0), (di 0), (db false), (di 0)])) (c := p0.Letters.2) (e := zb) p0.Letters.1 (by kernel_rfl) (fun _ => rfl) h16) (ob (rfl : (([] : List (List D)).isEmpty || !(p0.Letters.1.map zb).isEmpty) = true) (ob (zqa 22 48 0 77 v10 false 6 zb p0.Letters.1 true (by kernel_rfl) (by kernel_rfl) h18) (ob (o_rs (b := false) (z := 6) (e := zb) (l := p0.Letters.1) (o := 0) (n := 6) (ds := [(di v12.Day), (di v12.Place), (di v14.Low), (di v14.High), (db v12.Dead), (di v12.Account)]) (i := v10) (y' := (⟨v12.Day, v12.Place, v14, v12.Dead, v12.Account⟩ : zi)) h18 (Nat.le_of_ble_eq_true rfl) rfl) (ob (show p0.Letters.1.length = (p0.Letters.1.set v10.toNat (⟨v12.Day, v12.Place, v14, v12.Dead, v12.Account⟩ : zi)).length by simp) (ob (zw k p0 _ h20) (ob (o_cr false 6 zb (p0.Letters.1.set v10.toNat (⟨v12.Day, v12.Place, v14, v12.Dead, v12.Account⟩ : zi)) true 0 77) (ob (zw k (⟨((p0.Letters.1.set v10.toNat (⟨v12.Day, v12.Place, v14, v12.Dead, v12.Account⟩ : zi)), (rcap false (p0.Letters.1.set v10.toNat (⟨v12.Day, v12.Place, v14, v12.Dead, v12.Account⟩ : zi)))), p0.Far, p0.Apart, p0.Most⟩ : za) _ h22) (ob (zp k p0 _ h24) (ob (o_cr false 6 zb (p0.Letters.1.set v10.toNat (⟨v12.Day, v12.Place, v14, v12.Dead, v12.Account⟩ : zi)) false 0 77) (ob (zp k (⟨((p0.Letters.1.set v10.toNat (⟨v12.Day, v12.Place, v14, v12.Dead, v12.Account⟩ : zi)), (rcap false (p0.Letters.1.set v10.toNat (⟨v12.Day, v12.Place, v14, v12.Dead, v12.Account⟩ : zi)))), p0.Far, p0.Apart, p0.Most⟩ : za) _ h26) (ob (zJb k p0 p1 v4 v6 v10 v12 v14 v19 v21 v23 v25 _ h28) (ob (o_b h30) (ob (z9 k _ h32) ob0))))))))))))))))))))))))) (by kernel_rfl))
     ·refine zo g18 (fun h31 g19 => ?_) (fun h31 g19 => ?_)
      ·refine zl g19 (fun v32 h33 g20 => ?_)
       exact zt (g := zA) g20 (zqc [(10, 1, 1, .c (db v1)), (10, 1, 2, .q (xb false)), (10, 4, 2, .c (di v4)), (10, 5, 2, .c (di v6)), (10, 8, 1, .q (xb false)), (10, 10, 1, .q (xb true)), (10, 11, 4, .q (xi (p0.Letters.1.length : Int))), (10, 11, 5, .c (di v10)), (10, 12, 3, .q (.d (.pin (zb v12)))), (10, 13, 12, .c (.agg [(di v14.Low), (di v14.High)])), (10, 14, 3, .ns (p0.Letters.1.map zb) p0.Letters.1.length), (10, 15, 4, .q (.rp 0 77 p0.Letters.1.length v10.toNat 0)), (10, 15, 5, .rs (rowO false 6 zb (p0.Letters.1.set v10.toNat (⟨v12.Day, v12.Place, v14, v12.Dead, v12.Account⟩ : zi)) true)), (10, 15, 999, .nm [] [(5, 0, (p0.Letters.1.set v10.toNat (⟨v12.Day, v12.Place, v14, v12.Dead, v12.Account⟩ : zi)).length)]), (10, 27, 1, .c (.tup [(di v19.1), (di v19.2)])), (10, 28, 1, .cr [((dl zb (p0.Letters.1.set v10.toNat (⟨v12.Day, v12.Place, v14, v12.Dead, v12.Account⟩ : zi)) (rcap false (p0.Letters.1.set v10.toNat (⟨v12.Day, v12.Place, v14, v12.Dead, v12.Account⟩ : zi)))), (rowO false 6 zb (p0.Letters.1.set v10.toNat (⟨v12.Day, v12.Place, v14, v12.Dead, v12.Account⟩ : zi)) false))] (.tup [(di v21.1), (di v21.2)])), (10, 29, 1, .c (.tup [(di v23.1), (di v23.2)])), (10, 30, 1, .cr [((dl zb (p0.Letters.1.set v10.toNat (⟨v12.Day, v12.Place, v14, v12.Dead, v12.Account⟩ : zi)) (rcap false (p0.Letters.1.set v10.toNat (⟨v12.Day, v12.Place, v14, v12.Dead, v12.Account⟩ : zi)))), (rowO false 6 zb (p0.Letters.1.set v10.toNat (⟨v12.Day, v12.Place, v14, v12.Dead, v12.Account⟩ : zi)) false))] (.tup [(di v25.1), (di v25.2)])), (10, 33, 2, .q (xb false)), (10, 33, 7, .q (xb true)), (10, 33, 8, .c (db v32))] [(10, 1000031, (.nor, zJ p0 p1 v4 v6 v10 v12 v14 v19 v21 v23 v25 false))] (ob (zE k p0 _ h2) (ob (o_b h3) (ob (zr k (p1 2) 20 _ h5) (ob (zr k (p1 0) 4 _ h7) (ob (o_b h8) (ob (o_b h9) (ob (zq zb p0.Letters.1) (ob (zr k ((fun k => p1 (1 + k)) 0) (p0.Letters.1.length : Int) _ h11) (ob (o_ia (e := zb) 6 h13 rfl) (ob (zDd k (if (w64 (v12.Born.Low - v4)) > 0 then (w64 (v12.Born.Low - v4)) else 0) (if (w64 (v12.Born.High + v4)) < 200 then (w64 (v12.Born.High + v4)) else 200) _ h15) (ob (zeo p0.Letters.1 zb) (ob (o_ns (P := TE.P) (φ := fun _ _ => none) (T := 22) (q := (6, [(di 0), (di 0), (di 0), (di 0), (db false), (di 0)])) (c := p0.Letters.2) (e := zb) p0.Letters.1 (by kernel_rfl) (fun _ => rfl) h16) (ob (rfl : (([] : List (List D)).isEmpty || !(p0.Letters.1.map zb).isEmpty) = true) (ob (zqa 22 48 0 77 v10 false 6 zb p0.Letters.1 true (by kernel_rfl) (by kernel_rfl) h18) (ob (o_rs (b := false) (z := 6) (e := zb) (l := p0.Letters.1) (o := 0) (n := 6) (ds := [(di v12.Day), (di v12.Place), (di v14.Low), (di v14.High), (db v12.Dead), (di v12.Account)]) (i := v10) (y' := (⟨v12.Day, v12.Place, v14, v12.Dead, v12.Account⟩ : zi)) h18 (Nat.le_of_ble_eq_true rfl) rfl) (ob (show p0.Letters.1.length = (p0.Letters.1.set v10.toNat (⟨v12.Day, v12.Place, v14, v12.Dead, v12.Account⟩ : zi)).length by simp) (ob (zw k p0 _ h20) (ob (o_cr false 6 zb (p0.Letters.1.set v10.toNat (⟨v12.Day, v12.Place, v14, v12.Dead, v12.Account⟩ : zi)) true 0 77) (ob (zw k (⟨((p0.Letters.1.set v10.toNat (⟨v12.Day, v12.Place, v14, v12.Dead, v12.Account⟩ : zi)), (rcap false (p0.Letters.1.set v10.toNat (⟨v12.Day, v12.Place, v14, v12.Dead, v12.Account⟩ : zi)))), p0.Far, p0.Apart, p0.Most⟩ : za) _ h22) (ob (zp k p0 _ h24) (ob (o_cr false 6 zb (p0.Letters.1.set v10.toNat (⟨v12.Day, v12.Place, v14, v12.Dead, v12.Account⟩ : zi)) false 0 77) (ob (zp k (⟨((p0.Letters.1.set v10.toNat (⟨v12.Day, v12.Place, v14, v12.Dead, v12.Account⟩ : zi)), (rcap false (p0.Letters.1.set v10.toNat (⟨v12.Day, v12.Place, v14, v12.Dead, v12.Account⟩ : zi)))), p0.Far, p0.Apart, p0.Most⟩ : za) _ h26) (ob (zJb k p0 p1 v4 v6 v10 v12 v14 v19 v21 v23 v25 _ h28) (ob (o_b h30) (ob (o_b h31) (ob (z9 k _ h33) ob0)))))))))))))))))))))))))) (by kernel_rfl))
      ·exact zt (g := zA) g19 (zqc [(10, 1, 1, .c (db v1)), (10, 1, 2, .q (xb false)), (10, 4, 2, .c (di v4)), (10, 5, 2, .c (di v6)), (10, 8, 1, .q (xb false)), (10, 10, 1, .q (xb true)), (10, 11, 4, .q (xi (p0.Letters.1.length : Int))), (10, 11, 5, .c (di v10)), (10, 12, 3, .q (.d (.pin (zb v12)))), (10, 13, 12, .c (.agg [(di v14.Low), (di v14.High)])), (10, 14, 3, .ns (p0.Letters.1.map zb) p0.Letters.1.length), (10, 15, 4, .q (.rp 0 77 p0.Letters.1.length v10.toNat 0)), (10, 15, 5, .rs (rowO false 6 zb (p0.Letters.1.set v10.toNat (⟨v12.Day, v12.Place, v14, v12.Dead, v12.Account⟩ : zi)) true)), (10, 15, 999, .nm [] [(5, 0, (p0.Letters.1.set v10.toNat (⟨v12.Day, v12.Place, v14, v12.Dead, v12.Account⟩ : zi)).length)]), (10, 27, 1, .c (.tup [(di v19.1), (di v19.2)])), (10, 28, 1, .cr [((dl zb (p0.Letters.1.set v10.toNat (⟨v12.Day, v12.Place, v14, v12.Dead, v12.Account⟩ : zi)) (rcap false (p0.Letters.1.set v10.toNat (⟨v12.Day, v12.Place, v14, v12.Dead, v12.Account⟩ : zi)))), (rowO false 6 zb (p0.Letters.1.set v10.toNat (⟨v12.Day, v12.Place, v14, v12.Dead, v12.Account⟩ : zi)) false))] (.tup [(di v21.1), (di v21.2)])), (10, 29, 1, .c (.tup [(di v23.1), (di v23.2)])), (10, 30, 1, .cr [((dl zb (p0.Letters.1.set v10.toNat (⟨v12.Day, v12.Place, v14, v12.Dead, v12.Account⟩ : zi)) (rcap false (p0.Letters.1.set v10.toNat (⟨v12.Day, v12.Place, v14, v12.Dead, v12.Account⟩ : zi)))), (rowO false 6 zb (p0.Letters.1.set v10.toNat (⟨v12.Day, v12.Place, v14, v12.Dead, v12.Account⟩ : zi)) false))] (.tup [(di v25.1), (di v25.2)])), (10, 33, 2, .q (xb false)), (10, 33, 7, .q (xb false))] [(10, 1000031, (.nor, zJ p0 p1 v4 v6 v10 v12 v14 v19 v21 v23 v25 false))] (ob (zE k p0 _ h2) (ob (o_b h3) (ob (zr k (p1 2) 20 _ h5) (ob (zr k (p1 0) 4 _ h7) (ob (o_b h8) (ob (o_b h9) (ob (zq zb p0.Letters.1) (ob (zr k ((fun k => p1 (1 + k)) 0) (p0.Letters.1.length : Int) _ h11) (ob (o_ia (e := zb) 6 h13 rfl) (ob (zDd k (if (w64 (v12.Born.Low - v4)) > 0 then (w64 (v12.Born.Low - v4)) else 0) (if (w64 (v12.Born.High + v4)) < 200 then (w64 (v12.Born.High + v4)) else 200) _ h15) (ob (zeo p0.Letters.1 zb) (ob (o_ns (P := TE.P) (φ := fun _ _ => none) (T := 22) (q := (6, [(di 0), (di 0), (di 0), (di 0), (db false), (di 0)])) (c := p0.Letters.2) (e := zb) p0.Letters.1 (by kernel_rfl) (fun _ => rfl) h16) (ob (rfl : (([] : List (List D)).isEmpty || !(p0.Letters.1.map zb).isEmpty) = true) (ob (zqa 22 48 0 77 v10 false 6 zb p0.Letters.1 true (by kernel_rfl) (by kernel_rfl) h18) (ob (o_rs (b := false) (z := 6) (e := zb) (l := p0.Letters.1) (o := 0) (n := 6) (ds := [(di v12.Day), (di v12.Place), (di v14.Low), (di v14.High), (db v12.Dead), (di v12.Account)]) (i := v10) (y' := (⟨v12.Day, v12.Place, v14, v12.Dead, v12.Account⟩ : zi)) h18 (Nat.le_of_ble_eq_true rfl) rfl) (ob (show p0.Letters.1.length = (p0.Letters.1.set v10.toNat (⟨v12.Day, v12.Place, v14, v12.Dead, v12.Account⟩ : zi)).length by simp) (ob (zw k p0 _ h20) (ob (o_cr false 6 zb (p0.Letters.1.set v10.toNat (⟨v12.Day, v12.Place, v14, v12.Dead, v12.Account⟩ : zi)) true 0 77) (ob (zw k (⟨((p0.Letters.1.set v10.toNat (⟨v12.Day, v12.Place, v14, v12.Dead, v12.Account⟩ : zi)), (rcap false (p0.Letters.1.set v10.toNat (⟨v12.Day, v12.Place, v14, v12.Dead, v12.Account⟩ : zi)))), p0.Far, p0.Apart, p0.Most⟩ : za) _ h22) (ob (zp k p0 _ h24) (ob (o_cr false 6 zb (p0.Letters.1.set v10.toNat (⟨v12.Day, v12.Place, v14, v12.Dead, v12.Account⟩ : zi)) false 0 77) (ob (zp k (⟨((p0.Letters.1.set v10.toNat (⟨v12.Day, v12.Place, v14, v12.Dead, v12.Account⟩ : zi)), (rcap false (p0.Letters.1.set v10.toNat (⟨v12.Day, v12.Place, v14, v12.Dead, v12.Account⟩ : zi)))), p0.Far, p0.Apart, p0.Most⟩ : za) _ h26) (ob (zJb k p0 p1 v4 v6 v10 v12 v14 v19 v21 v23 v25 _ h28) (ob (o_b h30) (ob (o_b h31) ob0))))))))))))))))))))))))) (by kernel_rfl))
   ·refine zo g6 (fun h10 g7 => ?_) (fun h10 g7 => ?_)
    ·refine zl g7 (fun v11 h12 g8 => ?_)
     refine zl g8 (fun v13 h14 g9 => ?_)
     refine zl g9 (fun v15 h16 g10 => ?_)
     refine zl g10 (fun v17 h18 g11 => ?_)
     refine zl g11 (fun v19 h20 g12 => ?_)
     refine zl g12 (fun v21 h22 g13 => ?_)
     refine zo g13 (fun h23 g14 => ?_) (fun h23 g14 => ?_)
     ·subst h23
      exact zt (g := zA) g14 (zqc [(10, 1, 1, .c (db v1)), (10, 1, 2, .q (xb false)), (10, 4, 2, .c (di v4)), (10, 5, 2, .c (di v6)), (10, 8, 1, .q (xb false)), (10, 10, 1, .q (xb false)), (10, 16, 1, .q (xb true)), (10, 27, 1, .c (.tup [(di v13.1), (di v13.2)])), (10, 28, 1, .cr [((dl (eL eI) v11.2 (rcap true v11.2)), (rowO true 1 (eL eI) v11.2 false))] (.tup [(di v15.1), (di v15.2)])), (10, 29, 1, .c (.tup [(di v17.1), (di v17.2)])), (10, 30, 1, .cr [((dl (eL eI) v11.2 (rcap true v11.2)), (rowO true 1 (eL eI) v11.2 false))] (.tup [(di v19.1), (di v19.2)]))] [(10, 1, (.nor, zL p0 p1 v4 v6 v11)), (10, 1000031, (.nor, zH p0 p1 v4 v6 v11 v13 v15 v17 v19 true))] (ob (zE k p0 _ h2) (ob (o_b h3) (ob (zr k (p1 2) 20 _ h5) (ob (zr k (p1 0) 4 _ h7) (ob (o_b h8) (ob (o_b h9) (ob (o_b h10) (ob (zz (id := 1) (r' := (.nor, zL p0 p1 v4 v6 v11)) (zkc (zQb k p0 p1 v4 v6) k _ _ h12) rfl) (ob (zw k p0 _ h14) (ob (o_cr true 1 (eL eI) v11.2 true 0 1086) (ob (zw k (⟨p0.Letters, (v11.2, (rcap true v11.2)), p0.Apart, p0.Most⟩ : za) _ h16) (ob (zp k p0 _ h18) (ob (o_cr true 1 (eL eI) v11.2 false 0 1086) (ob (zp k (⟨p0.Letters, (v11.2, (rcap true v11.2)), p0.Apart, p0.Most⟩ : za) _ h20) (ob (zKb k p0 p1 v4 v6 v11 v13 v15 v17 v19 _ h22) ob0))))))))))))))) (by kernel_rfl))
     ·subst h23
      refine zo g14 (fun h24 g15 => ?_) (fun h24 g15 => ?_)
      ·refine zl g15 (fun v25 h26 g16 => ?_)
       exact zt (g := zA) g16 (zqc [(10, 1, 1, .c (db v1)), (10, 1, 2, .q (xb false)), (10, 4, 2, .c (di v4)), (10, 5, 2, .c (di v6)), (10, 8, 1, .q (xb false)), (10, 10, 1, .q (xb false)), (10, 16, 1, .q (xb true)), (10, 27, 1, .c (.tup [(di v13.1), (di v13.2)])), (10, 28, 1, .cr [((dl (eL eI) v11.2 (rcap true v11.2)), (rowO true 1 (eL eI) v11.2 false))] (.tup [(di v15.1), (di v15.2)])), (10, 29, 1, .c (.tup [(di v17.1), (di v17.2)])), (10, 30, 1, .cr [((dl (eL eI) v11.2 (rcap true v11.2)), (rowO true 1 (eL eI) v11.2 false))] (.tup [(di v19.1), (di v19.2)])), (10, 33, 2, .q (xb true)), (10, 33, 8, .c (db v25))] [(10, 1, (.nor, zL p0 p1 v4 v6 v11)), (10, 1000031, (.nor, zH p0 p1 v4 v6 v11 v13 v15 v17 v19 false))] (ob (zE k p0 _ h2) (ob (o_b h3) (ob (zr k (p1 2) 20 _ h5) (ob (zr k (p1 0) 4 _ h7) (ob (o_b h8) (ob (o_b h9) (ob (o_b h10) (ob (zz (id := 1) (r' := (.nor, zL p0 p1 v4 v6 v11)) (zkc (zQb k p0 p1 v4 v6) k _ _ h12) rfl) (ob (zw k p0 _ h14) (ob (o_cr true 1 (eL eI) v11.2 true 0 1086) (ob (zw k (⟨p0.Letters, (v11.2, (rcap true v11.2)), p0.Apart, p0.Most⟩ : za) _ h16) (ob (zp k p0 _ h18) (ob (o_cr true 1 (eL eI) v11.2 false 0 1086) (ob (zp k (⟨p0.Letters, (v11.2, (rcap true v11.2)), p0.Apart, p0.Most⟩ : za) _ h20) (ob (zKb k p0 p1 v4 v6 v11 v13 v15 v17 v19 _ h22) (ob (o_b h24) (ob (z9 k _ h26) ob0))))))))))))))))) (by kernel_rfl))
      ·refine zo g15 (fun h25 g16 => ?_) (fun h25 g16 => ?_)
       ·refine zl g16 (fun v26 h27 g17 => ?_)
        exact zt (g := zA) g17 (zqc [(10, 1, 1, .c (db v1)), (10, 1, 2, .q (xb false)), (10, 4, 2, .c (di v4)), (10, 5, 2, .c (di v6)), (10, 8, 1, .q (xb false)), (10, 10, 1, .q (xb false)), (10, 16, 1, .q (xb true)), (10, 27, 1, .c (.tup [(di v13.1), (di v13.2)])), (10, 28, 1, .cr [((dl (eL eI) v11.2 (rcap true v11.2)), (rowO true 1 (eL eI) v11.2 false))] (.tup [(di v15.1), (di v15.2)])), (10, 29, 1, .c (.tup [(di v17.1), (di v17.2)])), (10, 30, 1, .cr [((dl (eL eI) v11.2 (rcap true v11.2)), (rowO true 1 (eL eI) v11.2 false))] (.tup [(di v19.1), (di v19.2)])), (10, 33, 2, .q (xb false)), (10, 33, 7, .q (xb true)), (10, 33, 8, .c (db v26))] [(10, 1, (.nor, zL p0 p1 v4 v6 v11)), (10, 1000031, (.nor, zH p0 p1 v4 v6 v11 v13 v15 v17 v19 false))] (ob (zE k p0 _ h2) (ob (o_b h3) (ob (zr k (p1 2) 20 _ h5) (ob (zr k (p1 0) 4 _ h7) (ob (o_b h8) (ob (o_b h9) (ob (o_b h10) (ob (zz (id := 1) (r' := (.nor, zL p0 p1 v4 v6 v11)) (zkc (zQb k p0 p1 v4 v6) k _ _ h12) rfl) (ob (zw k p0 _ h14) (ob (o_cr true 1 (eL eI) v11.2 true 0 1086) (ob (zw k (⟨p0.Letters, (v11.2, (rcap true v11.2)), p0.Apart, p0.Most⟩ : za) _ h16) (ob (zp k p0 _ h18) (ob (o_cr true 1 (eL eI) v11.2 false 0 1086) (ob (zp k (⟨p0.Letters, (v11.2, (rcap true v11.2)), p0.Apart, p0.Most⟩ : za) _ h20) (ob (zKb k p0 p1 v4 v6 v11 v13 v15 v17 v19 _ h22) (ob (o_b h24) (ob (o_b h25) (ob (z9 k _ h27) ob0)))))))))))))))))) (by kernel_rfl))
       ·exact zt (g := zA) g16 (zqc [(10, 1, 1, .c (db v1)), (10, 1, 2, .q (xb false)), (10, 4, 2, .c (di v4)), (10, 5, 2, .c (di v6)), (10, 8, 1, .q (xb false)), (10, 10, 1, .q (xb false)), (10, 16, 1, .q (xb true)), (10, 27, 1, .c (.tup [(di v13.1), (di v13.2)])), (10, 28, 1, .cr [((dl (eL eI) v11.2 (rcap true v11.2)), (rowO true 1 (eL eI) v11.2 false))] (.tup [(di v15.1), (di v15.2)])), (10, 29, 1, .c (.tup [(di v17.1), (di v17.2)])), (10, 30, 1, .cr [((dl (eL eI) v11.2 (rcap true v11.2)), (rowO true 1 (eL eI) v11.2 false))] (.tup [(di v19.1), (di v19.2)])), (10, 33, 2, .q (xb false)), (10, 33, 7, .q (xb false))] [(10, 1, (.nor, zL p0 p1 v4 v6 v11)), (10, 1000031, (.nor, zH p0 p1 v4 v6 v11 v13 v15 v17 v19 false))] (ob (zE k p0 _ h2) (ob (o_b h3) (ob (zr k (p1 2) 20 _ h5) (ob (zr k (p1 0) 4 _ h7) (ob (o_b h8) (ob (o_b h9) (ob (o_b h10) (ob (zz (id := 1) (r' := (.nor, zL p0 p1 v4 v6 v11)) (zkc (zQb k p0 p1 v4 v6) k _ _ h12) rfl) (ob (zw k p0 _ h14) (ob (o_cr true 1 (eL eI) v11.2 true 0 1086) (ob (zw k (⟨p0.Letters, (v11.2, (rcap true v11.2)), p0.Apart, p0.Most⟩ : za) _ h16) (ob (zp k p0 _ h18) (ob (o_cr true 1 (eL eI) v11.2 false 0 1086) (ob (zp k (⟨p0.Letters, (v11.2, (rcap true v11.2)), p0.Apart, p0.Most⟩ : za) _ h20) (ob (zKb k p0 p1 v4 v6 v11 v13 v15 v17 v19 _ h22) (ob (o_b h24) (ob (o_b h25) ob0))))))))))))))))) (by kernel_rfl))
    ·refine zl g7 (fun v11 h12 g8 => ?_)
     refine zl g8 (fun v13 h14 g9 => ?_)
     refine zl g9 (fun v15 h16 g10 => ?_)
     refine zl g10 (fun v17 h18 g11 => ?_)
     refine zl g11 (fun v19 h20 g12 => ?_)
     refine zl g12 (fun v21 h22 g13 => ?_)
     refine zo g13 (fun h23 g14 => ?_) (fun h23 g14 => ?_)
     ·subst h23
      exact zt (g := zA) g14 (zqc [(10, 1, 1, .c (db v1)), (10, 1, 2, .q (xb false)), (10, 4, 2, .c (di v4)), (10, 5, 2, .c (di v6)), (10, 8, 1, .q (xb false)), (10, 10, 1, .q (xb false)), (10, 16, 1, .q (xb false)), (10, 6, 2, .q (xi (p0.Apart.1.length : Int))), (10, 27, 1, .c (.tup [(di v13.1), (di v13.2)])), (10, 28, 1, .c (.tup [(di v15.1), (di v15.2)])), (10, 29, 1, .c (.tup [(di v17.1), (di v17.2)])), (10, 30, 1, .c (.tup [(di v19.1), (di v19.2)]))] [(10, 2000034, (.nor, zU p0 p1 v4 v6 (decide ((p0.Apart.1.length : Int) > 0)) v11)), (10, 1000031, (.nor, zI p0 p1 v4 v6 v11 v13 v15 v17 v19 true))] (ob (zE k p0 _ h2) (ob (o_b h3) (ob (zr k (p1 2) 20 _ h5) (ob (zr k (p1 0) 4 _ h7) (ob (o_b h8) (ob (o_b h9) (ob (o_b h10) (ob (zq (aI 2) p0.Apart.1) (ob (zPb k p0 p1 v4 v6 (decide ((p0.Apart.1.length : Int) > 0)) _ h12) (ob (zw k p0 _ h14) (ob (zw k (⟨p0.Letters, p0.Far, v11.2, p0.Most⟩ : za) _ h16) (ob (zp k p0 _ h18) (ob (zp k (⟨p0.Letters, p0.Far, v11.2, p0.Most⟩ : za) _ h20) (ob (zIb k p0 p1 v4 v6 v11 v13 v15 v17 v19 _ h22) ob0)))))))))))))) (by kernel_rfl))
     ·subst h23
      refine zo g14 (fun h24 g15 => ?_) (fun h24 g15 => ?_)
      ·refine zl g15 (fun v25 h26 g16 => ?_)
       exact zt (g := zA) g16 (zqc [(10, 1, 1, .c (db v1)), (10, 1, 2, .q (xb false)), (10, 4, 2, .c (di v4)), (10, 5, 2, .c (di v6)), (10, 8, 1, .q (xb false)), (10, 10, 1, .q (xb false)), (10, 16, 1, .q (xb false)), (10, 6, 2, .q (xi (p0.Apart.1.length : Int))), (10, 27, 1, .c (.tup [(di v13.1), (di v13.2)])), (10, 28, 1, .c (.tup [(di v15.1), (di v15.2)])), (10, 29, 1, .c (.tup [(di v17.1), (di v17.2)])), (10, 30, 1, .c (.tup [(di v19.1), (di v19.2)])), (10, 33, 2, .q (xb true)), (10, 33, 8, .c (db v25))] [(10, 2000034, (.nor, zU p0 p1 v4 v6 (decide ((p0.Apart.1.length : Int) > 0)) v11)), (10, 1000031, (.nor, zI p0 p1 v4 v6 v11 v13 v15 v17 v19 false))] (ob (zE k p0 _ h2) (ob (o_b h3) (ob (zr k (p1 2) 20 _ h5) (ob (zr k (p1 0) 4 _ h7) (ob (o_b h8) (ob (o_b h9) (ob (o_b h10) (ob (zq (aI 2) p0.Apart.1) (ob (zPb k p0 p1 v4 v6 (decide ((p0.Apart.1.length : Int) > 0)) _ h12) (ob (zw k p0 _ h14) (ob (zw k (⟨p0.Letters, p0.Far, v11.2, p0.Most⟩ : za) _ h16) (ob (zp k p0 _ h18) (ob (zp k (⟨p0.Letters, p0.Far, v11.2, p0.Most⟩ : za) _ h20) (ob (zIb k p0 p1 v4 v6 v11 v13 v15 v17 v19 _ h22) (ob (o_b h24) (ob (z9 k _ h26) ob0)))))))))))))))) (by kernel_rfl))
      ·refine zo g15 (fun h25 g16 => ?_) (fun h25 g16 => ?_)
       ·refine zl g16 (fun v26 h27 g17 => ?_)
        exact zt (g := zA) g17 (zqc [(10, 1, 1, .c (db v1)), (10, 1, 2, .q (xb false)), (10, 4, 2, .c (di v4)), (10, 5, 2, .c (di v6)), (10, 8, 1, .q (xb false)), (10, 10, 1, .q (xb false)), (10, 16, 1, .q (xb false)), (10, 6, 2, .q (xi (p0.Apart.1.length : Int))), (10, 27, 1, .c (.tup [(di v13.1), (di v13.2)])), (10, 28, 1, .c (.tup [(di v15.1), (di v15.2)])), (10, 29, 1, .c (.tup [(di v17.1), (di v17.2)])), (10, 30, 1, .c (.tup [(di v19.1), (di v19.2)])), (10, 33, 2, .q (xb false)), (10, 33, 7, .q (xb true)), (10, 33, 8, .c (db v26))] [(10, 2000034, (.nor, zU p0 p1 v4 v6 (decide ((p0.Apart.1.length : Int) > 0)) v11)), (10, 1000031, (.nor, zI p0 p1 v4 v6 v11 v13 v15 v17 v19 false))] (ob (zE k p0 _ h2) (ob (o_b h3) (ob (zr k (p1 2) 20 _ h5) (ob (zr k (p1 0) 4 _ h7) (ob (o_b h8) (ob (o_b h9) (ob (o_b h10) (ob (zq (aI 2) p0.Apart.1) (ob (zPb k p0 p1 v4 v6 (decide ((p0.Apart.1.length : Int) > 0)) _ h12) (ob (zw k p0 _ h14) (ob (zw k (⟨p0.Letters, p0.Far, v11.2, p0.Most⟩ : za) _ h16) (ob (zp k p0 _ h18) (ob (zp k (⟨p0.Letters, p0.Far, v11.2, p0.Most⟩ : za) _ h20) (ob (zIb k p0 p1 v4 v6 v11 v13 v15 v17 v19 _ h22) (ob (o_b h24) (ob (o_b h25) (ob (z9 k _ h27) ob0))))))))))))))))) (by kernel_rfl))
       ·exact zt (g := zA) g16 (zqc [(10, 1, 1, .c (db v1)), (10, 1, 2, .q (xb false)), (10, 4, 2, .c (di v4)), (10, 5, 2, .c (di v6)), (10, 8, 1, .q (xb false)), (10, 10, 1, .q (xb false)), (10, 16, 1, .q (xb false)), (10, 6, 2, .q (xi (p0.Apart.1.length : Int))), (10, 27, 1, .c (.tup [(di v13.1), (di v13.2)])), (10, 28, 1, .c (.tup [(di v15.1), (di v15.2)])), (10, 29, 1, .c (.tup [(di v17.1), (di v17.2)])), (10, 30, 1, .c (.tup [(di v19.1), (di v19.2)])), (10, 33, 2, .q (xb false)), (10, 33, 7, .q (xb false))] [(10, 2000034, (.nor, zU p0 p1 v4 v6 (decide ((p0.Apart.1.length : Int) > 0)) v11)), (10, 1000031, (.nor, zI p0 p1 v4 v6 v11 v13 v15 v17 v19 false))] (ob (zE k p0 _ h2) (ob (o_b h3) (ob (zr k (p1 2) 20 _ h5) (ob (zr k (p1 0) 4 _ h7) (ob (o_b h8) (ob (o_b h9) (ob (o_b h10) (ob (zq (aI 2) p0.Apart.1) (ob (zPb k p0 p1 v4 v6 (decide ((p0.Apart.1.length : Int) > 0)) _ h12) (ob (zw k p0 _ h14) (ob (zw k (⟨p0.Letters, p0.Far, v11.2, p0.Most⟩ : za) _ h16) (ob (zp k p0 _ h18) (ob (zp k (⟨p0.Letters, p0.Far, v11.2, p0.Most⟩ : za) _ h20) (ob (zIb k p0 p1 v4 v6 v11 v13 v15 v17 v19 _ h22) (ob (o_b h24) (ob (o_b h25) ob0)))))))))))))))) (by kernel_rfl))
end Go.AM

namespace Go.AM
open Go
def Ok {α : Type} (o : Option α) (Q : α → Prop) : Prop := ∃ a, o = some a ∧ Q a
section
variable {α β : Type}
theorem Ok.pure {a : α} {Q : α → Prop} (h : Q a) : Ok (some a) Q := ⟨a, rfl, h⟩
theorem Ok.bind {o : Option α} {g : α → Option β} {P : α → Prop} {Q : β → Prop} (h : Ok o P) (hg : ∀ a, P a → Ok (g a) Q) : Ok (o.bind g) Q := by
 obtain ⟨a, rfl, ha⟩ := h
 exact hg a ha
theorem Ok.mono {o : Option α} {P Q : α → Prop} (h : Ok o P) (hq : ∀ a, P a → Q a) : Ok o Q := by
 obtain ⟨a, ha, hp⟩ := h
 exact ⟨a, ha, hq a hp⟩
theorem Ok.cond {b : Bool} {x y : Option α} {Q : α → Prop} (ht : b = true → Ok x Q) (hf : b = false → Ok y Q) : Ok (cond b x y) Q := by
 cases b
 ·exact hf rfl
 ·exact ht rfl
theorem Ok.eq {o : Option α} {a : α} (h : Ok o (· = a)) : o = some a := by
 obtain ⟨b, hb, rfl⟩ := h
 exact hb
theorem Ok.imp {o : Option α} {a : α} {Q : α → Prop} (h : Ok o Q) (ho : o = some a) : Q a := by
 obtain ⟨b, hb, hq⟩ := h
 rw [ho] at hb; cases hb; exact hq
theorem Ok.iter {S R : Type} {f : S → Option (S ⊕ R)} {Q : R → Prop} (I : Nat → S → Prop) (n : Nat)
  (h : ∀ j s, j ≤ n → I j s → Ok (f s) (fun x => match x with
   | .inl s' => j < n ∧ I (j + 1) s'
   | .inr r => Q r)) {k : Nat} {s : S} (h0 : I 0 s) (hk : n < k) : Ok (Go.AM.iter f k s) Q := by
 suffices ∀ m j s, j + m = n → I j s → ∀ k, m < k → Ok (Go.AM.iter f k s) Q from this n 0 s (by omega) h0 k hk
 intro m
 induction m with
 | zero =>
  intro j s hj hi k hk
  obtain ⟨k, rfl⟩ : ∃ k', k = k' + 1 := ⟨k - 1, by omega⟩
  obtain ⟨x, hx, hq⟩ := h j s (by omega) hi
  cases x with
  | inl s' => exact absurd hq.1 (by omega)
  | inr r => exact ⟨r, by simp [Go.AM.iter, hx], hq⟩
 | succ m ih =>
  intro j s hj hi k hk
  obtain ⟨k, rfl⟩ : ∃ k', k = k' + 1 := ⟨k - 1, by omega⟩
  obtain ⟨x, hx, hq⟩ := h j s (by omega) hi
  cases x with
  | inl s' =>
   obtain ⟨r, hr, hq'⟩ := ih (j + 1) s' (by omega) hq.2 k (by omega)
   exact ⟨r, by simp [Go.AM.iter, hx, hr], hq'⟩
  | inr r => exact ⟨r, by simp [Go.AM.iter, hx], hq⟩
def Goes {S R : Type} (I : S → Prop) (Q : R → Prop) : S ⊕ R → Prop
 | .inl s => I s
 | .inr r => Q r
theorem Ok.count {S R : Type} {f : S → Option (S ⊕ R)} {Q : R → Prop} (n : Nat) (I : Nat → S → Prop)
  (next : ∀ j s, j < n → I j s → Ok (f s) (Goes (I (j + 1)) Q))
  (last : ∀ s, I n s → Ok (f s) (Goes (fun _ => False) Q)) {k : Nat} {s : S} (h0 : I 0 s) (hk : n < k) : Ok (Go.AM.iter f k s) Q := by
 refine Ok.iter I n (fun j s hj hi => ?_) h0 hk
 by_cases h : j < n
 ·refine (next j s h hi).mono fun x hx => ?_
  cases x with
  | inl s' => exact ⟨h, hx⟩
  | inr r => exact hx
 ·obtain rfl : j = n := by omega
  refine (last s hi).mono fun x hx => ?_
  cases x with
  | inl s' => exact hx.elim
  | inr r => exact hx
theorem Ok.everyW {α : Type} {f : Bool × Int → Option ((Bool × Int) ⊕ (Bool × Int))} (l : List α) (p : α → Prop)
  (next : ∀ (j : Nat) (h : j < l.length), Ok (f (true, (j : Int))) (fun x => ∃ r, x = .inl (r, ((j + 1 : Nat) : Int)) ∧ (r = true ↔ p l[j])))
  (out : ∀ i, f (false, i) = some (.inr (false, i)))
  (last : f (true, (l.length : Int)) = some (.inr (true, (l.length : Int)))) {k : Nat} {acc : Bool} (hk : l.length < k) :
  Ok (Go.AM.iter f k (acc, 0)) (fun r => r.1 = true ↔ acc = true ∧ ∀ x ∈ l, p x) := by
 refine Ok.count l.length (fun j s => s.2 = (j : Int) ∧ (s.1 = true ↔ acc = true ∧ ∀ x ∈ l.take j, p x)) ?_ ?_ ⟨rfl, by simp⟩ hk
 ·rintro j ⟨a, i⟩ hj ⟨hi, ha⟩
  obtain rfl : i = (j : Int) := hi
  cases a with
  | false =>
   rw [out]
   refine Ok.pure ?_
   constructor
   ·intro h; cases h
   ·rintro ⟨h1, h2⟩
    exact ha.2 ⟨h1, fun x hx => h2 x (List.mem_of_mem_take hx)⟩
  | true =>
   refine (next j hj).mono ?_
   rintro x ⟨r, rfl, hr⟩
   refine ⟨rfl, hr.trans ?_⟩
   rw [List.take_succ_eq_append_getElem hj]
   simp only [List.mem_append, List.mem_singleton]
   obtain ⟨h1, h2⟩ := ha.1 rfl
   constructor
   ·intro h3
    exact ⟨h1, fun x hx => hx.elim (h2 x) fun e => e ▸ h3⟩
   ·rintro ⟨_, h2⟩
    exact h2 _ (.inr rfl)
 ·rintro ⟨a, i⟩ ⟨hi, ha⟩
  obtain rfl : i = (l.length : Int) := hi
  cases a with
  | false => rw [out]; refine Ok.pure ?_; simpa [Goes] using ha
  | true => rw [last]; refine Ok.pure ?_; simpa [Goes] using ha
end
theorem zGe {n : Int} (h1 : -9223372036854775808 ≤ n) (h2 : n ≤ 9223372036854775807) : w64 n = n := by
 have hd : w64 n = if n % 18446744073709551616 ≥ 9223372036854775808 then n % 18446744073709551616 - 18446744073709551616 else n % 18446744073709551616 := by
  show IntKind.wrap .i64 n = _
  have e : IntKind.wrap .i64 n = if (true && decide (n % 18446744073709551616 ≥ 9223372036854775808)) = true then n % 18446744073709551616 - 18446744073709551616 else n % 18446744073709551616 := rfl
  rw [e]
  simp
 rw [hd]
 split <;> omega
theorem zfs {α : Type} {l : List α} {i : Int} (h0 : 0 ≤ i) (h : i.toNat < l.length) : idx l i = some l[i.toNat] := by
 simp [idx, h0, List.getElem?_eq_getElem h]
theorem zCc {α : Type} {l : List α} {i : Nat} (h : i < l.length) : idx l (i : Int) = some l[i] := by
 simp [idx, List.getElem?_eq_getElem h]
open Classical in
theorem zJq {κ ν : Type} {q : κ → κ → Bool} (hq : ∀ a b, q a b = true ↔ a = b) (k k' : κ) (v : ν) : ∀ m, zP q k' (mset q k v m) = if k' = k then some v else zP q k' m
 | [] => by
  simp only [mset, zP]
  by_cases h : k' = k
  ·rw [(hq k' k).2 h, if_pos h]; rfl
  ·have : q k' k = false := by cases hb : q k' k; rfl; exact absurd ((hq _ _).1 hb) h
   rw [this, if_neg h]; rfl
 | p :: t => by
  have ih := zJq hq k k' v t
  simp only [mset]
  cases hk : q k p.1 with
  | true =>
   have hk' := (hq _ _).1 hk
   simp only [cond_true, zP]
   by_cases h : k' = k
   ·rw [if_pos h, h, hk]; rfl
   ·have : q k' p.1 = false := by cases hb : q k' p.1; rfl; exact absurd ((hq _ _).1 hb) (by rw [← hk']; exact h)
    rw [this, if_neg h]; rfl
  | false =>
   simp only [cond_false, zP]
   cases hp : q k' p.1 with
   | true =>
    by_cases h : k' = k
    ·rw [h, hk] at hp; cases hp
    ·rw [if_neg h]; rfl
   | false => exact ih
theorem z7q (f g : Nat → Bool) : ∀ n i, eqB f g i n = true ↔ ∀ j, i ≤ j → j < i + n → f j = g j
 | 0, i => by simp [eqB]; omega
 | n + 1, i => by
  simp only [eqB, Bool.and_eq_true, z7q f g n (i + 1), beq_iff_eq]
  constructor
  ·rintro ⟨h0, h⟩ j h1 h2
   by_cases hj : j = i
   ·rw [hj]; exact h0
   ·exact h j (by omega) (by omega)
  ·intro h
   exact ⟨h i (by omega) (by omega), fun j h1 h2 => h j (by omega) (by omega)⟩
end Go.AM
set_option linter.unusedVariables false
namespace Go.AM
open Go
def lexL (a c : List Int) : Prop := ∃ (i : Nat) (x y : Int), a.take i = c.take i ∧ a[i]? = some x ∧ c[i]? = some y ∧ x < y
theorem zOt {a : List Int} : ¬ lexL a a := by
 rintro ⟨i, x, y, _, h1, h2, h3⟩
 rw [h1] at h2
 cases h2
 omega
def zCo (lim : List Int → Nat) (ok : List Int → Int → Prop) (p : List Int) (w : Int) : Prop := 0 ≤ w ∧ w < lim p ∧ ok p w
open Classical in
noncomputable def subs (lim : List Int → Nat) (ok : List Int → Int → Prop) : Nat → List Int → List (List Int)
 | 0, p => [p]
 | t + 1, p => (List.range (lim p)).flatMap fun (w : Nat) => if ok p (w : Int) then subs lim ok t (p ++ [(w : Int)]) else []
def zjv (lim : List Int → Nat) (ok : List Int → Int → Prop) (t : Nat) (p q : List Int) : Prop :=
 q.length = p.length + t ∧ q.take p.length = p ∧ ∀ i x, p.length ≤ i → q[i]? = some x → zCo lim ok (q.take i) x
theorem zjk {lim : List Int → Nat} {ok : List Int → Int → Prop} : ∀ (t : Nat) (p q : List Int), q ∈ subs lim ok t p ↔ zjv lim ok t p q
 | 0, p, q => by
  unfold subs
  rw [List.mem_singleton]
  constructor
  ·rintro rfl
   refine ⟨rfl, by rw [List.take_length], fun i x hi hx => ?_⟩
   have := (List.getElem?_eq_some_iff.1 hx).1
   omega
  ·rintro ⟨h1, h2, _⟩
   rw [← h2, List.take_of_length_le (by omega)]
 | t + 1, p, q => by
  unfold subs
  rw [List.mem_flatMap]
  constructor
  ·rintro ⟨w, hw, hq⟩
   have hw := List.mem_range.1 hw
   split at hq
   ·rename_i hok
    obtain ⟨h1, h2, h3⟩ := (zjk t _ q).1 hq
    have hlen : (p ++ [(w : Int)]).length = p.length + 1 := by simp
    rw [hlen] at h1 h2 h3
    have h4 : q.take p.length = p := by
     have := congrArg (List.take p.length) h2
     rw [List.take_take, Nat.min_eq_left (by omega)] at this
     rw [this]; simp
    have h5 : q[p.length]? = some (w : Int) := by
     have := congrArg (fun l => l[p.length]?) h2
     simpa [List.getElem?_take] using this
    refine ⟨by omega, h4, fun i x hi hx => ?_⟩
    by_cases e : i = p.length
    ·subst e
     rw [h5] at hx
     cases hx
     rw [h4]
     exact ⟨by omega, by exact_mod_cast hw, hok⟩
    ·exact h3 i x (by omega) hx
   ·simp at hq
  ·rintro ⟨h1, h2, h3⟩
   have hlt : p.length < q.length := by omega
   have hx := List.getElem?_eq_getElem hlt
   obtain ⟨g1, g2, g3⟩ := h3 _ _ (Nat.le_refl _) hx
   rw [h2] at g2 g3
   generalize q[p.length] = x at *
   obtain ⟨w, rfl⟩ : ∃ w : Nat, x = w := ⟨x.toNat, by omega⟩
   refine ⟨w, List.mem_range.2 (by exact_mod_cast g2), ?_⟩
   rw [if_pos g3]
   refine (zjk t _ q).2 ⟨by simp; omega, ?_, fun i x hi hx => h3 i x (by simp at hi; omega) hx⟩
   have hl : (p ++ [(w : Int)]).length = p.length + 1 := by simp
   rw [hl]
   obtain ⟨hlt', he⟩ := List.getElem?_eq_some_iff.1 hx
   rw [List.take_succ_eq_append_getElem hlt', h2, he]
theorem zLn {lim : List Int → Nat} {ok : List Int → Int → Prop} : ∀ (t : Nat) (p : List Int), (subs lim ok t p).Pairwise lexL
 | 0, p => by unfold subs; exact List.pairwise_singleton _ _
 | t + 1, p => by
  unfold subs
  rw [List.pairwise_flatMap]
  refine ⟨fun w _ => ?_, ?_⟩
  ·split
   ·exact zLn t _
   ·exact List.Pairwise.nil
  ·refine List.Pairwise.imp ?_ (List.pairwise_lt_range (n := lim p))
   intro w w' hww a ha c hc
   split at ha
   ·split at hc
    ·obtain ⟨a1, a2, _⟩ := (zjk t _ a).1 ha
     obtain ⟨c1, c2, _⟩ := (zjk t _ c).1 hc
     have hl : ∀ v : Int, (p ++ [v]).length = p.length + 1 := by simp
     rw [hl] at a1 a2 c1 c2
     have e1 : ∀ {q : List Int} {v : Int}, q.take (p.length + 1) = p ++ [v] → q.take p.length = p ∧ q[p.length]? = some v := by
      intro q v h
      constructor
      ·have := congrArg (List.take p.length) h
       rw [List.take_take, Nat.min_eq_left (by omega)] at this
       rw [this]; simp
      ·have := congrArg (fun l => l[p.length]?) h
       simpa [List.getElem?_take] using this
     obtain ⟨a3, a4⟩ := e1 a2
     obtain ⟨c3, c4⟩ := e1 c2
     exact ⟨p.length, _, _, by rw [a3, c3], a4, c4, by omega⟩
    ·simp at hc
   ·simp at ha
end Go.AM
set_option linter.unusedVariables false
namespace Go.AM
open Go
theorem zJe (c x : Bool) : cond c (some x) (some false) = some (c && x) := by cases c <;> rfl
theorem zsu (c x : Bool) : cond c (some true) (some x) = some (c || x) := by cases c <;> rfl
theorem zKf {j n : Nat} (h : j < n) (hn : n < 9223372036854775808) : w64 ((j : Int) + 1) = ((j + 1 : Nat) : Int) := by
 rw [zGe (by omega) (by omega)]; push_cast; rfl
theorem z0o {n : Nat} (hn : n < 9223372036854775808) : w64 ((n : Int) - 1) = (n : Int) - 1 := zGe (by omega) (by omega)
theorem zJd {α : Type} {j : Nat} {l : List α} (h : j < l.length) : decide ((j : Int) < (l.length : Int)) = true := by simp; omega
theorem zpi {α : Type} {l : List α} : decide ((l.length : Int) < (l.length : Int)) = false := by simp
theorem w8 {j : Nat} (h : j < 9) : w64 ((j : Int) + 1) = ((j + 1 : Nat) : Int) := zKf h (by omega)
theorem Ok.everyI {α : Type} {f : Bool × Int → Option ((Bool × Int) ⊕ (Bool × Int))} (l : List α) (p : Nat → α → Prop)
  (next : ∀ acc (j : Nat) (h : j < l.length), Ok (f (acc, (j : Int))) (fun x => ∃ r, x = .inl (r, ((j + 1 : Nat) : Int)) ∧ (r = true ↔ acc = true ∧ p j l[j])))
  (last : ∀ acc, f (acc, (l.length : Int)) = some (.inr (acc, (l.length : Int)))) {k : Nat} {acc : Bool} (hk : l.length < k) :
  Ok (Go.AM.iter f k (acc, 0)) (fun r => r.1 = true ↔ acc = true ∧ ∀ j (h : j < l.length), p j l[j]) := by
 refine Ok.count l.length (fun j s => s.2 = (j : Int) ∧ (s.1 = true ↔ acc = true ∧ ∀ i (h : i < l.length), i < j → p i l[i])) ?_ ?_ ⟨rfl, by simp⟩ hk
 ·rintro j ⟨a, i⟩ hj ⟨hi, ha⟩
  obtain rfl : i = (j : Int) := hi
  refine (next a j hj).mono ?_
  rintro x ⟨r, rfl, hr⟩
  refine ⟨rfl, hr.trans ?_⟩
  rw [ha]
  constructor
  ·rintro ⟨⟨h1, h2⟩, h3⟩
   refine ⟨h1, fun i h hij => ?_⟩
   by_cases e : i = j
   ·subst e; exact h3
   ·exact h2 i h (by omega)
  ·rintro ⟨h1, h2⟩
   exact ⟨⟨h1, fun i h hij => h2 i h (by omega)⟩, h2 j hj (by omega)⟩
 ·rintro ⟨a, i⟩ ⟨hi, ha⟩
  obtain rfl : i = (l.length : Int) := hi
  rw [last a]
  refine Ok.pure ?_
  show a = true ↔ _
  rw [ha]
  exact ⟨fun h => ⟨h.1, fun i hi => h.2 i hi hi⟩, fun h => ⟨h.1, fun i hi _ => h.2 i hi⟩⟩
def lt (b : za) (i : Nat) : zi := (b.Letters.1[i]?).getD ⟨0, 0, ⟨0, 0⟩, false, 0⟩
abbrev nL (b : za) : Nat := b.Letters.1.length
theorem zEv {b : za} {i : Nat} (h : i < nL b) : b.Letters.1[i] = lt b i := by
 unfold lt
 rw [List.getElem?_eq_getElem h]; rfl
theorem zgh {b : za} {i : Nat} (h : i < nL b) : idx b.Letters.1 (i : Int) = some (lt b i) := by
 rw [zCc h, zEv h]
def dayB (b : za) : Nat → Int
 | 0 => 0
 | i + 1 => (lt b i).Day
def zch (b : za) (i : Nat) (x : zi) : Prop :=
 (dayB b i ≤ x.Day ∧ x.Day ≤ 20000) ∧ (0 ≤ x.Place ∧ x.Place ≤ (b.Far.1.length : Int) - 1) ∧ (0 ≤ x.Born.Low ∧ x.Born.Low ≤ x.Born.High) ∧ x.Born.High ≤ 200 ∧ (0 ≤ x.Account ∧ x.Account ≤ 1000)
def zxl (b : za) (i : Nat) (r : SL Int) : Prop :=
 r.1.length = b.Far.1.length ∧ ∀ j (h : j < r.1.length), (0 ≤ r.1[j] ∧ r.1[j] ≤ 400) ∧ (i ≠ j ∨ r.1[j] = 0)
def zUh (b : za) (i : Nat) (p : Nat → Int) : Prop :=
 (0 ≤ p 0 ∧ p 0 ≤ w64 (p 1 - 1)) ∧ p 1 < (nL b : Int) ∧ ∀ q ∈ b.Apart.1.take i, ¬ (q 0 = p 0 ∧ q 1 = p 1)
structure Fine (b : za) : Prop where
 nletters : 1 ≤ nL b ∧ nL b ≤ 8
 nfar : 1 ≤ b.Far.1.length ∧ b.Far.1.length ≤ 6
 napart : b.Apart.1.length ≤ 8
 most : 1 ≤ b.Most ∧ b.Most ≤ 8
 letters : ∀ i, i < nL b → zch b i (lt b i)
 rows : ∀ i (h : i < b.Far.1.length), zxl b i b.Far.1[i]
 apart : ∀ i (h : i < b.Apart.1.length), zUh b i b.Apart.1[i]
structure zbh (b : za) : Prop where
 letters : nL b < 9223372036854775808
 far : b.Far.1.length < 9223372036854775808
 rows : ∀ r ∈ b.Far.1, r.1.length < 9223372036854775808
 apart : b.Apart.1.length < 9223372036854775808
structure Fuel (k : Nat) (b : za) : Prop where
 k0 : 5000 < k
 letters : nL b < k
 far : b.Far.1.length < k
 rows : ∀ r ∈ b.Far.1, r.1.length < k
 apart : b.Apart.1.length < k
theorem z2k (k : Nat) (a b c : Int) : zT k a b c = some (decide (b ≤ a) && decide (a ≤ c)) := by
 simp only [zT, zJe]
theorem zmt (k : Nat) (b : za) : Ok (zoe k b) (fun r => r = true ↔ (1 ≤ nL b ∧ nL b ≤ 8) ∧ (1 ≤ b.Far.1.length ∧ b.Far.1.length ≤ 6) ∧ b.Apart.1.length ≤ 8 ∧ (1 ≤ b.Most ∧ b.Most ≤ 8)) := by
 simp only [zoe, z2k, Option.bind_some, zJe]
 refine Ok.pure ?_
 simp only [Bool.and_eq_true, decide_eq_true_eq, nL]
 omega
theorem z9s {k : Nat} {b : za} (hs : zbh b) (hk : Fuel k b) (acc : Bool) : Ok (iter (fun s => zpd k b s.1 s.2.1 s.2.2) k (acc, 0, 0)) (fun r => r.1 = true ↔ acc = true ∧ ∀ i, i < nL b → zch b i (lt b i)) := by
 refine Ok.count (nL b) (fun j s => s.2.2 = (j : Int) ∧ s.2.1 = dayB b j ∧ (s.1 = true ↔ acc = true ∧ ∀ i, i < j → zch b i (lt b i))) ?_ ?_ ⟨rfl, rfl, by simp⟩ hk.letters
 ·rintro j ⟨a, d, i⟩ hj ⟨hi, hd, ha⟩
  obtain rfl : i = (j : Int) := hi
  obtain rfl : d = dayB b j := hd
  simp only [zpd, zzf, zJd hj, cond_true, zgh hj, z2k, Option.bind_some, zJe, z0o hs.far, zKf hj hs.letters]
  refine Ok.pure ⟨rfl, rfl, ?_⟩
  simp only [Bool.and_eq_true, decide_eq_true_eq]
  have ha' : a = true ↔ acc = true ∧ ∀ i, i < j → zch b i (lt b i) := ha
  rw [ha']
  constructor
  ·rintro ⟨⟨h1, h2⟩, h3⟩
   refine ⟨h1, fun i hij => ?_⟩
   by_cases e : i = j
   ·subst e
    exact h3
   ·exact h2 i (by omega)
  ·rintro ⟨h1, h2⟩
   exact ⟨⟨h1, fun i hij => h2 i (by omega)⟩, h2 j (by omega)⟩
 ·rintro ⟨a, d, i⟩ ⟨hi, hd, ha⟩
  obtain rfl : i = (nL b : Int) := hi
  simp only [zpd, zpi, cond_false]
  exact Ok.pure ha
theorem zzt {k : Nat} {b : za} (hs : zbh b) (hk : Fuel k b) (v : Bool × Int × Int) (acc : Bool) : Ok (iter (fun s => znd k b v s.1 s.2) k (acc, 0)) (fun r => r.1 = true ↔ acc = true ∧ ∀ i (h : i < b.Far.1.length), zxl b i b.Far.1[i]) := by
 refine Ok.everyI b.Far.1 (zxl b) (fun a j hj => ?_) (fun a => by simp [znd]) hk.far
 have hrow := List.getElem_mem hj
 simp only [znd, zJd hj, cond_true, zCc hj, Option.bind_some, zjf, zJe]
 refine Ok.bind (Ok.everyI b.Far.1[j].1 (fun i n => (0 ≤ n ∧ n ≤ 400) ∧ (j ≠ i ∨ n = 0)) (fun a' i hi => ?_) (fun a' => by simp [z0d]) (hk.rows _ hrow)) fun r hr => ?_
 ·simp only [z0d, zbf, zJd hi, cond_true, zCc hi, Option.bind_some, z2k, zsu, zJe, zKf hi (hs.rows _ hrow)]
  refine Ok.pure ⟨_, rfl, ?_⟩
  simp only [Bool.and_eq_true, Bool.or_eq_true, decide_eq_true_eq, bne_iff_ne, beq_iff_eq, ne_eq]
  have e : ((j : Int) = (i : Int)) ↔ j = i := by omega
  rw [e]
 ·refine Ok.pure ⟨r.1, by rw [zKf hj hs.far], ?_⟩
  rw [hr]
  simp only [Bool.and_eq_true, beq_iff_eq, zxl]
  constructor
  ·rintro ⟨⟨h1, h2⟩, h3⟩
   exact ⟨h1, by omega, h3⟩
  ·rintro ⟨h1, h2, h3⟩
   exact ⟨⟨h1, by omega⟩, h3⟩
theorem zVt (f g : Nat → Int) : eqI f g 0 2 = true ↔ f 0 = g 0 ∧ f 1 = g 1 := by
 simp [eqI]
theorem zmq {k : Nat} {l : SL (Nat → Int)} (p : Nat → Int) (hk : l.1.length < k) (hs : l.1.length < 9223372036854775808) : Ok (zWb k l p) (fun r => r = true ↔ ∃ q ∈ l.1, q 0 = p 0 ∧ q 1 = p 1) := by
 unfold zWb zid
 refine Ok.bind (P := fun v : Int => 0 ≤ v ↔ ∃ q ∈ l.1, q 0 = p 0 ∧ q 1 = p 1) (Ok.bind (Ok.count l.1.length (fun j s => s = (j : Int) ∧ ¬ ∃ q ∈ l.1.take j, q 0 = p 0 ∧ q 1 = p 1) (Q := fun r : Int ⊕ Int => match r with
  | .inl z => 0 ≤ z ∧ ∃ q ∈ l.1, q 0 = p 0 ∧ q 1 = p 1
  | .inr _ => ¬ ∃ q ∈ l.1, q 0 = p 0 ∧ q 1 = p 1) ?_ ?_ ⟨rfl, by simp⟩ hk) fun r hr => ?_) fun v hv => ?_
 ·rintro j s hj ⟨rfl, hg⟩
  simp only [zXb, zJd hj, cond_true, zCc hj, Option.bind_some, zKf hj hs]
  cases c : eqI p l.1[j] 0 2 with
  | true =>
   have := (zVt _ _).1 c
   exact Ok.pure ⟨by omega, _, List.getElem_mem hj, this.1.symm, this.2.symm⟩
  | false =>
   refine Ok.pure ⟨rfl, ?_⟩
   rw [List.take_succ_eq_append_getElem hj]
   rintro ⟨q, hq, h⟩
   rcases List.mem_append.1 hq with hq | hq
   ·exact hg ⟨q, hq, h⟩
   ·rw [List.mem_singleton] at hq
    subst hq
    rw [(zVt _ _).2 ⟨h.1.symm, h.2.symm⟩] at c
    cases c
 ·rintro s ⟨rfl, hg⟩
  simp only [zXb, zpi, cond_false]
  rw [List.take_length] at hg
  exact Ok.pure hg
 ·cases r with
  | inl z => exact Ok.pure ⟨fun _ => hr.2, fun _ => hr.1⟩
  | inr z => exact Ok.pure ⟨fun h => absurd h (by decide), fun h => absurd h hr⟩
 ·refine Ok.pure ?_
  rw [decide_eq_true_eq]
  exact hv
theorem zqs {k : Nat} {b : za} (hs : zbh b) (hk : Fuel k b) (v : Bool × Int × Int) (v' : Bool × Int) (acc : Bool) : Ok (iter (fun s => z0c k b v v' s.1 s.2) k (acc, 0)) (fun r => r.1 = true ↔ acc = true ∧ ∀ i (h : i < b.Apart.1.length), zUh b i b.Apart.1[i]) := by
 refine Ok.everyI b.Apart.1 (zUh b) (fun a j hj => ?_) (fun a => by simp [z0c]) hk.apart
 simp only [z0c, zJd hj, cond_true, zCc hj, Option.bind_some, zKf hj hs.apart]
 refine Ok.bind (P := fun v : Bool => v = true ↔ a = true ∧ zUh b j b.Apart.1[j]) ?_ fun v hv => Ok.pure ⟨_, rfl, hv⟩
 have c1 : (decide (0 ≤ (j : Int)) && decide ((j : Int) ≤ (b.Apart.1.length : Int))) = true := by simp; omega
 simp only [zhf, z2k, Option.bind_some, c1, cond_true, Int.toNat_natCast]
 have hlen : (b.Apart.1.take j).length ≤ b.Apart.1.length := by rw [List.length_take]; omega
 refine Ok.cond (fun ha => Ok.cond (fun hw => Ok.cond (fun hl => ?_) (fun hl => Ok.pure ?_)) (fun hw => Ok.pure ?_)) (fun ha => Ok.pure ?_)
 ·have := hk.apart
  have := hs.apart
  refine (zmq (l := (b.Apart.1.take j, _)) _ (show (b.Apart.1.take j).length < k by omega) (show (b.Apart.1.take j).length < _ by omega)).bind fun r hr => Ok.pure ?_
  simp only [Bool.and_eq_true, decide_eq_true_eq] at hw hl
  unfold zUh
  have hr' : (!r) = true ↔ ¬ ∃ q ∈ b.Apart.1.take j, q 0 = b.Apart.1[j] 0 ∧ q 1 = b.Apart.1[j] 1 := by
   rw [← hr]; cases r <;> simp
  rw [hr']
  constructor
  ·intro h
   exact ⟨ha, hw, hl, fun q hq e => h ⟨q, hq, e⟩⟩
  ·rintro ⟨_, _, _, h⟩ ⟨q, hq, e⟩
   exact h q hq e
 ·simp only [decide_eq_false_iff_not] at hl
  simp only [Bool.false_eq_true, false_iff]
  rintro ⟨_, _, h, _⟩
  exact hl h
 ·simp only [Bool.and_eq_false_iff, decide_eq_false_iff_not] at hw
  simp only [Bool.false_eq_true, false_iff]
  rintro ⟨_, h, _⟩
  rcases hw with hw | hw
  ·exact hw h.1
  ·exact hw h.2
 ·simp [ha]
theorem z1n {k : Nat} {b : za} (hs : zbh b) (hk : Fuel k b) : Ok (zTb k b) (fun e => (e = 0 ∧ Fine b) ∨ (e = 80 ∧ ¬ Fine b)) := by
 unfold zTb
 refine (zmt k b).bind fun r1 h1 => ?_
 refine (z9s hs hk r1).bind fun r2 h2 => ?_
 refine (zzt hs hk r2 r2.1).bind fun r3 h3 => ?_
 refine (zqs hs hk r2 r3 r3.1).bind fun r4 h4 => ?_
 have h : r4.1 = true ↔ Fine b := by
  rw [h4, h3, h2, h1]
  constructor
  ·rintro ⟨⟨⟨⟨a1, a2, a3, a4⟩, a5⟩, a6⟩, a7⟩
   exact ⟨a1, a2, a3, a4, a5, a6, a7⟩
  ·rintro ⟨a1, a2, a3, a4, a5, a6, a7⟩
   exact ⟨⟨⟨⟨a1, a2, a3, a4⟩, a5⟩, a6⟩, a7⟩
 cases hb : r4.1 with
 | true => exact Ok.pure (.inl ⟨rfl, h.1 hb⟩)
 | false => exact Ok.pure (.inr ⟨rfl, fun hf => by rw [h.2 hf] at hb; cases hb⟩)
end Go.AM
set_option linter.unusedVariables false
namespace Go.AM
open Go
def AP (b : za) (x y : Int) : Prop := ∃ p ∈ b.Apart.1, p 0 = x ∧ p 1 = y
def zam (b : za) (m : List (zm × Bool)) : Prop := ∀ x y, (zP zx ⟨x, y⟩ m).getD false = true ↔ AP b x y
theorem zyu (a b : zm) : zx a b = true ↔ a = b := by
 cases a
 cases b
 simp [zx]
theorem zAp {k : Nat} {b : za} (hs : b.Apart.1.length < 9223372036854775808) (hk : b.Apart.1.length < k) : Ok (zVb k b) (fun r => ∃ m, r = ⟨b, m⟩ ∧ zam b m) := by
 unfold zVb
 refine Ok.bind (Ok.count b.Apart.1.length (fun j s => s.1 = (j : Int) ∧ ∀ x y, (zP zx ⟨x, y⟩ s.2).getD false = true ↔ ∃ p ∈ b.Apart.1.take j, p 0 = x ∧ p 1 = y) (Q := fun s => zam b s.2) ?_ ?_ ⟨rfl, fun x y => by simp [zP]⟩ hk) fun r hr => Ok.pure ⟨_, rfl, hr⟩
 ·rintro j ⟨i, m⟩ hj ⟨hi, hm⟩
  obtain rfl : i = (j : Int) := hi
  simp only [zWd, zJd hj, cond_true, zCc hj, Option.bind_some, zKf hj hs]
  refine Ok.pure ⟨rfl, fun x y => ?_⟩
  show (zP zx ⟨x, y⟩ (mset zx ⟨b.Apart.1[j] 0, b.Apart.1[j] 1⟩ true m)).getD false = true ↔ _
  rw [zJq zyu, List.take_succ_eq_append_getElem hj]
  by_cases e : (⟨x, y⟩ : zm) = ⟨b.Apart.1[j] 0, b.Apart.1[j] 1⟩
  ·rw [if_pos e]
   cases e
   simp only [Option.getD_some, true_iff]
   exact ⟨_, List.mem_append.2 (.inr (List.mem_singleton.2 rfl)), rfl, rfl⟩
  ·rw [if_neg e]
   refine (hm x y).trans ⟨fun ⟨p, hp, h⟩ => ⟨p, List.mem_append.2 (.inl hp), h⟩, fun ⟨p, hp, h⟩ => ?_⟩
   rcases List.mem_append.1 hp with hp | hp
   ·exact ⟨p, hp, h⟩
   ·rw [List.mem_singleton] at hp
    subst hp
    rw [h.1, h.2] at e
    exact absurd rfl e
 ·rintro ⟨i, m⟩ ⟨hi, hm⟩
  obtain rfl : i = (b.Apart.1.length : Int) := hi
  simp only [zWd, zpi, cond_false]
  rw [List.take_length] at hm
  exact Ok.pure hm
def letN (p : Nat → Bool) : List Nat := (List.range 8).filter p
abbrev zal (l : List Nat) : List Int := l.map fun (i : Nat) => (i : Int)
theorem zXg {p : Nat → Bool} {i : Nat} : i ∈ letN p ↔ i < 8 ∧ p i = true := by simp [letN]
theorem zWq (p : Nat → Bool) : (letN p).Pairwise (· < ·) := List.Pairwise.filter _ List.pairwise_lt_range
theorem z9n (p : Nat → Bool) : (letN p).length ≤ 8 := by
 have := List.length_filter_le p (List.range 8)
 rwa [List.length_range] at this
theorem zbp {k : Nat} (hk : 100 < k) (p : Nat → Bool) : Ok (zSb k p) (fun r => r.1 = zal (letN p)) := by
 unfold zSb
 refine Ok.bind (Ok.count 8 (fun j s => s.1 = (j : Int) ∧ s.2 = zal ((List.range j).filter p)) (Q := fun s => s.2 = zal (letN p)) ?_ ?_ ⟨rfl, rfl⟩ (by omega)) fun r hr => Ok.pure hr
 ·rintro j ⟨i, l⟩ hj ⟨hi, hl⟩
  obtain rfl : i = (j : Int) := hi
  obtain rfl : l = _ := hl
  have c1 : decide ((j : Int) < 8) = true := by simp; omega
  have c2 : (decide (0 ≤ (j : Int)) && decide ((j : Int) < 8)) = true := by simp; omega
  have hlen : ((List.range j).filter p).length ≤ 8 := by
   have := List.length_filter_le p (List.range j)
   rw [List.length_range] at this
   omega
  have c3 : decide ((zal ((List.range j).filter p)).length + 1 ≤ LIM) = true := by
   simp only [decide_eq_true_eq, List.length_map, LIM]
   omega
  simp only [zwc, c1, c2, c3, cond_true, Int.toNat_natCast, w8 (show j < 9 by omega)]
  cases hp : p j with
  | true =>
   refine Ok.pure ⟨rfl, ?_⟩
   show _ ++ [(j : Int)] = zal _
   rw [List.range_succ, List.filter_append]
   simp [hp]
  | false =>
   refine Ok.pure ⟨rfl, ?_⟩
   show zal _ = zal _
   rw [List.range_succ, List.filter_append]
   simp [hp]
 ·rintro ⟨i, l⟩ ⟨hi, hl⟩
  obtain rfl : i = 8 := hi
  simp only [zwc]
  exact Ok.pure hl
theorem zWn {l : List Nat} {j : Nat} (h : j < l.length) : idx (zal l) (j : Int) = some ((l[j] : Nat) : Int) := by
 rw [zCc (by simpa using h)]
 simp
theorem zPn {k : Nat} (hk : 100 < k) (a x : Int) (c : Cap) : zyb k a ([x], c) = some (if x > a then x else a) := by
 obtain ⟨n, rfl⟩ : ∃ n, k = n + 2 := ⟨k - 2, by omega⟩
 have e1 : zqb (n + 2) ([x], c) a 0 = some (.inl ((if x > a then x else a), 1)) := by
  have : w64 1 = 1 := by decide
  simp [zqb, idx, this]
 have e2 : ∀ y, zqb (n + 2) ([x], c) y 1 = some (.inr (y, 1)) := fun y => by simp [zqb]
 simp [zyb, iter, e1, e2]
def InL (l : Nat → Bool) (n i : Nat) : Prop := i = n ∨ (i < 8 ∧ l i = true)
def zNl (b : za) (l : Nat → Bool) (n : Nat) : Prop := ∀ i j, InL l n i → InL l n j → (lt b i).Born.Low ≤ (lt b j).Born.High
theorem zau {k : Nat} {b : za} (hf : Fine b) (hk : 100 < k) (m : List (zm × Bool)) {l : Nat → Bool} {n : Nat} (hn : n < nL b) (hl : ∀ i, i < 8 → l i = true → i < nL b) : Ok (zRd k ⟨b, m⟩ l n) (fun r => r = true ↔ zNl b l n) := by
 unfold zRd
 rw [zgh hn]
 simp only [Option.bind_some]
 refine (zbp hk l).bind fun v hv => ?_
 have hlen := z9n l
 have bl : ∀ i, i < nL b → 0 ≤ (lt b i).Born.Low ∧ (lt b i).Born.Low ≤ (lt b i).Born.High ∧ (lt b i).Born.High ≤ 200 := fun i hi => by
  obtain ⟨_, _, h1, h2, _⟩ := hf.letters i hi
  exact ⟨h1.1, h1.2, h2⟩
 refine Ok.bind (Ok.count (letN l).length (fun j s => s.1 = (j : Int) ∧ (∃ i, (i = n ∨ i ∈ (letN l).take j) ∧ s.2.1 = (lt b i).Born.Low) ∧ (∃ i, (i = n ∨ i ∈ (letN l).take j) ∧ s.2.2 = (lt b i).Born.High) ∧ ∀ i, (i = n ∨ i ∈ (letN l).take j) → (lt b i).Born.Low ≤ s.2.1 ∧ s.2.2 ≤ (lt b i).Born.High)
  (Q := fun s => s.2.1 ≤ s.2.2 ↔ zNl b l n) ?_ ?_ ⟨rfl, ⟨n, .inl rfl, rfl⟩, ⟨n, .inl rfl, rfl⟩, ?_⟩ (by omega)) fun r hr => Ok.pure ?_
 ·rintro j ⟨i, lo, hi⟩ hj ⟨hji, ⟨i1, h1, e1⟩, ⟨i2, h2, e2⟩, h3⟩
  obtain rfl : i = (j : Int) := hji
  have e1 : lo = _ := e1
  have e2 : hi = _ := e2
  have h3 : ∀ i, (i = n ∨ i ∈ (letN l).take j) → (lt b i).Born.Low ≤ lo ∧ hi ≤ (lt b i).Born.High := h3
  have hj' : (j : Int) < (v.1.length : Int) := by rw [hv]; simp; omega
  have hm := zXg.1 (List.getElem_mem hj)
  have hx := hl _ hm.1 hm.2
  have inn : ∀ i, (i = n ∨ i ∈ (letN l).take j) → i < nL b := by
   rintro i (rfl | h)
   ·exact hn
   ·have := zXg.1 (List.mem_of_mem_take h)
    exact hl _ this.1 this.2
  have b1 := bl i1 (inn _ h1)
  have b2 := bl i2 (inn _ h2)
  have b3 := bl _ hx
  simp only [z6c, hj', decide_true, cond_true]
  rw [hv, zWn hj]
  simp only [Option.bind_some]
  rw [zgh hx]
  simp only [Option.bind_some, zPn hk]
  have tk : ∀ i, (i = n ∨ i ∈ (letN l).take (j + 1)) ↔ ((i = n ∨ i ∈ (letN l).take j) ∨ i = (letN l)[j]) := fun i => by
   rw [List.take_succ_eq_append_getElem hj, List.mem_append, List.mem_singleton, or_assoc]
  have hneg : w64 (0 - hi) = -hi := by rw [zGe (by omega) (by omega)]; omega
  generalize (letN l)[j] = x at *
  have hnegx : w64 (0 - (lt b x).Born.High) = -(lt b x).Born.High := by rw [zGe (by omega) (by omega)]; omega
  rw [hneg, hnegx]
  have hhi : w64 (0 - (if -(lt b x).Born.High > -hi then -(lt b x).Born.High else -hi)) = (if (lt b x).Born.High < hi then (lt b x).Born.High else hi) := by
   rw [zGe (by split <;> omega) (by split <;> omega)]
   split <;> split <;> omega
  rw [hhi]
  refine Ok.pure ⟨w8 (show j < 9 by omega), ?_, ?_, ?_⟩
  ·show ∃ i, _ ∧ (if (lt b x).Born.Low > lo then (lt b x).Born.Low else lo) = _
   split
   ·exact ⟨x, (tk x).2 (.inr rfl), rfl⟩
   ·exact ⟨i1, (tk i1).2 (.inl h1), e1⟩
  ·show ∃ i, _ ∧ (if (lt b x).Born.High < hi then (lt b x).Born.High else hi) = _
   split
   ·exact ⟨x, (tk x).2 (.inr rfl), rfl⟩
   ·exact ⟨i2, (tk i2).2 (.inl h2), e2⟩
  ·intro i h
   show (lt b i).Born.Low ≤ (if (lt b x).Born.Low > lo then (lt b x).Born.Low else lo) ∧ (if (lt b x).Born.High < hi then (lt b x).Born.High else hi) ≤ (lt b i).Born.High
   rcases (tk i).1 h with h | rfl
   ·have := h3 i h
    constructor <;> split <;> omega
   ·constructor <;> split <;> omega
 ·rintro ⟨i, lo, hi⟩ ⟨hji, ⟨i1, h1, e1⟩, ⟨i2, h2, e2⟩, h3⟩
  obtain rfl : i = ((letN l).length : Int) := hji
  have hj' : ¬ ((letN l).length : Int) < (v.1.length : Int) := by rw [hv]; simp
  simp only [z6c, hj', decide_false, cond_false]
  refine Ok.pure ?_
  rw [List.take_length] at h1 h2 h3
  have e1 : lo = _ := e1
  have e2 : hi = _ := e2
  have inl : ∀ i, InL l n i ↔ (i = n ∨ i ∈ letN l) := fun i => by unfold InL; rw [zXg]
  constructor
  ·intro h i j hi' hj'
   have g1 := (h3 i ((inl i).1 hi')).1
   have g2 := (h3 j ((inl j).1 hj')).2
   have h : lo ≤ hi := h
   have g1 : _ ≤ lo := g1
   have g2 : hi ≤ _ := g2
   omega
  ·intro h
   show lo ≤ hi
   rw [e1, e2]
   exact h _ _ ((inl _).2 h1) ((inl _).2 h2)
 ·intro i h
  rcases h with rfl | h
  ·exact ⟨Int.le_refl _, Int.le_refl _⟩
  ·simp at h
 ·rw [decide_eq_true_eq]; exact hr
end Go.AM
set_option linter.unusedVariables false
namespace Go.AM
open Go
def zEl (l : Nat → Bool) (j : Nat) : Prop := j < 8 ∧ l j = true ∧ ∀ i, j < i → i < 8 → l i = false
theorem zEl.one {l : Nat → Bool} {i j : Nat} (h : zEl l i) (g : zEl l j) : i = j := by
 apply Classical.byContradiction
 intro hn
 by_cases e : i < j
 ·have := h.2.2 j e g.1
  rw [g.2.1] at this
  cases this
 ·have := g.2.2 i (by omega) h.1
  rw [h.2.1] at this
  cases this
theorem z6q {k : Nat} {b : zj} (hk : 100 < k) {l : Nat → Bool} (he : ∃ i, i < 8 ∧ l i = true) : Ok (z5c k b l) (fun r => ∃ j : Nat, r = (j : Int) ∧ zEl l j) := by
 unfold z5c
 refine (zbp hk l).bind fun v hv => ?_
 obtain ⟨i, hi⟩ := he
 have hmem := zXg.2 hi
 have hpos : 0 < (letN l).length := List.length_pos_of_mem hmem
 have hlen := z9n l
 have e : w64 ((v.1.length : Int) - 1) = (((letN l).length - 1 : Nat) : Int) := by
  rw [hv, zGe (by simp; omega) (by simp; omega)]
  simp
  omega
 have hlt : (letN l).length - 1 < (letN l).length := by omega
 rw [e, hv, zWn hlt]
 simp only [Option.bind_some]
 have hm := zXg.1 (List.getElem_mem hlt)
 refine Ok.pure ⟨_, rfl, hm.1, hm.2, fun i hi1 hi2 => ?_⟩
 cases hli : l i with
 | false => rfl
 | true =>
  obtain ⟨a, ha, hx⟩ := List.getElem_of_mem (zXg.2 ⟨hi2, hli⟩)
  by_cases e : a = (letN l).length - 1
  ·subst e
   omega
  ·have := List.pairwise_iff_getElem.1 (zWq l) a _ ha hlt (by omega)
   omega
def farB (b : za) (i j : Nat) : Int := (((b.Far.1[(lt b i).Place.toNat]?).getD ([], .nil)).1[(lt b j).Place.toNat]?).getD 0
theorem zSu {b : za} (hf : Fine b) {i j : Nat} (hi : i < nL b) (hj : j < nL b) : ∃ row, idx b.Far.1 (lt b i).Place = some row ∧ idx row.1 (lt b j).Place = some (farB b i j) ∧ 0 ≤ farB b i j ∧ farB b i j ≤ 400 := by
 obtain ⟨_, p1, _⟩ := hf.letters i hi
 obtain ⟨_, p2, _⟩ := hf.letters j hj
 have h1 : (lt b i).Place.toNat < b.Far.1.length := by omega
 obtain ⟨hl, hr⟩ := hf.rows _ h1
 have h2 : (lt b j).Place.toNat < b.Far.1[(lt b i).Place.toNat].1.length := by omega
 have e : farB b i j = b.Far.1[(lt b i).Place.toNat].1[(lt b j).Place.toNat] := by
  unfold farB
  rw [List.getElem?_eq_getElem h1, Option.getD_some, List.getElem?_eq_getElem h2, Option.getD_some]
 refine ⟨_, zfs p1.1 h1, ?_, ?_⟩
 ·rw [e]; exact zfs p2.1 h2
 ·rw [e]; exact (hr _ h2).1
def WayP (b : za) (l : Nat → Bool) (n : Nat) : Prop := ∀ j, zEl l j → farB b j n ≤ (lt b n).Day - (lt b j).Day
def zJl (b : za) (l : Nat → Bool) : Prop := ∀ j, zEl l j → (lt b j).Dead = false
def zej (b : za) (l : Nat → Bool) (n : Nat) : Prop := ∀ i, i < 8 → l i = true → ¬ AP b (i : Int) (n : Int)
theorem zer {b : za} (hf : Fine b) : ∀ i, i ≤ nL b → 0 ≤ dayB b i
 | 0, _ => Int.le_refl _
 | i + 1, h => Int.le_trans (zer hf i (by omega)) (hf.letters i h).1.1
theorem zXs {b : za} (hf : Fine b) {i : Nat} (hi : i < nL b) : 0 ≤ (lt b i).Day ∧ (lt b i).Day ≤ 20000 :=
 ⟨Int.le_trans (zer hf i (by omega)) (hf.letters i hi).1.1, (hf.letters i hi).1.2⟩
theorem zzu {k : Nat} {b : za} (hf : Fine b) (hk : 100 < k) (m : List (zm × Bool)) {l : Nat → Bool} {n : Nat} (hn : n < nL b) (hl : ∀ i, i < 8 → l i = true → i < nL b) (he : ∃ i, i < 8 ∧ l i = true) : Ok (zne k ⟨b, m⟩ l n) (fun r => r = true ↔ WayP b l n) := by
 unfold zne
 refine (z6q hk he).bind fun v hv => ?_
 obtain ⟨j, rfl, hj⟩ := hv
 have hjn := hl j hj.1 hj.2.1
 obtain ⟨row, r1, r2, r3⟩ := zSu hf hjn hn
 have d1 := zXs hf hjn
 have d2 := zXs hf hn
 rw [zgh hjn]
 simp only [Option.bind_some]
 rw [zgh hn]
 simp only [Option.bind_some]
 rw [r1]
 simp only [Option.bind_some]
 rw [r2]
 simp only [Option.bind_some]
 refine Ok.pure ?_
 rw [zGe (by omega) (by omega), decide_eq_true_eq]
 constructor
 ·intro h i hi
  obtain rfl := hj.one hi
  exact h
 ·intro h
  exact h j hj
theorem z5s {k : Nat} {b : za} (hk : 100 < k) (m : List (zm × Bool)) {l : Nat → Bool} (n : Int) (hl : ∀ i, i < 8 → l i = true → i < nL b) (he : ∃ i, i < 8 ∧ l i = true) : Ok (zFd k ⟨b, m⟩ l n) (fun r => r = true ↔ zJl b l) := by
 unfold zFd
 refine (z6q hk he).bind fun v hv => ?_
 obtain ⟨j, rfl, hj⟩ := hv
 rw [zgh (hl j hj.1 hj.2.1)]
 simp only [Option.bind_some]
 refine Ok.pure ?_
 constructor
 ·intro h i hi
  obtain rfl := hj.one hi
  simpa using h
 ·intro h
  simp [h j hj]
theorem zwt {k : Nat} {b : za} (hk : 100 < k) {m : List (zm × Bool)} (hm : zam b m) (l : Nat → Bool) (n : Nat) : Ok (zBd k ⟨b, m⟩ l n) (fun r => r = true ↔ zej b l n) := by
 unfold zBd
 refine (zbp hk l).bind fun v hv => ?_
 have hlen := z9n l
 refine Ok.bind (Ok.count (letN l).length (fun j s => s = (j : Int) ∧ ∀ i ∈ (letN l).take j, ¬ AP b (i : Int) (n : Int)) (Q := fun r : (Int × Int) ⊕ Int => match r with
  | .inl _ => ¬ zej b l n
  | .inr _ => zej b l n) ?_ ?_ ⟨rfl, by simp⟩ (by omega)) fun r hr => ?_
 ·rintro j s hj ⟨rfl, hg⟩
  have hj' : (j : Int) < (v.1.length : Int) := by rw [hv]; simp; omega
  have hx := zXg.1 (List.getElem_mem hj)
  simp only [zWc, hj', decide_true, cond_true]
  rw [hv, zWn hj]
  simp only [Option.bind_some, w8 (show j < 9 by omega)]
  have hmx := hm ((letN l)[j] : Nat) n
  refine Ok.cond (fun h => ?_) (fun h => ?_)
  ·exact Ok.pure fun hp => hp _ hx.1 hx.2 (hmx.1 h)
  ·refine Ok.pure ⟨rfl, fun i hi => ?_⟩
   rw [List.take_succ_eq_append_getElem hj] at hi
   rcases List.mem_append.1 hi with hi | hi
   ·exact hg i hi
   ·rw [List.mem_singleton] at hi
    subst hi
    intro ha
    have := hmx.2 ha
    rw [h] at this
    cases this
 ·rintro s ⟨rfl, hg⟩
  have hj' : ¬ ((letN l).length : Int) < (v.1.length : Int) := by rw [hv]; simp
  simp only [zWc, hj', decide_false, cond_false]
  rw [List.take_length] at hg
  exact Ok.pure fun i hi hli => hg i (zXg.2 ⟨hi, hli⟩)
 ·cases r with
  | inl z => exact Ok.pure ⟨fun h => (by cases h), fun h => absurd h hr⟩
  | inr z => exact Ok.pure ⟨fun _ => hr, fun _ => rfl⟩
def CanP (b : za) (l : Nat → Bool) (n : Nat) : Prop := (∀ i, i < 8 → l i = false) ∨ (zNl b l n ∧ WayP b l n ∧ zJl b l ∧ zej b l n)
theorem zZu {k : Nat} {b : za} (hf : Fine b) (hk : 100 < k) {m : List (zm × Bool)} (hm : zam b m) {l : Nat → Bool} {n : Nat} (hn : n < nL b) (hl : ∀ i, i < 8 → l i = true → i < nL b) : Ok (zkb k ⟨b, m⟩ l n) (fun r => r = true ↔ CanP b l n) := by
 unfold zkb zDg
 simp only [Option.bind_some]
 have h0 : eqB l (fun _ => false) 0 8 = true ↔ ∀ i, i < 8 → l i = false := by
  rw [z7q]
  exact ⟨fun h i hi => h i (by omega) (by omega), fun h i _ hi => h i (by omega)⟩
 refine Ok.cond (fun h => Ok.pure ⟨fun _ => .inl (h0.1 h), fun _ => rfl⟩) fun h => ?_
 have hne : ¬ ∀ i, i < 8 → l i = false := fun hh => by rw [h0.2 hh] at h; cases h
 have he : ∃ i, i < 8 ∧ l i = true := by
  apply Classical.byContradiction
  intro hno
  apply hne
  intro i hi
  cases hc : l i with
  | false => rfl
  | true => exact absurd ⟨i, hi, hc⟩ hno
 have hcan : CanP b l n ↔ zNl b l n ∧ WayP b l n ∧ zJl b l ∧ zej b l n := ⟨fun h => h.elim (fun h => absurd h hne) id, .inr⟩
 rw [hcan]
 refine Ok.bind (Ok.count 4 (fun j s => s = (j : Int) ∧ (1 ≤ j → zNl b l n) ∧ (2 ≤ j → WayP b l n) ∧ (3 ≤ j → zJl b l) ∧ (4 ≤ j → zej b l n))
  (Q := fun r : Int ⊕ (Int ⊕ (Int ⊕ (Int ⊕ Int))) => match r with
   | .inr (.inr (.inr (.inr _))) => zNl b l n ∧ WayP b l n ∧ zJl b l ∧ zej b l n
   | _ => ¬ (zNl b l n ∧ WayP b l n ∧ zJl b l ∧ zej b l n)) ?_ ?_ ⟨rfl, by omega, by omega, by omega, by omega⟩ (by omega)) fun r hr => ?_
 ·rintro j s hj ⟨rfl, g1, g2, g3, g4⟩
  have c1 : decide ((j : Int) < 4) = true := by simp; omega
  simp only [zze, c1, cond_true]
  obtain rfl | rfl | rfl | rfl : j = 0 ∨ j = 1 ∨ j = 2 ∨ j = 3 := by omega
  ·refine (zau hf hk m hn hl).bind fun r hr => ?_
   cases r with
   | false => exact Ok.pure fun h => by have := hr.2 h.1; cases this
   | true => exact Ok.pure ⟨by decide, fun _ => hr.1 rfl, by omega, by omega, by omega⟩
  ·refine (zzu hf hk m hn hl he).bind fun r hr => ?_
   cases r with
   | false => exact Ok.pure fun h => by have := hr.2 h.2.1; cases this
   | true => exact Ok.pure ⟨by decide, fun _ => g1 (by omega), fun _ => hr.1 rfl, by omega, by omega⟩
  ·refine (z5s hk m n hl he).bind fun r hr => ?_
   cases r with
   | false => exact Ok.pure fun h => by have := hr.2 h.2.2.1; cases this
   | true => exact Ok.pure ⟨by decide, fun _ => g1 (by omega), fun _ => g2 (by omega), fun _ => hr.1 rfl, by omega⟩
  ·refine (zwt hk hm l n).bind fun r hr => ?_
   cases r with
   | false => exact Ok.pure fun h => by have := hr.2 h.2.2.2; cases this
   | true => exact Ok.pure ⟨by decide, fun _ => g1 (by omega), fun _ => g2 (by omega), fun _ => g3 (by omega), fun _ => hr.1 rfl⟩
 ·rintro s ⟨rfl, g1, g2, g3, g4⟩
  exact Ok.pure ⟨g1 (by omega), g2 (by omega), g3 (by omega), g4 (by omega)⟩
 ·rcases r with r | r | r | r | r
  ·exact Ok.pure ⟨fun h => (by cases h), fun h => absurd h hr⟩
  ·exact Ok.pure ⟨fun h => (by cases h), fun h => absurd h hr⟩
  ·exact Ok.pure ⟨fun h => (by cases h), fun h => absurd h hr⟩
  ·exact Ok.pure ⟨fun h => (by cases h), fun h => absurd h hr⟩
  ·exact Ok.pure ⟨fun _ => hr, fun _ => rfl⟩
end Go.AM
set_option linter.unusedVariables false
namespace Go.AM
open Go
def zjb (q : List Int) : Int := q.foldl (fun n w => if w + 1 > n then w + 1 else n) 0
theorem zOn (q : List Int) (w : Int) : zjb (q ++ [w]) = if w + 1 > zjb q then w + 1 else zjb q := by
 unfold zjb
 rw [List.foldl_append]; rfl
def Ppl (q : List Int) : Prop := q.length ≤ 8 ∧ ∀ x ∈ q, 0 ≤ x ∧ x ≤ 100
theorem Ppl.take {q : List Int} (h : Ppl q) (i : Nat) : Ppl (q.take i) := ⟨by rw [List.length_take]; have := h.1; omega, fun x hx => h.2 x (List.mem_of_mem_take hx)⟩
theorem z6t {α : Type} {P : List α → Prop} (h0 : P []) (h1 : ∀ l x, P l → P (l ++ [x])) (l : List α) : P l := by
 have : ∀ l : List α, P l.reverse := by
  intro l
  induction l with
  | nil => exact h0
  | cons x t ih => rw [List.reverse_cons]; exact h1 _ _ ih
 have := this l.reverse
 rwa [List.reverse_reverse] at this
theorem zis {q : List Int} : (∀ x ∈ q, 0 ≤ x ∧ x ≤ 100) → 0 ≤ zjb q ∧ zjb q ≤ 101 := by
 refine z6t (P := fun q => (∀ x ∈ q, 0 ≤ x ∧ x ≤ 100) → 0 ≤ zjb q ∧ zjb q ≤ 101) ?_ ?_ q
 ·intro _
  exact ⟨by decide, by decide⟩
 ·intro l x ih h
  have h1 := ih fun y hy => h y (List.mem_append.2 (.inl hy))
  have h2 := h x (by simp)
  rw [zOn]
  split <;> omega
theorem z9j {k : Nat} (hk : 100 < k) {q : SL Int} (hq : Ppl q.1) : Ok (zBb k q) (fun r => r = zjb q.1) := by
 unfold zBb
 have hlen := hq.1
 refine Ok.bind (Ok.count q.1.length (fun j s => s.2 = (j : Int) ∧ s.1 = zjb (q.1.take j)) (Q := fun s => s.1 = zjb q.1) ?_ ?_ ⟨rfl, rfl⟩ (by omega)) fun r hr => Ok.pure hr
 ·rintro j ⟨n, i⟩ hj ⟨hi, hn⟩
  obtain rfl : i = (j : Int) := hi
  obtain rfl : n = _ := hn
  have hx := hq.2 _ (List.getElem_mem hj)
  simp only [zHe, zJd hj, cond_true, zCc hj, Option.bind_some, zPn hk, w8 (show j < 9 by omega)]
  refine Ok.pure ⟨rfl, ?_⟩
  show (if _ > _ then _ else _) = _
  rw [List.take_succ_eq_append_getElem hj, zOn, zGe (by omega) (by omega)]
 ·rintro ⟨n, i⟩ ⟨hi, hn⟩
  obtain rfl : i = (q.1.length : Int) := hi
  simp only [zHe, zpi, cond_false]
  rw [List.take_length] at hn
  exact Ok.pure hn
def zIo (b : za) (q : List Int) (n : Nat) (w : Int) : Prop := ∀ i x, q[i]? = some x → 0 < (lt b i).Account → (lt b i).Account = (lt b n).Account → x = w
theorem ztt {k : Nat} {b : za} (hf : Fine b) (hk : 100 < k) (m : List (zm × Bool)) {q : SL Int} {n : Nat} (hn : n < nL b) (hq : q.1.length ≤ nL b) (w : Int) : Ok (zfb k ⟨b, m⟩ q n w) (fun r => r = true ↔ zIo b q.1 n w) := by
 unfold zfb
 have h8 := hf.nletters
 refine Ok.bind (Ok.count q.1.length (fun j s => s = (j : Int) ∧ ∀ i x, i < j → q.1[i]? = some x → 0 < (lt b i).Account → (lt b i).Account = (lt b n).Account → x = w) (Q := fun r : (Int × Int × Bool) ⊕ Int => match r with
  | .inl _ => ¬ zIo b q.1 n w
  | .inr _ => zIo b q.1 n w) ?_ ?_ ⟨rfl, by omega⟩ (by omega)) fun r hr => ?_
 ·rintro j s hj ⟨rfl, hg⟩
  have hjn : j < nL b := by omega
  simp only [zUc, zJd hj, cond_true, zCc hj, Option.bind_some, zPd, w8 (show j < 9 by omega)]
  rw [zgh hjn]
  simp only [Option.bind_some]
  rw [zgh hn]
  simp only [Option.bind_some, zJe, zQd]
  refine Ok.cond (fun h => ?_) (fun h => ?_)
  ·refine Ok.pure fun hp => ?_
   simp only [Bool.and_eq_true, decide_eq_true_eq, beq_iff_eq, bne_iff_ne] at h
   exact h.2 (hp j _ (List.getElem?_eq_getElem hj) h.1.1 h.1.2)
  ·refine Ok.pure ⟨rfl, fun i x hij hx h1 h2 => ?_⟩
   by_cases e : i = j
   ·subst e
    rw [List.getElem?_eq_getElem hj] at hx
    cases hx
    apply Classical.byContradiction
    intro hne
    have : (decide ((lt b i).Account > 0) && ((lt b i).Account == (lt b n).Account) && (q.1[i] != w)) = true := by
     simp only [Bool.and_eq_true, decide_eq_true_eq, beq_iff_eq, bne_iff_ne]
     exact ⟨⟨h1, h2⟩, hne⟩
    rw [this] at h
    cases h
   ·exact hg i x (by omega) hx h1 h2
 ·rintro s ⟨rfl, hg⟩
  simp only [zUc, zpi, cond_false]
  exact Ok.pure fun i x hx => hg i x (List.getElem?_eq_some_iff.1 hx).1 hx
 ·cases r with
  | inl z => exact Ok.pure ⟨fun h => (by cases h), fun h => absurd h hr⟩
  | inr z => exact Ok.pure ⟨fun _ => hr, fun _ => rfl⟩
def zCh (q : List Int) (w : Int) : Nat → Bool := fun i => decide (q[i]? = some w)
theorem zIt {k : Nat} (hk : 100 < k) {q : SL Int} (hq : q.1.length ≤ 8) (w : Int) : Ok (zec k q w) (fun r => r = zCh q.1 w) := by
 unfold zec
 refine Ok.bind (Ok.count q.1.length (fun j s => s.1 = (j : Int) ∧ s.2 = zCh (q.1.take j) w) (Q := fun s => s.2 = zCh q.1 w) ?_ ?_ ⟨rfl, by funext i; simp [zCh]⟩ (by omega)) fun r hr => Ok.pure hr
 ·rintro j ⟨i, f⟩ hj ⟨hi, hf⟩
  obtain rfl : i = (j : Int) := hi
  obtain rfl : f = _ := hf
  have c2 : (decide (0 ≤ (j : Int)) && decide ((j : Int) < 8)) = true := by simp; omega
  simp only [zhe, zJd hj, cond_true, zCc hj, Option.bind_some, c2, Int.toNat_natCast, w8 (show j < 9 by omega)]
  refine Ok.pure ⟨rfl, ?_⟩
  show upd _ _ _ = _
  funext i
  unfold upd zCh
  by_cases e : i = j
  ·subst e
   simp [List.getElem?_take, List.getElem?_eq_getElem hj]
   exact Bool.eq_iff_iff.2 (by simp)
  ·rw [if_neg e]
   by_cases hlt : i < j
   ·simp [List.getElem?_take, hlt, show i < j + 1 by omega]
   ·simp [List.getElem?_take, hlt, show ¬ i < j + 1 by omega]
 ·rintro ⟨i, f⟩ ⟨hi, hf⟩
  obtain rfl : i = (q.1.length : Int) := hi
  simp only [zhe, zpi, cond_false]
  rw [List.take_length] at hf
  exact Ok.pure hf
def lim (b : za) (q : List Int) : Nat := (if zjb q + 1 < b.Most then zjb q + 1 else b.Most).toNat
def okP (b : za) (q : List Int) (w : Int) : Prop := zIo b q q.length w ∧ CanP b (zCh q w) q.length
def Pre (b : za) (q : List Int) : Prop := ∀ i x, q[i]? = some x → zCo (lim b) (okP b) (q.take i) x
noncomputable def Tr (b : za) : List (List Int) := subs (lim b) (okP b) (nL b) []
theorem zBl {b : za} {q : List Int} : q ∈ Tr b ↔ q.length = nL b ∧ Pre b q := by
 unfold Tr
 rw [zjk]
 constructor
 ·rintro ⟨h1, _, h3⟩
  exact ⟨by simpa using h1, fun i x hx => h3 i x (Nat.zero_le _) hx⟩
 ·rintro ⟨h1, h2⟩
  exact ⟨by simpa using h1, rfl, fun i x _ hx => h2 i x hx⟩
theorem zut (b : za) : (Tr b).Nodup := by
 refine List.Pairwise.imp ?_ (zLn (nL b) [])
 intro x y h e
 subst e
 exact zOt h
theorem zhk {b : za} (hf : Fine b) (q : List Int) : lim b q ≤ 8 := by
 have := hf.most
 unfold lim
 split <;> omega
theorem zfq {lim : List Int → Nat} {ok : List Int → Int → Prop} (h : ∀ q, lim q ≤ 8) : ∀ t p, (subs lim ok t p).length ≤ 8 ^ t
 | 0, p => by simp [subs]
 | t + 1, p => by
  unfold subs
  rw [List.length_flatMap]
  have : ∀ n : Nat, ((List.range n).map fun w : Nat => (open Classical in if ok p (w : Int) then subs lim ok t (p ++ [(w : Int)]) else []).length).sum ≤ n * 8 ^ t := by
   intro n
   induction n with
   | zero => simp
   | succ n ih =>
    rw [List.range_succ, List.map_append, List.sum_append, Nat.succ_mul]
    have : (open Classical in if ok p (n : Int) then subs lim ok t (p ++ [(n : Int)]) else []).length ≤ 8 ^ t := by
     split
     ·exact zfq h t _
     ·simp
    simp only [List.map_cons, List.map_nil, List.sum_cons, List.sum_nil]
    omega
  refine Nat.le_trans (this _) ?_
  rw [Nat.pow_succ, Nat.mul_comm]
  exact Nat.mul_le_mul_left _ (h p)
theorem zwu {b : za} (hf : Fine b) : (Tr b).length ≤ 16777216 := by
 refine Nat.le_trans (zfq (zhk hf) _ _) ?_
 refine Nat.le_trans (Nat.pow_le_pow_right (by omega) hf.nletters.2) ?_
 decide
theorem Pre.ppl {b : za} (hf : Fine b) {q : List Int} (h : Pre b q) : ∀ x ∈ q, 0 ≤ x ∧ x ≤ 7 := by
 intro x hx
 obtain ⟨i, hi, rfl⟩ := List.getElem_of_mem hx
 obtain ⟨h1, h2, _⟩ := h i _ (List.getElem?_eq_getElem hi)
 have := zhk hf (q.take i)
 exact ⟨h1, by omega⟩
theorem Pre.Ppl {b : za} (hf : Fine b) {q : List Int} (h : Pre b q) (hl : q.length ≤ nL b) : Ppl q :=
 ⟨by have := hf.nletters; omega, fun x hx => by have := h.ppl hf x hx; omega⟩
theorem Pre.snoc {b : za} {q : List Int} {w : Int} : Pre b (q ++ [w]) ↔ Pre b q ∧ zCo (lim b) (okP b) q w := by
 constructor
 ·intro h
  refine ⟨fun i x hx => ?_, ?_⟩
  ·have hi := (List.getElem?_eq_some_iff.1 hx).1
   have := h i x (by rw [List.getElem?_append_left hi]; exact hx)
   rwa [List.take_append_of_le_length (by omega)] at this
  ·have := h q.length w (by simp)
   rwa [List.take_left'  rfl] at this
 ·rintro ⟨h1, h2⟩ i x hx
  by_cases hi : i < q.length
  ·rw [List.getElem?_append_left hi] at hx
   rw [List.take_append_of_le_length (by omega)]
   exact h1 i x hx
  ·have hlt := (List.getElem?_eq_some_iff.1 hx).1
   simp only [List.length_append, List.length_cons, List.length_nil] at hlt
   obtain rfl : i = q.length := by omega
   simp at hx
   subst hx
   rw [List.take_left' rfl]
   exact h2
theorem Pre.take {b : za} {q : List Int} (h : Pre b q) (i : Nat) : Pre b (q.take i) := by
 intro j x hx
 have hj : j < i := by
  have := (List.getElem?_eq_some_iff.1 hx).1
  rw [List.length_take] at this
  omega
 rw [List.getElem?_take, if_pos hj] at hx
 rw [List.take_take, Nat.min_eq_left (by omega)]
 exact h j x hx
theorem zyn {k : Nat} {b : za} (hf : Fine b) (hk : 100 < k) {m : List (zm × Bool)} (hm : zam b m) {q : SL Int} (hq : q.1.length < nL b) (w : Int) :
  Ok ((zfb k ⟨b, m⟩ q (q.1.length : Int) w).bind fun v501 => cond (!v501) (some true) ((zec k q w).bind fun v504 => (zkb k ⟨b, m⟩ v504 (q.1.length : Int)).bind fun v506 => some (!v506))) (fun r => r = true ↔ ¬ okP b q.1 w) := by
 have h8 := hf.nletters
 refine (ztt hf hk m hq (by omega) w).bind fun v hv => ?_
 unfold okP
 cases v with
 | false => exact Ok.pure ⟨fun _ h => (by have := hv.2 h.1; cases this), fun _ => rfl⟩
 | true =>
  have hn := hv.1 rfl
  refine (zIt hk (by omega) w).bind fun l hl => ?_
  subst hl
  refine (zZu hf hk hm hq fun i _ h => ?_).bind fun r hr => Ok.pure ?_
  ·have : q.1[i]? = some w := by simpa [zCh] using h
   have := (List.getElem?_eq_some_iff.1 this).1
   omega
  ·cases r with
   | false => exact ⟨fun _ h => (by have := hr.2 h.2; cases this), fun _ => rfl⟩
   | true => exact ⟨fun h => (by cases h), fun h => absurd ⟨hn, hr.1 rfl⟩ h⟩
end Go.AM
set_option linter.unusedVariables false
namespace Go.AM
open Go
theorem z7j {b : za} (hf : Fine b) {q : List Int} (hq : Ppl q) (j : Nat) : (j : Int) < (if w64 (zjb q + 1) < b.Most then w64 (zjb q + 1) else b.Most) ↔ j < lim b q := by
 have h := zis hq.2
 have := hf.most
 rw [zGe (by omega) (by omega)]
 unfold lim
 split <;> omega
theorem z9q {S : Type} {b : za} (hf : Fine b) {k : Nat} (hk : 100 < k) (it : Nat → S → SL Int → Option S) (L : Nat → SL Int → Int × S → Option ((Int × S) ⊕ (Int × S))) (Inv : List (List Int) → S → Prop)
  (leaf : ∀ n s (q : SL Int) T, q.1.length = nL b → q.1 ∈ Tr b → q.2 ≠ .nil → Inv T s → Ok (it (n + 1) s q) (Inv (T ++ [q.1])))
  (node : ∀ n s (q : SL Int), q.1.length < nL b → Ppl q.1 → Ok (iter (L n q) k (0, s)) (fun _ => True) → it (n + 1) s q = (iter (L n q) k (0, s)).bind fun v => some v.2)
  (hend : ∀ n s (q : SL Int) (j : Nat), q.1.length < nL b → Ppl q.1 → ¬ j < lim b q.1 → L n q ((j : Int), s) = some (.inr ((j : Int), s)))
  (hskip : ∀ n s (q : SL Int) (j : Nat), q.1.length < nL b → Ppl q.1 → j < lim b q.1 → ¬ okP b q.1 (j : Int) → L n q ((j : Int), s) = some (.inl (((j + 1 : Nat) : Int), s)))
  (hgo : ∀ n s (q : SL Int) (j : Nat), q.1.length < nL b → Ppl q.1 → j < lim b q.1 → okP b q.1 (j : Int) → L n q ((j : Int), s) = (it n s (q.1 ++ [(j : Int)], .ro)).bind fun s' => some (.inl (((j + 1 : Nat) : Int), s'))) :
  ∀ (t n : Nat) (s : S) (q : SL Int) (T : List (List Int)), q.1.length + t = nL b → t < n → Pre b q.1 → (q.2 = .nil → q.1 = []) → Inv T s → Ok (it n s q) (Inv (T ++ subs (lim b) (okP b) t q.1)) := by
 intro t
 induction t with
 | zero =>
  intro n s q T hl hn hp hc hi
  obtain ⟨n, rfl⟩ : ∃ n', n = n' + 1 := ⟨n - 1, by omega⟩
  unfold subs
  refine leaf n s q T (by omega) (zBl.2 ⟨by omega, hp⟩) (fun e => ?_) hi
  have := hf.nletters
  rw [hc e] at hl
  simp at hl
  omega
 | succ t ih =>
  intro n s q T hl hn hp hc hi
  obtain ⟨n, rfl⟩ : ∃ n', n = n' + 1 := ⟨n - 1, by omega⟩
  have hq : q.1.length < nL b := by omega
  have hppl := hp.Ppl hf (by omega)
  have hlim := zhk hf q.1
  have key : Ok (iter (L n q) k (0, s)) (fun v => Inv (T ++ subs (lim b) (okP b) (t + 1) q.1) v.2) := by
   refine Ok.count (lim b q.1) (fun j v => v.1 = (j : Int) ∧ Inv (T ++ (List.range j).flatMap fun w : Nat => (open Classical in if okP b q.1 (w : Int) then subs (lim b) (okP b) t (q.1 ++ [(w : Int)]) else [])) v.2) ?_ ?_ ⟨rfl, by simpa using hi⟩ (by omega)
   ·rintro j ⟨i, s'⟩ hj ⟨hij, hinv⟩
    obtain rfl : i = (j : Int) := hij
    rw [List.range_succ, List.flatMap_append, ← List.append_assoc]
    by_cases ho : okP b q.1 (j : Int)
    ·rw [hgo n s' q j hq hppl hj ho]
     refine (ih n s' (q.1 ++ [(j : Int)], .ro) _ (by simp; omega) (by omega) (Pre.snoc.2 ⟨hp, by omega, by omega, ho⟩) (fun e => by cases e) hinv).bind fun r hr => Ok.pure ⟨rfl, ?_⟩
     simpa [ho] using hr
    ·rw [hskip n s' q j hq hppl hj ho]
     refine Ok.pure ⟨rfl, ?_⟩
     simpa [ho] using hinv
   ·rintro ⟨i, s'⟩ ⟨hij, hinv⟩
    obtain rfl : i = (lim b q.1 : Int) := hij
    rw [hend n s' q _ hq hppl (by omega)]
    refine Ok.pure ?_
    unfold subs
    exact hinv
  rw [node n s q hq hppl (key.mono fun _ _ => trivial)]
  exact key.bind fun v hv => Ok.pure hv
theorem zfr (c : Cap) : decide (ccap c = Cap.ro) = false := by
 unfold ccap
 split <;> rfl
theorem zpr {q : List Int} (h : q.length ≤ 8) : decide (q.length + 1 ≤ LIM) = true := by
 refine decide_eq_true ?_
 show q.length + 1 ≤ 1073741824
 omega
theorem zns {k : Nat} {b : za} (hf : Fine b) (hk : 100 < k) {m : List (zm × Bool)} (hm : zam b m) (v : Int) : Ok (zxb k b v (b.Letters, b.Far, b.Apart, b.Most, m) 9 0 ([], .nil)) (fun r => r = ((Tr b).length : Int)) := by
 have h8 := hf.nletters
 have := z9q hf hk (fun n s q => zxb k b v (b.Letters, b.Far, b.Apart, b.Most, m) n s q)
  (fun n q z => zYc k b v (b.Letters, b.Far, b.Apart, b.Most, m) q (zjb q.1) (zxb k b v (b.Letters, b.Far, b.Apart, b.Most, m) n) z.1 z.2)
  (fun T s => T.length ≤ 100000000 → s = (T.length : Int)) ?_ ?_ ?_ ?_ ?_ (nL b) 9 0 ([], .nil) [] (by simp) (by omega) (fun i x hx => by simp at hx) (fun _ => rfl) (by decide)
 ·refine this.mono fun r hr => ?_
  have := zwu hf
  unfold Tr at this ⊢
  rw [List.nil_append] at hr
  exact hr (show (subs (lim b) (okP b) (nL b) []).length ≤ 100000000 by omega)
 ·intro n s q T hl _ _ hs
  show Ok (zEb _ _ _ _ _ _ _) _
  unfold zEb
  have c : ((q.1.length : Int) == (b.Letters.1.length : Int)) = true := by rw [beq_iff_eq]; rw [hl]
  simp only [c, cond_true]
  refine Ok.pure fun hT => ?_
  rw [List.length_append, List.length_singleton] at hT ⊢
  rw [hs (by omega), zGe (by omega) (by omega)]
  omega
 ·intro n s q hl hp _
  show zEb _ _ _ _ _ _ _ = _
  unfold zEb
  have hl' : q.1.length < b.Letters.1.length := hl
  have c : ((q.1.length : Int) == (b.Letters.1.length : Int)) = false := by simp; omega
  simp only [c, cond_false]
  rw [(z9j hk hp).eq, Option.bind_some]
 ·intro n s q j hl hp hj
  have c : ¬ _ := fun h => hj ((z7j hf hp j).1 h)
  simp only [zYc, c, decide_false, cond_false]
 ·intro n s q j hl hp hj ho
  have c := (z7j hf hp j).2 hj
  have hlim := zhk hf q.1
  simp only [zYc, c, decide_true, cond_true]
  obtain ⟨r, hr, hiff⟩ := zyn hf hk hm hl (j : Int)
  have e : zSe k b v (b.Letters, b.Far, b.Apart, b.Most, m) q (zjb q.1) j s (zxb k b v (b.Letters, b.Far, b.Apart, b.Most, m) n) = some r := hr
  rw [e]
  obtain rfl : r = true := hiff.2 ho
  simp only [Option.bind_some, cond_true, w8 (show j < 9 by omega)]
 ·intro n s q j hl hp hj ho
  have c := (z7j hf hp j).2 hj
  have hlim := zhk hf q.1
  simp only [zYc, c, decide_true, cond_true]
  obtain ⟨r, hr, hiff⟩ := zyn hf hk hm hl (j : Int)
  have e : zSe k b v (b.Letters, b.Far, b.Apart, b.Most, m) q (zjb q.1) j s (zxb k b v (b.Letters, b.Far, b.Apart, b.Most, m) n) = some r := hr
  rw [e]
  obtain rfl : r = false := by
   cases r with
   | false => rfl
   | true => exact absurd ho (hiff.1 rfl)
  simp only [Option.bind_some, cond_false, zfr, zpr hp.1, cond_true, w8 (show j < 9 by omega)]
theorem zur {k : Nat} {b : za} (hs : zbh b) (hk : Fuel k b) : Ok (zhb k b) (fun r => (¬ Fine b ∧ r = (0, 80)) ∨ (Fine b ∧ r = (((Tr b).length : Int), 0))) := by
 have k0 := hk.k0
 unfold zhb
 refine (z1n hs hk).bind fun e he => ?_
 rcases he with ⟨rfl, hf⟩ | ⟨rfl, hf⟩
 ·refine Ok.cond (fun h => by cases h) fun _ => ?_
  refine (zAp hs.apart hk.apart).bind fun v hv => ?_
  obtain ⟨m, rfl, hm⟩ := hv
  unfold zDb
  simp only [Option.bind_some]
  refine (zns hf (by omega) hm 0).bind fun r hr => Ok.pure (.inr ⟨hf, ?_⟩)
  rw [hr]
 ·exact Ok.cond (fun _ => Ok.pure (.inl ⟨hf, rfl⟩)) fun h => by cases h
end Go.AM
set_option linter.unusedVariables false
namespace Go.AM
open Go
def zCs (T : List (List Int)) (s : SL Int) : Prop := (T = [] ∧ s.1 = [] ∧ s.2 = .nil) ∨ (s.2 ≠ .nil ∧ s.1 ∈ T ∧ ∀ p ∈ T, zjb s.1 ≤ zjb p)
theorem zJr {k : Nat} {b : za} (hf : Fine b) (hk : 100 < k) {m : List (zm × Bool)} (hm : zam b m) (v : Int) : Ok (zlb k b v (b.Letters, b.Far, b.Apart, b.Most, m) 9 ([], .nil) ([], .nil)) (fun r => zCs (Tr b) r) := by
 have h8 := hf.nletters
 have := z9q hf hk (fun n s q => zlb k b v (b.Letters, b.Far, b.Apart, b.Most, m) n s q)
  (fun n q z => zMc k b v (b.Letters, b.Far, b.Apart, b.Most, m) q (zjb q.1) (zlb k b v (b.Letters, b.Far, b.Apart, b.Most, m) n) z.1 z.2)
  (fun T s => (∀ p ∈ T, p ∈ Tr b) ∧ zCs T s) ?_ ?_ ?_ ?_ ?_ (nL b) 9 ([], .nil) ([], .nil) [] (by simp) (by omega) (fun i x hx => by simp at hx) (fun _ => rfl) ⟨fun p hp => (by simp at hp), .inl ⟨rfl, rfl, rfl⟩⟩
 ·refine this.mono fun r hr => ?_
  rw [List.nil_append] at hr
  exact hr.2
 ·intro n s q T hl hqT hc hs
  show Ok (zwb _ _ _ _ _ _ _) _
  unfold zwb
  have c : ((q.1.length : Int) == (b.Letters.1.length : Int)) = true := by rw [beq_iff_eq]; rw [hl]
  have hq := (zBl.1 hqT).2.Ppl hf (by omega)
  simp only [c, cond_true]
  have clone : zed k q = some (q.1, .ro) := by
   unfold zed
   have c1 : decide (q.2 = .nil) = false := by simp [hc]
   have c2 : decide (q.1.length ≤ LIM) = true := by
    refine decide_eq_true ?_
    show q.1.length ≤ 1073741824
    omega
   rw [c1, c2]
   rfl
  obtain ⟨hT, hs⟩ := hs
  have hT' : ∀ p ∈ T ++ [q.1], p ∈ Tr b := fun p hp => by
   rcases List.mem_append.1 hp with hp | hp
   ·exact hT p hp
   ·rw [List.mem_singleton] at hp
    rw [hp]; exact hqT
  ·skip
   refine Ok.bind (P := fun r : Bool => r = true ↔ ∀ p ∈ T, zjb q.1 < zjb s.1) ?_ fun r hr => ?_
   ·unfold zDf
    refine Ok.cond (fun h => ?_) fun h => ?_
    ·have h : s.2 = .nil := by simpa using h
     rcases hs with ⟨rfl, _⟩ | ⟨h', _⟩
     ·exact Ok.pure ⟨fun _ p hp => (by simp at hp), fun _ => rfl⟩
     ·exact absurd h h'
    ·rcases hs with ⟨_, _, h'⟩ | ⟨_, h1, _⟩
     ·rw [h'] at h
      cases h
     ·have hsp := (zBl.1 (hT _ h1))
      unfold z7f
      rw [(z9j hk hq).eq]
      simp only [Option.bind_some]
      rw [(z9j hk (hsp.2.Ppl hf (by omega))).eq]
      refine Ok.pure ?_
      rw [decide_eq_true_eq]
      exact ⟨fun h _ _ => h, fun h => h _ h1⟩
   ·unfold zCf
    cases r with
    | true =>
     simp only [cond_true, clone, Option.bind_some]
     refine Ok.pure ⟨hT',   .inr ⟨fun e => (by cases e), List.mem_append.2 (.inr (List.mem_singleton.2 rfl)), fun p hp => ?_⟩⟩
     rcases List.mem_append.1 hp with hp | hp
     ·have h1 := hr.1 rfl p hp
      rcases hs with ⟨e, _⟩ | ⟨_, _, h2⟩
      ·rw [e] at hp; simp at hp
      ·have := h2 p hp
       show zjb q.1 ≤ _
       omega
     ·rw [List.mem_singleton] at hp
      rw [hp]
      exact Int.le_refl _
    | false =>
     simp only [cond_false, Option.bind_some]
     refine Ok.pure ⟨hT', ?_⟩
     rcases hs with ⟨e, _⟩ | ⟨h0, h1, h2⟩
     ·have := hr.2 (by rw [e]; simp)
      cases this
     ·refine .inr ⟨h0, List.mem_append.2 (.inl h1), fun p hp => ?_⟩
      rcases List.mem_append.1 hp with hp | hp
      ·exact h2 p hp
      ·rw [List.mem_singleton] at hp
       rw [hp]
       apply Classical.byContradiction
       intro hn
       have := hr.2 fun _ _ => by
        have hn : ¬ zjb s.1 ≤ zjb q.1 := hn
        omega
       cases this
 ·intro n s q hl hp _
  show zwb _ _ _ _ _ _ _ = _
  unfold zwb
  have hl' : q.1.length < b.Letters.1.length := hl
  have c : ((q.1.length : Int) == (b.Letters.1.length : Int)) = false := by simp; omega
  simp only [c, cond_false]
  rw [(z9j hk hp).eq, Option.bind_some]
 ·intro n s q j hl hp hj
  have c : ¬ _ := fun h => hj ((z7j hf hp j).1 h)
  simp only [zMc, c, decide_false, cond_false]
 ·intro n s q j hl hp hj ho
  have c := (z7j hf hp j).2 hj
  have hlim := zhk hf q.1
  simp only [zMc, c, decide_true, cond_true]
  obtain ⟨r, hr, hiff⟩ := zyn hf hk hm hl (j : Int)
  have e : zme k b v (b.Letters, b.Far, b.Apart, b.Most, m) q (zjb q.1) j s (zlb k b v (b.Letters, b.Far, b.Apart, b.Most, m) n) = some r := hr
  rw [e]
  obtain rfl : r = true := hiff.2 ho
  simp only [Option.bind_some, cond_true, w8 (show j < 9 by omega)]
 ·intro n s q j hl hp hj ho
  have c := (z7j hf hp j).2 hj
  have hlim := zhk hf q.1
  simp only [zMc, c, decide_true, cond_true]
  obtain ⟨r, hr, hiff⟩ := zyn hf hk hm hl (j : Int)
  have e : zme k b v (b.Letters, b.Far, b.Apart, b.Most, m) q (zjb q.1) j s (zlb k b v (b.Letters, b.Far, b.Apart, b.Most, m) n) = some r := hr
  rw [e]
  obtain rfl : r = false := by
   cases r with
   | false => rfl
   | true => exact absurd ho (hiff.1 rfl)
  simp only [Option.bind_some, cond_false, zfr, zpr hp.1, cond_true, w8 (show j < 9 by omega)]
theorem zht {k : Nat} {b : za} (hs : zbh b) (hk : Fuel k b) : Ok (zEe k b) (fun r => (¬ Fine b ∧ r.1.1 = [] ∧ r.2 = 80) ∨ (Fine b ∧ Tr b = [] ∧ r.1.1 = [] ∧ r.2 = 82) ∨ (Fine b ∧ r.1.1 ∈ Tr b ∧ r.2 = 0 ∧ ∀ p ∈ Tr b, zjb r.1.1 ≤ zjb p)) := by
 have k0 := hk.k0
 unfold zEe
 refine (z1n hs hk).bind fun e he => ?_
 rcases he with ⟨rfl, hf⟩ | ⟨rfl, hf⟩
 ·refine Ok.cond (fun h => by cases h) fun _ => ?_
  unfold zah
  rw [Option.bind_some]
  refine (zAp hs.apart hk.apart).bind fun v hv => ?_
  obtain ⟨m, rfl, hm⟩ := hv
  unfold zDb
  rw [Option.bind_some]
  refine (zJr hf (by omega) hm 0).bind fun r hr => ?_
  rcases hr with ⟨h1, h2, h3⟩ | ⟨h1, h2, h3⟩
  ·rw [h3]
   exact Ok.pure (.inr (.inl ⟨hf, h1, rfl, rfl⟩))
  ·have c : decide (r.2 = .nil) = false := by simp [h1]
   rw [c]
   exact Ok.pure (.inr (.inr ⟨hf, h2, rfl, h3⟩))
 ·exact Ok.cond (fun _ => Ok.pure (.inl ⟨hf, rfl, rfl⟩)) fun h => by cases h
theorem zup {k : Nat} {b : za} (hs : zbh b) (hk : Fuel k b) : Ok (z6 k b) (fun r => (¬ Fine b ∧ r = (0, 80)) ∨ (Fine b ∧ Tr b = [] ∧ r = (0, 82)) ∨ (Fine b ∧ r.2 = 0 ∧ ∃ q ∈ Tr b, r.1 = zjb q ∧ ∀ p ∈ Tr b, zjb q ≤ zjb p)) := by
 have k0 := hk.k0
 unfold z6
 refine (zht hs hk).bind fun r hr => ?_
 obtain ⟨⟨l, c⟩, e⟩ := r
 have hnil : l = [] → Ok (zBb k (l, c)) (fun r => r = 0) := by
  rintro rfl
  exact z9j (q := ([], c)) (by omega) ⟨by simp, by simp⟩
 rcases hr with ⟨h1, h2, h3⟩ | ⟨h1, h2, h3, h4⟩ | ⟨h1, h2, h3, h4⟩
 ·refine (hnil h2).bind fun r hr => Ok.pure (.inl ⟨h1, ?_⟩)
  rw [hr, h3]
 ·refine (hnil h3).bind fun r hr => Ok.pure (.inr (.inl ⟨h1, h2, ?_⟩))
  rw [hr, h4]
 ·have hq := zBl.1 h2
  refine (z9j (q := (l, c)) (by omega) (hq.2.Ppl h1 (by omega))).bind fun r hr => Ok.pure (.inr (.inr ⟨h1, h3, l, h2, hr, h4⟩))
end Go.AM
set_option linter.unusedVariables false
namespace Go.AM
open Go
theorem z3n {k : Nat} {a : Int} {n : Nat} (hn : 1 ≤ n) (hn2 : n < 9223372036854775808) : Ok (ztc k a (n : Int)) (fun r => ∃ i : Nat, r = (i : Int) ∧ i < n) := by
 unfold ztc
 have c1 : decide ((n : Int) < 1) = false := by simp; omega
 have c2 : ((n : Int) == 0) = false := by simp; omega
 rw [c1, c2, cond_false, cond_false]
 have h1 := Int.tmod_lt_of_pos a (show (0 : Int) < n by omega)
 have h2 : -(n : Int) < a.tmod n := Int.lt_tmod_of_pos a (show (0 : Int) < n by omega)
 cases hc : decide (a.tmod (n : Int) < 0) with
 | true =>
  have := of_decide_eq_true hc
  simp only [zZc, cond_true, Option.bind_some]
  refine Ok.pure ⟨(a.tmod n + n).toNat, ?_, by omega⟩
  rw [zGe (by omega) (by omega)]
  omega
 | false =>
  have := of_decide_eq_false hc
  simp only [zZc, cond_false, Option.bind_some]
  exact Ok.pure ⟨(a.tmod n).toNat, by omega, by omega⟩
theorem zpm (k : Nat) (a b c : Int) : zY k a b c = some (decide (b ≤ a) && decide (a ≤ c)) := by
 simp only [zY, zJe]
theorem zws (k : Nat) (s : zOb) (a b : Int) : zjd k s a b = some (decide (a ≤ s.Low) && (decide (s.Low ≤ s.High) && decide (s.High ≤ b))) := by
 simp only [zjd, zJe]
def zYu (b : za) : Prop := Fine b ∧ ∀ p ∈ b.Apart.1, 0 ≤ p 0 ∧ 0 ≤ p 1
theorem zgt {k : Nat} {b : za} (hs : zbh b) (hk : Fuel k b) : Ok (zwd k b) (fun r => r = true → zYu b) := by
 unfold zwd
 have c1 : ∀ {α : Type} {l : List α}, decide ((l.length : Int) < (l.length : Int)) = false := zpi
 refine Ok.bind (P := fun r => r = true → Fine b) ?_ fun r1 h1 => ?_
 ·unfold zNd
  refine (z1n hs hk).bind fun e he => ?_
  rcases he with ⟨rfl, hf⟩ | ⟨rfl, hf⟩
  ·simp only [zpm, Option.bind_some, zJe]
   exact Ok.pure fun _ => hf
  ·exact Ok.cond (fun h => by cases h) fun _ => Ok.pure fun h => by cases h
 refine Ok.bind (Ok.everyW b.Far.1 (fun r => r.1.length = b.Far.1.length ∧ ∀ n ∈ r.1, 0 ≤ n ∧ n ≤ 400) (fun j hj => ?_) (fun i => by simp [zgc, zdc]) (by simp [zgc, zdc]) hk.far) fun r2 h2 => ?_
 ·have hrow := List.getElem_mem hj
  simp only [zgc, zdc, zJd hj, cond_true, zCc hj, Option.bind_some, zKf hj hs.far]
  refine Ok.bind (Ok.everyW b.Far.1[j].1 (fun n => 0 ≤ n ∧ n ≤ 400) (fun i hi => ?_) (fun i => by simp [zfc, z2b]) (by simp [zfc, z2b, zCc hj]) (hk.rows _ hrow)) fun z hz => ?_
  ·simp only [zfc, z2b, cond_true, zCc hj, Option.bind_some, zJd hi, zCc hi, zpm, zKf hi (hs.rows _ hrow)]
   refine Ok.pure ⟨_, rfl, ?_⟩
   simp only [Bool.and_eq_true, decide_eq_true_eq]
  ·refine Ok.pure ⟨_, rfl, ?_⟩
   rw [hz, beq_iff_eq]
   constructor
   ·rintro ⟨h1, h2⟩
    exact ⟨by omega, h2⟩
   ·rintro ⟨h1, h2⟩
    exact ⟨by omega, h2⟩
 refine Ok.bind (Ok.everyW b.Letters.1 (fun x => (0 ≤ x.Day ∧ x.Day ≤ 20000) ∧ (0 ≤ x.Place ∧ x.Place ≤ (b.Far.1.length : Int) - 1) ∧ (0 ≤ x.Born.Low ∧ x.Born.Low ≤ x.Born.High ∧ x.Born.High ≤ 200)) (fun j hj => ?_) (fun i => by simp [zYb, z4b]) (by simp [zYb, z4b]) hk.letters) fun r3 h3 => ?_
 ·simp only [zYb, z4b, zJd hj, cond_true, zCc hj, Option.bind_some, zKf hj hs.letters, zrd, zpm, zws, zJe, z0o hs.far]
  refine Ok.pure ⟨_, rfl, ?_⟩
  simp only [Bool.and_eq_true, decide_eq_true_eq]
 refine Ok.bind (Ok.everyW b.Apart.1 (fun p => (0 ≤ p 0 ∧ p 0 ≤ (b.Letters.1.length : Int) - 1) ∧ (0 ≤ p 1 ∧ p 1 ≤ (b.Letters.1.length : Int) - 1)) (fun j hj => ?_) (fun i => by simp [z1b, zZb]) (by simp [z1b, zZb]) hk.apart) fun r4 h4 => ?_
 ·simp only [z1b, zZb, zJd hj, cond_true, zCc hj, Option.bind_some, zKf hj hs.apart, ztd, zpm, zJe, z0o hs.letters]
  refine Ok.pure ⟨_, rfl, ?_⟩
  simp only [Bool.and_eq_true, decide_eq_true_eq]
 refine Ok.pure fun h => ?_
 obtain ⟨h5, h6⟩ := h4.1 h
 obtain ⟨h7, _⟩ := h3.1 h5
 obtain ⟨h8, _⟩ := h2.1 h7
 exact ⟨h1 h8, fun p hp => ⟨(h6 p hp).1.1, (h6 p hp).2.1⟩⟩
structure zvh (n : Nat) (b x : za) : Prop where
 most : b.Most ≤ x.Most
 day : ∀ i, i < n → (lt x i).Day = (lt b i).Day
 dead : ∀ i, i < n → (lt x i).Dead = (lt b i).Dead
 account : ∀ i, i < n → (lt x i).Account = (lt b i).Account
 low : ∀ i, i < n → (lt x i).Born.Low ≤ (lt b i).Born.Low
 high : ∀ i, i < n → (lt b i).Born.High ≤ (lt x i).Born.High
 far : ∀ i j, i < n → j < n → farB x i j ≤ farB b i j
 apart : ∀ i j, AP x i j → AP b i j
theorem zvh.step {n : Nat} {b x : za} (h : zvh n b x) {p : List Int} {w : Int} (hp : p.length < n) (hs : zCo (lim b) (okP b) p w) : zCo (lim x) (okP x) p w := by
 obtain ⟨h1, h2, h3, h4⟩ := hs
 have hlim : lim b p ≤ lim x p := by
  have := h.most
  unfold lim
  split <;> split <;> omega
 have wr : ∀ i, zCh p w i = true → i < n := fun i hi => by
  have : p[i]? = some w := by simpa [zCh] using hi
  have := (List.getElem?_eq_some_iff.1 this).1
  omega
 have inn : ∀ i, InL (zCh p w) p.length i → i < n := fun i hi => by
  rcases hi with rfl | hi
  ·exact hp
  ·exact wr i hi.2
 refine ⟨h1, by omega, fun i y hy ha he => ?_, ?_⟩
 ·have hi : i < n := by
   have := (List.getElem?_eq_some_iff.1 hy).1
   omega
  rw [h.account i hi] at ha he
  rw [h.account _ hp] at he
  exact h3 i y hy ha he
 ·rcases h4 with h4 | ⟨g1, g2, g3, g4⟩
  ·exact .inl h4
  ·refine .inr ⟨fun i j hi hj => ?_, fun j hj => ?_, fun j hj => ?_, fun i hi hl ha => g4 i hi hl (h.apart _ _ ha)⟩
   ·have e1 := h.low i (inn i hi)
    have e2 := h.high j (inn j hj)
    have := g1 i j hi hj
    omega
   ·have hjn := wr j hj.2.1
    have e1 := h.far j p.length hjn hp
    rw [h.day _ hp, h.day _ hjn]
    exact Int.le_trans e1 (g2 j hj)
   ·rw [h.dead _ (wr j hj.2.1)]
    exact g3 j hj
theorem zvh.pre {n : Nat} {b x : za} (h : zvh n b x) {q : List Int} (hq : q.length ≤ n) (hp : Pre b q) : Pre x q := by
 intro i w hw
 have hi := (List.getElem?_eq_some_iff.1 hw).1
 exact h.step (by rw [List.length_take]; omega) (hp i w hw)
end Go.AM
set_option linter.unusedVariables false
namespace Go.AM
open Go
theorem zrs {l l' : List (List Int)} (hn : l.Nodup) (h : ∀ x ∈ l, x ∈ l') : l.length ≤ l'.length := by
 induction l generalizing l' with
 | nil => simp
 | cons x t ih =>
  obtain ⟨h1, h2⟩ := List.nodup_cons.1 hn
  have hx := h x (by simp)
  have := ih (l' := l'.erase x) h2 fun y hy => by
   have hne : y ≠ x := fun e => h1 (e ▸ hy)
   exact (List.mem_erase_of_ne hne).2 (h y (by simp [hy]))
  rw [List.length_erase_of_mem hx] at this
  have hpos := List.length_pos_of_mem hx
  simp only [List.length_cons]
  omega
theorem zvh.sub {b x : za} (h : zvh (nL b) b x) (hl : nL x = nL b) : ∀ q ∈ Tr b, q ∈ Tr x := by
 intro q hq
 obtain ⟨h1, h2⟩ := zBl.1 hq
 exact zBl.2 ⟨by omega, h.pre (by omega) h2⟩
def Bad (v9 v11 v13 v15 : Int × Int) : Option Bool :=
 cond (v9.2 != 0) (some true) (cond (v11.2 != 0) (some true) (cond (decide (v11.1 < v9.1)) (some true) (cond (!((v13.2 == 0) == (decide (v9.1 > 0)))) (some true) (some (!((v15.2 == 0) == (decide (v11.1 > 0))))))))
theorem zyh {k : Nat} {b x : za} (hs : zbh b) (hk : Fuel k b) (hx : zbh x) (hkx : Fuel k x) (hf : Fine b) (hfx : Fine x) (hsub : ∀ q ∈ Tr b, q ∈ Tr x) (bad : Int × Int → Int × Int → Int × Int → Int × Int → Option Bool) (hb : ∀ a b c d, bad a b c d = Bad a b c d) :
  Ok ((zhb k b).bind fun v9 => (zhb k x).bind fun v11 => (z6 k b).bind fun v13 => (z6 k x).bind fun v15 => (bad v9 v11 v13 v15).bind fun v17 => cond v17 (some false) (cond (v13.2 != 0) (some true) (cond (decide (v15.1 ≤ v13.1)) (some true) (some false)))) (· = true) := by
 refine (zur hs hk).bind fun v9 h9 => (zur hx hkx).bind fun v11 h11 => (zup hs hk).bind fun v13 h13 => (zup hx hkx).bind fun v15 h15 => ?_
 rcases h9 with ⟨h, _⟩ | ⟨_, rfl⟩
 ·exact absurd hf h
 rcases h11 with ⟨h, _⟩ | ⟨_, rfl⟩
 ·exact absurd hfx h
 have hlen := zrs (zut b) hsub
 rw [hb]
 have c1 : decide (((Tr x).length : Int) < ((Tr b).length : Int)) = false := by simp; omega
 simp only [Bad]
 have e15 : (v15.2 == 0) = decide (((Tr x).length : Int) > 0) := by
  rcases h15 with ⟨h, _⟩ | ⟨_, h, rfl⟩ | ⟨_, e, q, hq, _⟩
  ·exact absurd hfx h
  ·rw [h]; rfl
  ·have := List.length_pos_of_mem hq
   rw [e]
   symm
   exact decide_eq_true (by omega)
 rcases h13 with ⟨h, _⟩ | ⟨_, h, rfl⟩ | ⟨_, e, q, hq, m13, _⟩
 ·exact absurd hf h
 ·rw [e15, c1, h]
  simp only [beq_self_eq_true, Bool.not_true]
  exact Ok.pure rfl
 ·have hpos := List.length_pos_of_mem hq
  have e13 : (v13.2 == 0) = decide (((Tr b).length : Int) > 0) := by
   rw [e]
   symm
   exact decide_eq_true (by omega)
  have cle : decide (v15.1 ≤ v13.1) = true := by
   rcases h15 with ⟨h, _⟩ | ⟨_, h, _⟩ | ⟨_, _, q', hq', m15, min15⟩
   ·exact absurd hfx h
   ·have := hsub q hq
    rw [h] at this
    simp at this
   ·refine decide_eq_true ?_
    rw [m13, m15]
    exact min15 q (hsub q hq)
  rw [e15, e13, c1, cle]
  simp only [beq_self_eq_true, Bool.not_true]
  rw [e]
  exact Ok.pure rfl
theorem zSq {b : za} (hf : Fine b) {n : Int} (h1 : b.Most ≤ n) (h2 : n ≤ 8) : Fine ⟨b.Letters, b.Far, b.Apart, n⟩ ∧ zvh (nL b) b ⟨b.Letters, b.Far, b.Apart, n⟩ := by
 have e : ∀ i, lt ⟨b.Letters, b.Far, b.Apart, n⟩ i = lt b i := fun i => rfl
 have := hf.most
 refine ⟨⟨hf.nletters, hf.nfar, hf.napart, ⟨by show 1 ≤ n; omega, h2⟩, fun i hi => ?_, hf.rows, hf.apart⟩, ⟨h1, fun i _ => rfl, fun i _ => rfl, fun i _ => rfl, fun i _ => Int.le_refl _, fun i _ => Int.le_refl _, fun i j _ _ => Int.le_refl _, fun i j h => h⟩⟩
 have hl := hf.letters i hi
 cases i with
 | zero => exact hl
 | succ i => exact hl
theorem z4q {b : za} (hf : Fine b) {i : Nat} (hi : i < nL b) {c : Cap} {lo hi' : Int} (h1 : 0 ≤ lo) (h2 : lo ≤ (lt b i).Born.Low) (h3 : (lt b i).Born.High ≤ hi') (h4 : hi' ≤ 200) :
  Fine ⟨(b.Letters.1.set i ⟨(lt b i).Day, (lt b i).Place, ⟨lo, hi'⟩, (lt b i).Dead, (lt b i).Account⟩, c), b.Far, b.Apart, b.Most⟩ ∧ zvh (nL b) b ⟨(b.Letters.1.set i ⟨(lt b i).Day, (lt b i).Place, ⟨lo, hi'⟩, (lt b i).Dead, (lt b i).Account⟩, c), b.Far, b.Apart, b.Most⟩ ∧ nL ⟨(b.Letters.1.set i ⟨(lt b i).Day, (lt b i).Place, ⟨lo, hi'⟩, (lt b i).Dead, (lt b i).Account⟩, c), b.Far, b.Apart, b.Most⟩ = nL b := by
 generalize hx : (⟨(b.Letters.1.set i ⟨(lt b i).Day, (lt b i).Place, ⟨lo, hi'⟩, (lt b i).Dead, (lt b i).Account⟩, c), b.Far, b.Apart, b.Most⟩ : za) = x
 have hn : nL x = nL b := by rw [← hx]; simp [nL]
 have ef : x.Far = b.Far := by rw [← hx]
 have ea : x.Apart = b.Apart := by rw [← hx]
 have em : x.Most = b.Most := by rw [← hx]
 have e1 : lt x i = ⟨(lt b i).Day, (lt b i).Place, ⟨lo, hi'⟩, (lt b i).Dead, (lt b i).Account⟩ := by
  rw [← hx]
  unfold lt
  rw [List.getElem?_set_self hi]
  rfl
 have e2 : ∀ j, j ≠ i → lt x j = lt b j := fun j hj => by
  rw [← hx]
  unfold lt
  rw [List.getElem?_set_ne (by omega)]
 have day : ∀ j, (lt x j).Day = (lt b j).Day := fun j => by
  by_cases e : j = i
  ·subst e; rw [e1]
  ·rw [e2 j e]
 have place : ∀ j, (lt x j).Place = (lt b j).Place := fun j => by
  by_cases e : j = i
  ·subst e; rw [e1]
  ·rw [e2 j e]
 have dayb : ∀ j, dayB x j = dayB b j := fun j => by
  cases j with
  | zero => rfl
  | succ j => exact day j
 refine ⟨⟨by rw [hn]; exact hf.nletters, by rw [ef]; exact hf.nfar, by rw [ea]; exact hf.napart, by rw [em]; exact hf.most, fun j hj => ?_, ?_, ?_⟩, ⟨by rw [em]; exact Int.le_refl _, fun j _ => day j, fun j _ => ?_, fun j _ => ?_, fun j _ => ?_, fun j _ => ?_, fun j l _ _ => ?_, fun j l => ?_⟩, hn⟩
 ·rw [hn] at hj
  obtain ⟨g1, g2, g3, g4, g5⟩ := hf.letters j hj
  unfold zch
  rw [dayb, day, place, ef]
  by_cases e : j = i
  ·subst e
   rw [e1]
   refine ⟨g1, g2, ⟨h1, ?_⟩, h4, g5⟩
   show lo ≤ hi'
   omega
  ·rw [e2 j e]
   exact ⟨g1, g2, g3, g4, g5⟩
 ·have := hf.rows
  unfold zxl at this ⊢
  rw [ef]
  exact this
 ·have := hf.apart
  unfold zUh at this ⊢
  rw [ea, hn]
  exact this
 ·by_cases e : j = i
  ·subst e; rw [e1]
  ·rw [e2 j e]
 ·by_cases e : j = i
  ·subst e; rw [e1]
  ·rw [e2 j e]
 ·by_cases e : j = i
  ·subst e; rw [e1]; exact h2
  ·rw [e2 j e]; exact Int.le_refl _
 ·by_cases e : j = i
  ·subst e; rw [e1]; exact h3
  ·rw [e2 j e]; exact Int.le_refl _
 ·unfold farB
  rw [place, place, ef]
  exact Int.le_refl _
 ·unfold AP
  rw [ea]
  exact id
theorem zNr {b : za} (hf : Fine b) {far : SL (SL Int)} (hn : far.1.length = b.Far.1.length) (hr : ∀ i (h : i < far.1.length) (h' : i < b.Far.1.length), far.1[i].1.length = b.Far.1[i].1.length ∧ ∀ j (g : j < far.1[i].1.length) (g' : j < b.Far.1[i].1.length), 0 ≤ far.1[i].1[j] ∧ far.1[i].1[j] ≤ b.Far.1[i].1[j]) :
  Fine ⟨b.Letters, far, b.Apart, b.Most⟩ ∧ zvh (nL b) b ⟨b.Letters, far, b.Apart, b.Most⟩ := by
 refine ⟨⟨hf.nletters, by show 1 ≤ far.1.length ∧ far.1.length ≤ 6; rw [hn]; exact hf.nfar, hf.napart, hf.most, fun i hi => ?_, fun i hi => ?_, hf.apart⟩, ⟨Int.le_refl _, fun i _ => rfl, fun i _ => rfl, fun i _ => rfl, fun i _ => Int.le_refl _, fun i _ => Int.le_refl _, fun i j hi hj => ?_, fun i j h => h⟩⟩
 ·have hl := hf.letters i hi
  unfold zch at hl ⊢
  show _ ∧ (_ ∧ _ ≤ (far.1.length : Int) - 1) ∧ _
  rw [hn]
  cases i with
  | zero => exact hl
  | succ i => exact hl
 ·have hi : i < far.1.length := hi
  have hi' : i < b.Far.1.length := by omega
  obtain ⟨g1, g2⟩ := hf.rows i hi'
  obtain ⟨r1, r2⟩ := hr i hi hi'
  refine ⟨?_, fun j hj => ?_⟩
  ·show far.1[i].1.length = far.1.length
   omega
  ·have hj : j < far.1[i].1.length := hj
   have hj' : j < b.Far.1[i].1.length := by omega
   obtain ⟨s1, s2⟩ := g2 j hj'
   obtain ⟨t1, t2⟩ := r2 j hj hj'
   show (0 ≤ far.1[i].1[j] ∧ far.1[i].1[j] ≤ 400) ∧ (i ≠ j ∨ far.1[i].1[j] = 0)
   refine ⟨⟨t1, by omega⟩, s2.imp id fun e => by omega⟩
 ·obtain ⟨_, p1, _⟩ := hf.letters i hi
  obtain ⟨_, p2, _⟩ := hf.letters j hj
  have h1 : (lt b i).Place.toNat < b.Far.1.length := by omega
  have h1' : (lt b i).Place.toNat < far.1.length := by omega
  obtain ⟨hl, _⟩ := hf.rows _ h1
  obtain ⟨r1, r2⟩ := hr _ h1' h1
  have h2 : (lt b j).Place.toNat < b.Far.1[(lt b i).Place.toNat].1.length := by omega
  have h2' : (lt b j).Place.toNat < far.1[(lt b i).Place.toNat].1.length := by omega
  unfold farB
  show ((far.1[(lt b i).Place.toNat]?.getD ([], .nil)).1[(lt b j).Place.toNat]?).getD 0 ≤ _
  rw [List.getElem?_eq_getElem h1, List.getElem?_eq_getElem h1', Option.getD_some, Option.getD_some, List.getElem?_eq_getElem h2, List.getElem?_eq_getElem h2', Option.getD_some, Option.getD_some]
  exact (r2 _ h2' h2).2
theorem zdq {b : za} (hf : Fine b) (c : Cap) : Fine ⟨b.Letters, b.Far, (b.Apart.1.drop 1, c), b.Most⟩ ∧ zvh (nL b) b ⟨b.Letters, b.Far, (b.Apart.1.drop 1, c), b.Most⟩ := by
 refine ⟨⟨hf.nletters, hf.nfar, ?_, hf.most, fun i hi => ?_, hf.rows, fun i hi => ?_⟩, ⟨Int.le_refl _, fun i _ => rfl, fun i _ => rfl, fun i _ => rfl, fun i _ => Int.le_refl _, fun i _ => Int.le_refl _, fun i j _ _ => Int.le_refl _, fun i j h => ?_⟩⟩
 ·show (b.Apart.1.drop 1).length ≤ 8
  have := hf.napart
  rw [List.length_drop]
  omega
 ·have hl := hf.letters i hi
  cases i with
  | zero => exact hl
  | succ i => exact hl
 ·have hi : i < (b.Apart.1.drop 1).length := hi
  rw [List.length_drop] at hi
  have h1 : i + 1 < b.Apart.1.length := by omega
  obtain ⟨g1, g2, g3⟩ := hf.apart (i + 1) h1
  have e : (b.Apart.1.drop 1)[i]'(by rw [List.length_drop]; omega) = b.Apart.1[i + 1] := by
   rw [List.getElem_drop]
   congr 1
   omega
  show zUh _ i ((b.Apart.1.drop 1)[i]'_)
  rw [e]
  refine ⟨g1, g2, fun q hq => g3 q ?_⟩
  have hq : q ∈ (b.Apart.1.drop 1).take i := hq
  rw [List.take_drop] at hq
  have := List.mem_of_mem_drop hq
  rwa [Nat.add_comm] at this
 ·obtain ⟨p, hp, h⟩ := h
  exact ⟨p, List.mem_of_mem_drop (show p ∈ b.Apart.1.drop 1 from hp), h⟩
end Go.AM
set_option linter.unusedVariables false
namespace Go.AM
open Go
theorem zaq {n : Nat} (h : n ≤ 100) : decide (n + 1 ≤ LIM) = true := by
 refine decide_eq_true ?_
 show n + 1 ≤ 1073741824
 omega
def zFr (r r' : List Int) : Prop := r.length = r'.length ∧ ∀ j (g : j < r.length) (g' : j < r'.length), 0 ≤ r[j] ∧ r[j] ≤ r'[j]
def zXt (l l' : List (SL Int)) : Prop := ∀ i (h : i < l.length) (h' : i < l'.length), zFr l[i].1 l'[i].1
def zEu (j : Nat) (r r' : List Int) : Prop := r.length = j ∧ ∀ j (g : j < r.length) (g' : j < r'.length), 0 ≤ r[j] ∧ r[j] ≤ r'[j]
theorem zvt {k : Nat} {b : za} (hf : Fine b) (hk : 100 < k) (p1 : Nat → Int) (y : Nat) (hy : y < 20) (v6 : Int) :
  Ok (iter (fun s => zbb k b p1 y v6 s.1 s.2) k (0, ([] : List (SL Int)))) (fun r => r.2.length = b.Far.1.length ∧ zXt r.2 b.Far.1) := by
 have hnf := hf.nfar
 refine Ok.count b.Far.1.length (fun n s => s.1 = (n : Int) ∧ s.2.length = n ∧ zXt s.2 b.Far.1) ?_ ?_ ⟨rfl, rfl, fun i h => by simp at h⟩ (by omega)
 ·rintro n ⟨i, l⟩ hn ⟨hi, hl, hrow⟩
  obtain rfl : i = (n : Int) := hi
  have hl : l.length = n := hl
  obtain ⟨r1, r2⟩ := hf.rows n hn
  simp only [zbb, zJd hn, cond_true, w8 (show n < 9 by omega)]
  refine Ok.bind (Ok.count b.Far.1[n].1.length (fun j s => s.1 = (j : Int) ∧ zEu j s.2 b.Far.1[n].1) (Q := fun s => zFr s.2 b.Far.1[n].1) ?_ ?_ ⟨rfl, rfl, fun i g => by simp at g⟩ (by omega)) fun z hz => ?_
  ·rintro j ⟨i, t⟩ hj ⟨hi, ht, hg⟩
   obtain rfl : i = (j : Int) := hi
   have ht : t.length = j := ht
   obtain ⟨s1, _⟩ := r2 j hj
   have c : decide (t.length + 1 ≤ LIM) = true := zaq (by omega)
   simp only [zzb, zCc hn, Option.bind_some, zJd hj, cond_true, zCc hj, c, w8 (show j < 9 by omega)]
   rw [zGe (by omega) (by omega)]
   refine Ok.pure ⟨rfl, ?_, fun i g g' => ?_⟩
   ·show (t ++ [_]).length = _
    simp [ht]
   ·show 0 ≤ (t ++ [_])[i] ∧ (t ++ [_])[i] ≤ _
    by_cases e : i < t.length
    ·rw [List.getElem_append_left e]
     exact hg i e g'
    ·have g : i < (t ++ [if b.Far.1[n].1[j] - (y : Int) > 0 then b.Far.1[n].1[j] - (y : Int) else 0]).length := g
     rw [List.length_append, List.length_singleton] at g
     obtain rfl : i = j := by omega
     rw [List.getElem_append_right (by omega)]
     simp only [ht, Nat.sub_self, List.getElem_cons_zero]
     split <;> omega
  ·rintro ⟨i, t⟩ ⟨hi, ht, hg⟩
   obtain rfl : i = (b.Far.1[n].1.length : Int) := hi
   simp only [zzb, zCc hn, Option.bind_some, zpi, cond_false]
   exact Ok.pure ⟨ht, hg⟩
  ·have c : decide (l.length + 1 ≤ LIM) = true := zaq (by omega)
   rw [c, cond_true]
   refine Ok.pure ⟨rfl, ?_, fun i g g' => ?_⟩
   ·show (l ++ [_]).length = _
    simp [hl]
   ·show zFr ((l ++ [(z.2, rcap true z.2)])[i]'g).1 _
    by_cases e : i < l.length
    ·have e' : (l ++ [(z.2, rcap true z.2)])[i]'g = l[i] := List.getElem_append_left e
     rw [e']
     exact hrow i e g'
    ·have g1 : i < (l ++ [(z.2, rcap true z.2)]).length := g
     rw [List.length_append, List.length_singleton] at g1
     obtain rfl : i = n := by omega
     have e' : (l ++ [(z.2, rcap true z.2)])[i]'g = (z.2, rcap true z.2) := by
      rw [List.getElem_append_right (by omega)]
      simp [hl]
     rw [e']
     exact hz
 ·rintro ⟨i, l⟩ ⟨hi, hl, hrow⟩
  obtain rfl : i = (b.Far.1.length : Int) := hi
  simp only [zbb, zpi, cond_false]
  exact Ok.pure ⟨hl, hrow⟩
theorem zFn {k : Nat} {b : za} (hs : zbh b) (hk : Fuel k b) (hsg : zQ k = some true) (n : Nat → Int) : znb k b n = some true := by
 refine Ok.eq ?_
 have k0 := hk.k0
 unfold znb
 rw [hsg]
 simp only [Option.bind_some]
 refine (zgt hs hk).bind fun r hr => Ok.cond (fun _ => Ok.pure rfl) fun h => ?_
 obtain ⟨hf, hap⟩ := hr (by simpa using h)
 have hl := hf.nletters
 have hl' : b.Letters.1.length ≤ 8 := hl.2
 have hmost := hf.most
 refine (z3n (n := 20) (by omega) (by omega)).bind fun y hy => ?_
 obtain ⟨y, rfl, hy⟩ := hy
 refine (z3n (n := 4) (by omega) (by omega)).bind fun v6 h6 => ?_
 refine Ok.cond (fun _ => ?_) fun _ => Ok.cond (fun _ => ?_) fun _ => Ok.cond (fun _ => ?_) fun _ => ?_
 ·have hm : ∃ m, (if w64 (b.Most + (y : Int)) < 8 then w64 (b.Most + (y : Int)) else 8) = m ∧ b.Most ≤ m ∧ m ≤ 8 := by
   refine ⟨_, rfl, ?_⟩
   rw [zGe (by omega) (by omega)]
   split <;> omega
  obtain ⟨m, em, m1, m2⟩ := hm
  rw [em]
  obtain ⟨hfx, he⟩ := zSq hf m1 m2
  exact zyh (x := ⟨b.Letters, b.Far, b.Apart, m⟩) hs hk ⟨hs.letters, hs.far, hs.rows, hs.apart⟩ ⟨hk.k0, hk.letters, hk.far, hk.rows, hk.apart⟩ hf hfx (he.sub rfl) (zcc k b n y v6) fun a b c d => rfl
 ·refine Ok.bind (z3n (n := nL b) (by omega) (by omega)) fun i hi => ?_
  obtain ⟨i, rfl, hi⟩ := hi
  rw [zgh hi]
  simp only [Option.bind_some]
  obtain ⟨_, _, b1, b2, _⟩ := hf.letters i hi
  unfold zOe
  have c1 : decide (b.Letters.1.length ≤ LIM) = true := decide_eq_true (show b.Letters.1.length ≤ 1073741824 by omega)
  simp only [Option.bind_some, c1, cond_true, Int.toNat_natCast]
  have hlo : ∃ m, (if w64 ((lt b i).Born.Low - (y : Int)) > 0 then w64 ((lt b i).Born.Low - (y : Int)) else 0) = m ∧ 0 ≤ m ∧ m ≤ (lt b i).Born.Low := by
   refine ⟨_, rfl, ?_⟩
   rw [zGe (by omega) (by omega)]
   split <;> omega
  have hhi : ∃ m, (if w64 ((lt b i).Born.High + (y : Int)) < 200 then w64 ((lt b i).Born.High + (y : Int)) else 200) = m ∧ (lt b i).Born.High ≤ m ∧ m ≤ 200 := by
   refine ⟨_, rfl, ?_⟩
   rw [zGe (by omega) (by omega)]
   split <;> omega
  obtain ⟨lo, elo, l1, l2⟩ := hlo
  obtain ⟨hi', ehi, g1, g2⟩ := hhi
  rw [elo, ehi]
  obtain ⟨hfx, he, hn⟩ := z4q hf hi (c := rcap false (b.Letters.1.set i ⟨(lt b i).Day, (lt b i).Place, ⟨lo, hi'⟩, (lt b i).Dead, (lt b i).Account⟩)) l1 l2 g1 g2
  have hx : zbh ⟨(b.Letters.1.set i ⟨(lt b i).Day, (lt b i).Place, ⟨lo, hi'⟩, (lt b i).Dead, (lt b i).Account⟩, rcap false (b.Letters.1.set i ⟨(lt b i).Day, (lt b i).Place, ⟨lo, hi'⟩, (lt b i).Dead, (lt b i).Account⟩)), b.Far, b.Apart, b.Most⟩ := ⟨by rw [hn]; exact hs.letters, hs.far, hs.rows, hs.apart⟩
  have hkx : Fuel k ⟨(b.Letters.1.set i ⟨(lt b i).Day, (lt b i).Place, ⟨lo, hi'⟩, (lt b i).Dead, (lt b i).Account⟩, rcap false (b.Letters.1.set i ⟨(lt b i).Day, (lt b i).Place, ⟨lo, hi'⟩, (lt b i).Dead, (lt b i).Account⟩)), b.Far, b.Apart, b.Most⟩ := ⟨hk.k0, by rw [hn]; exact hk.letters, hk.far, hk.rows, hk.apart⟩
  exact zyh hs hk hx hkx hf hfx (he.sub hn) (z5b k b n y v6 i (lt b i) ⟨lo, hi'⟩) fun a b c d => rfl
 ·refine (zvt hf (by omega) n y hy v6).bind fun r hr => ?_
  obtain ⟨hn, hrow⟩ := hr
  obtain ⟨hfx, he⟩ := zNr hf (far := (r.2, rcap true r.2)) hn hrow
  have hnf := hf.nfar
  have hrl : ∀ t ∈ r.2, t.1.length ≤ 6 := fun t ht => by
   obtain ⟨i, hi, rfl⟩ := List.getElem_of_mem ht
   have h1 := (hrow i hi (by omega)).1
   have h2 := (hf.rows i (by omega)).1
   omega
  refine zyh (x := ⟨b.Letters, (r.2, rcap true r.2), b.Apart, b.Most⟩) hs hk ⟨hs.letters, show r.2.length < _ by omega, fun t ht => ?_, hs.apart⟩ ⟨hk.k0, hk.letters, show r.2.length < k by omega, fun t ht => ?_, hk.apart⟩ hf hfx (he.sub rfl) (zac k b n y v6 r) fun a b c d => rfl
  ·have := hrl t ht
   omega
  ·have := hrl t ht
   omega
 ·have hna := hf.napart
  refine Ok.bind (P := fun r : Bool × SL (Nat → Int) => r.2 = b.Apart ∨ ∃ c, r.2 = (b.Apart.1.drop 1, c)) ?_ fun r hr => ?_
  ·unfold zbc
   refine Ok.cond (fun h => ?_) fun _ => Ok.pure (.inl rfl)
   have h : (b.Apart.1.length : Int) > 0 := of_decide_eq_true h
   have c : (decide (0 ≤ (1 : Int)) && decide ((1 : Int) ≤ (b.Apart.1.length : Int))) = true := by simp; omega
   rw [c, cond_true]
   exact Ok.pure (.inr ⟨_, rfl⟩)
  ·rcases hr with hr | ⟨c, hr⟩
   ·have e : (⟨b.Letters, b.Far, r.2, b.Most⟩ : za) = b := by rw [hr]
    rw [e]
    exact zyh hs hk hs hk hf hf (fun q h => h) (zsb k b n y v6 r) fun a b c d => rfl
   ·obtain ⟨hfx, he⟩ := zdq hf c
    rw [hr]
    have hdl : (b.Apart.1.drop 1).length ≤ 8 := by rw [List.length_drop]; omega
    exact zyh (x := ⟨b.Letters, b.Far, (b.Apart.1.drop 1, c), b.Most⟩) hs hk ⟨hs.letters, hs.far, hs.rows, show (b.Apart.1.drop 1).length < _ by omega⟩ ⟨hk.k0, hk.letters, hk.far, hk.rows, show (b.Apart.1.drop 1).length < k by omega⟩ hf hfx (he.sub rfl) (zsb k b n y v6 r) fun a b c d => rfl
end Go.AM
set_option linter.unusedVariables false
namespace Go.AM
open Go
def zyi (x : zOb) : Prop := (-9223372036854775808 ≤ x.Low ∧ x.Low ≤ 9223372036854775807) ∧ (-9223372036854775808 ≤ x.High ∧ x.High ≤ 9223372036854775807) ∧ True
def zMd (x : zi) : Prop := (-9223372036854775808 ≤ x.Day ∧ x.Day ≤ 9223372036854775807) ∧ (-9223372036854775808 ≤ x.Place ∧ x.Place ≤ 9223372036854775807) ∧ zyi x.Born ∧ True ∧ (-9223372036854775808 ≤ x.Account ∧ x.Account ≤ 9223372036854775807) ∧ True
def zHc (x : za) : Prop := z8g (fun (a : zi) => zMd a) x.Letters ∧ z8g (fun (a : (SL Int)) => z8g (fun (a : Int) => (-9223372036854775808 ≤ a ∧ a ≤ 9223372036854775807)) a) x.Far ∧ z8g (fun (a : (Nat → Int)) => (∀ k, k < 2 → -9223372036854775808 ≤ a k ∧ a k ≤ 9223372036854775807)) x.Apart ∧ (-9223372036854775808 ≤ x.Most ∧ x.Most ≤ 9223372036854775807) ∧ True
end Go.AM
set_option linter.unusedVariables false
namespace Go.AM
open Go
theorem z0q (k : Nat) : zQ (k + 300) = some true := by kernel_rfl
end Go.AM
set_option linter.unusedVariables false
namespace Go.AM
open Go
theorem zKr {b : za} (h : zHc b) : zbh b := by
 obtain ⟨h1, h2, h3, _⟩ := h
 have e : maxLen = 9223372036854775807 := by decide
 have l1 := h1.2.2
 have l2 := h2.2.2
 have l3 := h3.2.2
 rw [e] at l1 l2 l3
 refine ⟨show b.Letters.1.length < _ by omega, by omega, fun r hr => ?_, by omega⟩
 have := (h2.1 r hr).2.2
 rw [e] at this
 omega
def zDs (b : za) : Nat := 500000 + b.Letters.1.length + b.Far.1.length + b.Apart.1.length + (b.Far.1.map fun r => r.1.length).sum
theorem zuu {l : List Nat} {n : Nat} : n ∈ l → n ≤ l.sum := by
 induction l with
 | nil => intro h; simp at h
 | cons x t ih =>
  intro h
  rw [List.sum_cons]
  rcases List.mem_cons.1 h with rfl | h
  ·omega
  ·have := ih h
   omega
theorem zru (b : za) : Fuel (zDs b + 300) b := by
 unfold zDs
 refine ⟨by omega, show b.Letters.1.length < _ by omega, by omega, fun r hr => ?_, by omega⟩
 have := zuu (List.mem_map.2 ⟨r, hr, rfl⟩ : r.1.length ∈ b.Far.1.map fun r => r.1.length)
 omega
end Go.AM
set_option linter.unusedVariables false
namespace Go.AM
open Go
theorem zgs (b : za) (n : Nat → Int) (hb : zHc b) (hn : ∀ k, k < 3 → -9223372036854775808 ≤ n k ∧ n k ≤ 9223372036854775807) : ∃ k, znb k b n = some true :=
 ⟨_, zFn (zKr hb) (zru b) (z0q _) n⟩
end Go.AM
