/- Contracts of deals, as the model makes them. Their conditions stand in each. -/
import Derived.Test.YteaahdakammffaaZ10Ut
import Derived.Test.YteaahdakammffaaZ1Ut
import Derived.Test.YteaahdakammffaaZ2Ut
import Derived.Test.YteaahdakammffaaZ3Ut
import Derived.Test.YteaahdakammffaaZ4Ut
import Derived.Test.YteaahdakammffaaZ6Ut
import Derived.Test.YteaahdakammffaaRows
import Derived.Test.YteaahdakammffaaZ5Ut
namespace Go.Proofs.Yteaahdakammffaa
open Go Go.RowKit V
set_option linter.unusedVariables false
set_option linter.unusedSimpArgs false
set_option maxRecDepth 100000
theorem bsl110_8 (v0 v1 v2 v3 v4 v5 v6 v7 v8 v9 v10 v11 v12 v13 v14 v15 v16 v17 v18 v19 v20 v21 v22 v23 v24 v25 v26 v27 v28 v29 v30 v31 v32 v33 v34 v35 v36 v37 v38 v39 v40 v41 v42 v43 v44 v45 v46 v47 : Value) (h0 : v0.cells = #[v0]) (h1 : v1.cells = #[v1]) (h2 : v2.cells = #[v2]) (h3 : v3.cells = #[v3]) (h4 : v4.cells = #[v4]) (h5 : v5.cells = #[v5]) (h6 : v6.cells = #[v6]) (h7 : v7.cells = #[v7]) (h8 : v8.cells = #[v8]) (h9 : v9.cells = #[v9]) (h10 : v10.cells = #[v10]) (h11 : v11.cells = #[v11]) (h12 : v12.cells = #[v12]) (h13 : v13.cells = #[v13]) (h14 : v14.cells = #[v14]) (h15 : v15.cells = #[v15]) (h16 : v16.cells = #[v16]) (h17 : v17.cells = #[v17]) (h18 : v18.cells = #[v18]) (h19 : v19.cells = #[v19]) (h20 : v20.cells = #[v20]) (h21 : v21.cells = #[v21]) (h22 : v22.cells = #[v22]) (h23 : v23.cells = #[v23]) (h24 : v24.cells = #[v24]) (h25 : v25.cells = #[v25]) (h26 : v26.cells = #[v26]) (h27 : v27.cells = #[v27]) (h28 : v28.cells = #[v28]) (h29 : v29.cells = #[v29]) (h30 : v30.cells = #[v30]) (h31 : v31.cells = #[v31]) (h32 : v32.cells = #[v32]) (h33 : v33.cells = #[v33]) (h34 : v34.cells = #[v34]) (h35 : v35.cells = #[v35]) (h36 : v36.cells = #[v36]) (h37 : v37.cells = #[v37]) (h38 : v38.cells = #[v38]) (h39 : v39.cells = #[v39]) (h40 : v40.cells = #[v40]) (h41 : v41.cells = #[v41]) (h42 : v42.cells = #[v42]) (h43 : v43.cells = #[v43]) (h44 : v44.cells = #[v44]) (h45 : v45.cells = #[v45]) (h46 : v46.cells = #[v46]) (h47 : v47.cells = #[v47]) : ∀ w, (Instr.buildSlice 110 8 ([(0, .agg #[v0, v1, v2, v3, v4, v5]), (1, .agg #[v6, v7, v8, v9, v10, v11]), (2, .agg #[v12, v13, v14, v15, v16, v17]), (3, .agg #[v18, v19, v20, v21, v22, v23]), (4, .agg #[v24, v25, v26, v27, v28, v29]), (5, .agg #[v30, v31, v32, v33, v34, v35]), (6, .agg #[v36, v37, v38, v39, v40, v41]), (7, .agg #[v42, v43, v44, v45, v46, v47])] : List (Nat × Value)).toArray).run Try.prog w = .ok (.slice (some ⟨w.heap.size, 0, none⟩) 8 8) (w.alloc (.cells ([v0, v1, v2, v3, v4, v5, v6, v7, v8, v9, v10, v11, v12, v13, v14, v15, v16, v17, v18, v19, v20, v21, v22, v23, v24, v25, v26, v27, v28, v29, v30, v31, v32, v33, v34, v35, v36, v37, v38, v39, v40, v41, v42, v43, v44, v45, v46, v47] : List Value).toArray 109)) := by
 intro w; simp [Instr.buildSlice, Instr.fill, Try.zeroValue109, Try.runUnderlying110, Try.sizeOf109, aggCells, newRow, show Array.range 48 = #[0, 1, 2, 3, 4, 5, 6, 7, 8, 9, 10, 11, 12, 13, 14, 15, 16, 17, 18, 19, 20, 21, 22, 23, 24, 25, 26, 27, 28, 29, 30, 31, 32, 33, 34, 35, 36, 37, 38, 39, 40, 41, 42, 43, 44, 45, 46, 47] from by decide]
theorem el110 : Elt Try.prog 110 6 := ⟨109, Try.runUnderlying110, Try.sizeOf109⟩
theorem bld109_0_1_2_3_4 (v0 v1 v2 v3 v4 : Value) (h0 : v0.cells = #[v0]) (h1 : v1.cells = #[v1]) (h2 : v2.cells = #[v2]) (h3 : v3.cells = #[v3]) (h4 : v4.cells = #[v4]) : ∀ w, (Instr.build 109 ([(0, v0), (1, v1), (2, v2), (3, v3), (4, v4)] : List (Nat × Value)).toArray).run Try.prog w = .ok (.agg ([v0, v1, v2, v3, v4, .int .i64 0] : List Value).toArray) w := by
 intro w; simp [Instr.build, Instr.fill, Try.zeroValue109, Try.runUnderlying109, aggCells, Try.sizeOf2, Try.sizeOf4, h0, h1, h2, h3, h4]
theorem bld109_0_1_2_4 (v0 v1 v2 v4 : Value) (h0 : v0.cells = #[v0]) (h1 : v1.cells = #[v1]) (h2 : v2.cells = #[v2]) (h4 : v4.cells = #[v4]) : ∀ w, (Instr.build 109 ([(0, v0), (1, v1), (2, v2), (4, v4)] : List (Nat × Value)).toArray).run Try.prog w = .ok (.agg ([v0, v1, v2, .int .i64 0, v4, .int .i64 0] : List Value).toArray) w := by
 intro w; simp [Instr.build, Instr.fill, Try.zeroValue109, Try.runUnderlying109, aggCells, Try.sizeOf2, Try.sizeOf4, h0, h1, h2, h4]
theorem bld109_0_1_2_4_5 (v0 v1 v2 v4 v5 : Value) (h0 : v0.cells = #[v0]) (h1 : v1.cells = #[v1]) (h2 : v2.cells = #[v2]) (h4 : v4.cells = #[v4]) (h5 : v5.cells = #[v5]) : ∀ w, (Instr.build 109 ([(0, v0), (1, v1), (2, v2), (4, v4), (5, v5)] : List (Nat × Value)).toArray).run Try.prog w = .ok (.agg ([v0, v1, v2, .int .i64 0, v4, v5] : List Value).toArray) w := by
 intro w; simp [Instr.build, Instr.fill, Try.zeroValue109, Try.runUnderlying109, aggCells, Try.sizeOf2, Try.sizeOf4, h0, h1, h2, h4, h5]
theorem bld109_0_1_2_5 (v0 v1 v2 v5 : Value) (h0 : v0.cells = #[v0]) (h1 : v1.cells = #[v1]) (h2 : v2.cells = #[v2]) (h5 : v5.cells = #[v5]) : ∀ w, (Instr.build 109 ([(0, v0), (1, v1), (2, v2), (5, v5)] : List (Nat × Value)).toArray).run Try.prog w = .ok (.agg ([v0, v1, v2, .int .i64 0, .bool false, v5] : List Value).toArray) w := by
 intro w; simp [Instr.build, Instr.fill, Try.zeroValue109, Try.runUnderlying109, aggCells, Try.sizeOf2, Try.sizeOf4, h0, h1, h2, h5]
theorem spec_l14Variant_c (vn : Int) (w : World) :
  Calls Try.prog 105 #[.int .i64 vn] w (Ret fun v w' => v = .bool (decide (0 ≤ vn ∧ vn ≤ 2)) ∧ Ext w w') := by
 refine fn (M := none_) (rs := [.tmp 2]) Try.func105 rfl Try.ntmps105 rfl rfl (Sep.start _ _) ?_
 refine hSeq ?_
 refine hReg (sq 0 sz) (by kernel_rfl) ?_
 refine asB rfl rfl rfl ?_
 refine rNil ?_
 refine qSeq rfl ?_
 refine hSeq ?_
 refine hReg (sq 0 (sl 1 (sq 2 sz))) (by kernel_rfl) ?_
 refine mvI rfl rfl rfl ?_
 refine callP (v := .bool (decide ((0 : Int) ≤ vn ∧ vn ≤ (2 : Int)))) Try.call88 trv rfl rfl (fun w hs => spec_l01In_c _ _ _ w ) ?_
 refine asB rfl rfl rfl ?_
 refine rNil ?_
 refine qSeq rfl ?_
 refine hRet ?_
 exact fun w hs => ⟨[.bool (decide ((0 : Int) ≤ vn ∧ vn ≤ (2 : Int)))], ⟨rfl, trivial⟩, ⟨by first | rfl | exact bD (by omega) | exact bT (by omega) | exact bF (by omega) | exact vI (by omega), hs.upd⟩⟩
theorem spec_l01Own_c (az : Option Addr) (nz : Nat) (cz : Nat) (z : List Int) (w : World) (rz : RdI az nz z w) (hl : nz ≤ 1000000) :
  Calls Try.prog 71 #[.slice az nz cz] w (Ret fun v w' => ∃ x : Option Addr × Nat × Nat × List Int, v = .slice x.1 x.2.1 x.2.2.1 ∧ (x.2.2.2 = z) ∧ Sep w none_ [OwnI 2 x.1 x.2.1 x.2.2.1 x.2.2.2] w') := by
 have kz : Kn w none_ [] (RdI az nz z) := fun w' hs => rz.ext hs.upd
 have lz : z.length = nz := rz.1
 have mz : nz ≤ 9223372036854775807 := rz.2.1
 refine fn (M := none_) (rs := [.tmp 2]) Try.func71 rfl Try.ntmps71 rfl rfl (Sep.start _ _) ?_
 refine hSeq ?_
 refine hReg (sq 0 sz) (by kernel_rfl) ?_
 refine asS rfl rfl rfl ?_
 refine rNil ?_
 refine qSeq rfl ?_
 refine hSeq ?_
 refine hReg (sl 0 (sq 1 (sl 2 (sq 3 sz)))) (by kernel_rfl) ?_
 refine bsl trv1 rfl rfl rfl (bsl23_0) (fun bkl1 hbkl1 => ?_)
 refine mvS rfl rfl rfl ?_
 refine rPieces (fun _ h => Sep.litI h 0 [] rfl rfl rfl) ?_
 refine aplL (N := 0) (ys := z) 0 rfl (Kn.drop (k := 1) kz) mk23 trv1 rfl rfl rfl rfl (by omega) ?_
 intro aq1 cq1
 refine asS rfl rfl rfl ?_
 refine rNil ?_
 refine qSeq rfl ?_
 refine hRet ?_
 exact fun w hs => ⟨[.slice aq1 (0 + nz) cq1], ⟨rfl, trivial⟩, ⟨(aq1, (0 + nz), cq1, ([] ++ z)), rfl, by simp, hs.pick [0]⟩⟩
theorem spec_l06Standard_c (w : World) :
  Calls Try.prog 106 #[] w (Ret fun v w' => ∃ x : Nat, v = .slice (some ⟨x, 0, none⟩) 8 8 ∧ True ∧ Sep w none_ [blk x 109 [.int .i64 2, .int .i64 0, .int .i64 2, .int .i64 5, .bool true, .int .i64 0, .int .i64 4, .int .i64 2, .int .i64 2, .int .i64 5, .bool true, .int .i64 0, .int .i64 4, .int .i64 2, .int .i64 2, .int .i64 5, .bool true, .int .i64 1, .int .i64 7, .int .i64 5, .int .i64 5, .int .i64 0, .bool true, .int .i64 0, .int .i64 7, .int .i64 5, .int .i64 5, .int .i64 0, .bool true, .int .i64 1, .int .i64 7, .int .i64 5, .int .i64 5, .int .i64 0, .bool false, .int .i64 2, .int .i64 5, .int .i64 5, .int .i64 5, .int .i64 0, .bool true, .int .i64 0, .int .i64 5, .int .i64 5, .int .i64 5, .int .i64 0, .bool false, .int .i64 3]] w') := by
 refine fn (M := none_) (rs := [.tmp 0]) Try.func106 rfl Try.ntmps106 rfl rfl (Sep.start _ _) ?_
 refine hSeq ?_
 refine hReg (sq 0 sz) (by kernel_rfl) ?_
 refine asS rfl rfl rfl ?_
 refine rNil ?_
 refine qSeq rfl ?_
 refine hSeq ?_
 refine hReg (sq 0 (sq 1 (sq 2 (sq 3 (sq 4 (sq 5 (sq 6 (sq 7 (sl 8 (sq 9 sz)))))))))) (by kernel_rfl) ?_
 refine bld rfl rfl rfl (bld109_0_1_2_3_4 (.int .i64 _) (.int .i64 _) (.int .i64 _) (.int .i64 _) (.bool _) rfl rfl rfl rfl rfl) ?_
 refine bld rfl rfl rfl (bld109_0_1_2_3_4 (.int .i64 _) (.int .i64 _) (.int .i64 _) (.int .i64 _) (.bool _) rfl rfl rfl rfl rfl) ?_
 refine bld rfl rfl rfl (bld109_0_1_2_3_4_5 (.int .i64 _) (.int .i64 _) (.int .i64 _) (.int .i64 _) (.bool _) (.int .i64 _) rfl rfl rfl rfl rfl rfl) ?_
 refine bld rfl rfl rfl (bld109_0_1_2_4 (.int .i64 _) (.int .i64 _) (.int .i64 _) (.bool _) rfl rfl rfl rfl) ?_
 refine bld rfl rfl rfl (bld109_0_1_2_4_5 (.int .i64 _) (.int .i64 _) (.int .i64 _) (.bool _) (.int .i64 _) rfl rfl rfl rfl rfl) ?_
 refine bld rfl rfl rfl (bld109_0_1_2_5 (.int .i64 _) (.int .i64 _) (.int .i64 _) (.int .i64 _) rfl rfl rfl rfl) ?_
 refine bld rfl rfl rfl (bld109_0_1_2_4 (.int .i64 _) (.int .i64 _) (.int .i64 _) (.bool _) rfl rfl rfl rfl) ?_
 refine bld rfl rfl rfl (bld109_0_1_2_5 (.int .i64 _) (.int .i64 _) (.int .i64 _) (.int .i64 _) rfl rfl rfl rfl) ?_
 refine bsl trv1 rfl rfl rfl (bsl110_8 (.int .i64 2) (.int .i64 0) (.int .i64 2) (.int .i64 5) (.bool true) (.int .i64 0) (.int .i64 4) (.int .i64 2) (.int .i64 2) (.int .i64 5) (.bool true) (.int .i64 0) (.int .i64 4) (.int .i64 2) (.int .i64 2) (.int .i64 5) (.bool true) (.int .i64 1) (.int .i64 7) (.int .i64 5) (.int .i64 5) (.int .i64 0) (.bool true) (.int .i64 0) (.int .i64 7) (.int .i64 5) (.int .i64 5) (.int .i64 0) (.bool true) (.int .i64 1) (.int .i64 7) (.int .i64 5) (.int .i64 5) (.int .i64 0) (.bool false) (.int .i64 2) (.int .i64 5) (.int .i64 5) (.int .i64 5) (.int .i64 0) (.bool true) (.int .i64 0) (.int .i64 5) (.int .i64 5) (.int .i64 5) (.int .i64 0) (.bool false) (.int .i64 3) rfl rfl rfl rfl rfl rfl rfl rfl rfl rfl rfl rfl rfl rfl rfl rfl rfl rfl rfl rfl rfl rfl rfl rfl rfl rfl rfl rfl rfl rfl rfl rfl rfl rfl rfl rfl rfl rfl rfl rfl rfl rfl rfl rfl rfl rfl rfl rfl) (fun bkl1 hbkl1 => ?_)
 refine asS rfl rfl rfl ?_
 refine rNil ?_
 refine qSeq rfl ?_
 refine hRet ?_
 exact fun w hs => ⟨[.slice (some ⟨bkl1, 0, none⟩) 8 8], ⟨rfl, trivial⟩, ⟨bkl1, rfl, trivial, hs.pick [0]⟩⟩
theorem spec_IsDeal_c (vn : Int) (az : Option Addr) (nz : Nat) (cz : Nat) (Hz : Nat → Hd) (z : List (List Int)) (aq : Option Addr) (nq : Nat) (cq : Nat) (q : List Int) (ad : Option Addr) (nd : Nat) (cd : Nat) (d : List Int) (w : World) (rz : RdR maK az nz Hz z w) (rq : RdI aq nq q w) (rd : RdI ad nd d w) (hql : q.length ≤ 1048576) (hdl : d.length ≤ 1048576) (hzf : z.flatten.length ≤ 1048576) :
  Calls Try.prog 58 #[.int .i64 vn, .slice az nz cz, .slice aq nq cq, .slice ad nd cd] w (Ret fun v w' => v = .bool (Hd.isDeal vn z q d) ∧ Ext w w') := by
 have kz : Kn w none_ [] (RdR maK az nz Hz z) := fun w' hs => rz.ext hs.upd
 have lz : z.length = nz := rz.1
 have mz : nz ≤ 9223372036854775807 := rz.2.1
 have kq : Kn w none_ [] (RdI aq nq q) := fun w' hs => rq.ext hs.upd
 have lq : q.length = nq := rq.1
 have mq : nq ≤ 9223372036854775807 := rq.2.1
 have kd : Kn w none_ [] (RdI ad nd d) := fun w' hs => rd.ext hs.upd
 have ld : d.length = nd := rd.1
 have md : nd ≤ 9223372036854775807 := rd.2.1
 have hfl : (q ++ d).length = q.length + d.length := List.length_append
 refine fn (M := none_) (rs := [.tmp 8]) Try.func58 rfl Try.ntmps58 rfl rfl (Sep.start _ _) ?_
 refine hSeq ?_
 refine hReg (sq 0 sz) (by kernel_rfl) ?_
 refine asB rfl rfl rfl ?_
 refine rNil ?_
 refine qSeq rfl ?_
 refine hSeq ?_
 refine hSeq ?_
 refine hReg (sq 0 (sl 1 (sq 2 (sq 3 (sq 4 (sq 5 (sl 6 (sq 7 (sq 8 (sq 9 (sq 10 (sq 11 (sl 12 (sq 13 (sq 14 sz))))))))))))))) (by kernel_rfl) ?_
 refine mvI rfl rfl rfl ?_
 refine callP (v := .bool (decide (0 ≤ vn ∧ vn ≤ 2))) Try.call105 trv rfl rfl (fun w hs => spec_l14Variant_c _ w ) ?_
 refine notD rfl rfl rfl ?_
 refine mvB rfl rfl rfl ?_
 refine rBoolD (d := 14) rfl (fun g1 => ?_) (fun g1 => ?_)
 ·
  replace g1 : ¬ (0 ≤ vn ∧ vn ≤ 2) := g1
  refine rSkipQ rfl rfl ?_
  refine rSkipQ rfl rfl ?_
  refine rSkipL trv rfl rfl ?_
  refine rSkipQ rfl rfl ?_
  refine pickB rfl rfl rfl rfl ?_
  refine mvB rfl rfl rfl ?_
  refine rSkipQ rfl rfl ?_
  refine rSkipQ rfl rfl ?_
  refine rSkipL trv rfl rfl ?_
  refine rSkipQ rfl rfl ?_
  refine pickB rfl rfl rfl rfl ?_
  refine rNil ?_
  refine qSeq rfl ?_
  refine hIfT rfl ?_
  refine hSeq ?_
  refine hReg (sq 0 sz) (by kernel_rfl) ?_
  refine asB rfl rfl rfl ?_
  refine rNil ?_
  refine qSeq rfl ?_
  refine hRet ?_
  exact fun w hs => ⟨[.bool false], ⟨rfl, trivial⟩, ⟨bB (by first | exact Hd.isDeal_no1 (by omega) | exact Hd.isDeal_no2 hiz (by omega)), hs.upd⟩⟩
 ·
  replace g1 : ¬ (¬ (0 ≤ vn ∧ vn ≤ 2)) := g1
  refine mvS rfl rfl rfl ?_
  refine lenS Try.runUnderlying22 rfl rfl rfl ?_
  refine callP (v := .bool (decide ((2 : Int) ≤ (nz : Int) ∧ (nz : Int) ≤ (4 : Int)))) Try.call88 trv rfl rfl (fun w hs => spec_l01In_c _ _ _ w ) ?_
  refine notD rfl rfl rfl ?_
  refine pickB rfl rfl rfl rfl ?_
  refine mvB rfl rfl rfl ?_
  refine rBoolD (d := 20) rfl (fun g2 => ?_) (fun g2 => ?_)
  ·
   replace g2 : ¬ ((2 : Int) ≤ (nz : Int) ∧ (nz : Int) ≤ (4 : Int)) := g2
   refine rSkipQ rfl rfl ?_
   refine rSkipQ rfl rfl ?_
   refine rSkipL trv rfl rfl ?_
   refine rSkipQ rfl rfl ?_
   refine pickB rfl rfl rfl rfl ?_
   refine rNil ?_
   refine qSeq rfl ?_
   refine hIfT rfl ?_
   refine hSeq ?_
   refine hReg (sq 0 sz) (by kernel_rfl) ?_
   refine asB rfl rfl rfl ?_
   refine rNil ?_
   refine qSeq rfl ?_
   refine hRet ?_
   exact fun w hs => ⟨[.bool false], ⟨rfl, trivial⟩, ⟨bB (by first | exact Hd.isDeal_no1 (by omega) | exact Hd.isDeal_no2 hiz (by omega)), hs.upd⟩⟩
  ·
   replace g2 : ¬ (¬ ((2 : Int) ≤ (nz : Int) ∧ (nz : Int) ≤ (4 : Int))) := g2
   refine mvS rfl rfl rfl ?_
   refine lenS Try.runUnderlying23 rfl rfl rfl ?_
   refine callP (v := .bool (decide ((3 : Int) ≤ (nq : Int) ∧ (nq : Int) ≤ (5 : Int)))) Try.call88 trv rfl rfl (fun w hs => spec_l01In_c _ _ _ w ) ?_
   refine notD rfl rfl rfl ?_
   refine pickB rfl rfl rfl rfl ?_
   refine rNil ?_
   refine qSeq rfl ?_
   refine hIfD rfl (fun c3 => ?_) (fun c3 => ?_)
   ·
    replace c3 : ¬ ((3 : Int) ≤ (nq : Int) ∧ (nq : Int) ≤ (5 : Int)) := c3
    refine hSeq ?_
    refine hReg (sq 0 sz) (by kernel_rfl) ?_
    refine asB rfl rfl rfl ?_
    refine rNil ?_
    refine qSeq rfl ?_
    refine hRet ?_
    exact fun w hs => ⟨[.bool false], ⟨rfl, trivial⟩, ⟨bB (by first | exact Hd.isDeal_no1 (by omega) | exact Hd.isDeal_no2 hiz (by omega)), hs.upd⟩⟩
   ·
    replace c3 : ¬ (¬ ((3 : Int) ≤ (nq : Int) ∧ (nq : Int) ≤ (5 : Int))) := c3
    refine hSkip ?_
    refine qSeq rfl ?_
    refine hSeq ?_
    refine hReg (sq 0 (sl 1 (sq 2 (sl 3 (sq 4 sz))))) (by kernel_rfl) ?_
    refine mvS rfl rfl rfl ?_
    refine callS Try.call71 trv1 rfl rfl (fun w hs => spec_l01Own_c _ nq cq _ w (kq w hs) (by omega)) ?_
    rintro ⟨ay1, ny1, cy1, y1⟩ hr1
    dsimp only at hr1
    subst y1
    refine rPieces (L' := [OwnI 2 ay1 ny1 cy1 q]) (fun _ h => h) ?_
    refine rKnow (fun w hs => (show OwnI 2 ay1 ny1 cy1 q w from hs.at_ 0 rfl).lenz) (fun lenn1 => ?_)
    refine rVal (v' := .slice ay1 ny1 cy1) rfl ?_
    refine mvS rfl rfl rfl ?_
    refine aplL (N := ny1) (ys := d) 0 rfl (Kn.drop (k := 1) kd) mk23 trv1 rfl rfl rfl rfl (by omega) ?_
    intro aq2 cq2
    refine asS rfl rfl rfl ?_
    refine rNil ?_
    refine qSeq rfl ?_
    refine hSeq ?_
    refine hSeq ?_
    refine hReg (sq 0 sz) (by kernel_rfl) ?_
    refine asI rfl rfl rfl ?_
    refine rNil ?_
    refine qSeq rfl ?_
    refine hBlk ?_
    refine hLoop (α := Nat × Nat × Hd) (fun x => x.1 ≤ nz ∧ (x.2.1 = ((q ++ d) ++ (z.take x.1).flatten).length ∧ ∀ u ∈ z.take x.1, (u.length : Int) = Hd.vHole vn)) (fun x => nz - x.1) (fun x => [OwnI 2 x.2.2.1 x.2.1 x.2.2.2 (((q ++ d) ++ (z.take x.1).flatten))]) (fun x => [(0, .int .i64 vn), (1, .slice az nz cz), (9, .slice x.2.2.1 x.2.1 x.2.2.2), (10, .int .i64 (x.1 : Int))]) ((0, (ny1 + nd), (aq2, cq2))) ⟨Nat.zero_le _, by dsimp only; rw [List.take_zero, List.flatten_nil, List.append_nil]; omega, fun x hx => absurd hx (by simp)⟩ (fun _ h => by rw [List.take_zero, List.flatten_nil, List.append_nil]; exact h.pick [0]) ⟨rfl, rfl, rfl, rfl, trivial⟩ ?_
    rintro ⟨i, n, hd⟩ τ1 ⟨hi, hn, hall⟩
    dsimp only at hi hn hall
    refine hRe [(0, .int .i64 vn), (1, .slice az nz cz), (9, .slice hd.1 n hd.2), (10, .int .i64 (i : Int))] [OwnI 2 hd.1 n hd.2 (((q ++ d) ++ (z.take i).flatten))] rfl rfl ?_
    refine hSeq ?_
    refine hSeq ?_
    refine hReg (sq 0 (sq 1 (sq 2 (sq 3 sz)))) (by kernel_rfl) ?_
    refine mvI rfl rfl rfl ?_
    refine mvS rfl rfl rfl ?_
    refine lenS Try.runUnderlying22 rfl rfl rfl ?_
    refine lss rfl rfl rfl rfl ?_
    refine rNil ?_
    refine qSeq rfl ?_
    refine hIfD rfl (fun c4 => ?_) (fun c4 => ?_)
    ·
     replace c4 : (i : Int) < (nz : Int) := c4
     have hiz : i < z.length := by omega
     have hfz2 := Iso.flat_le z i
     have hvh : Hd.vHole vn ≤ 4 := by unfold Hd.vHole; split <;> omega
     have hlz : ((q ++ d) ++ (z.take i).flatten).length = q.length + d.length + (z.take i).flatten.length := by rw [List.length_append, hfl]
     refine hSkip ?_
     refine qSeq rfl ?_
     refine hSeq ?_
     refine hBlk ?_
     refine hSeq ?_
     refine hSeq ?_
     refine hDraw (Ls := []) (by kernel_rfl) (sq 0 (sq 1 (sq 2 (sq 6 (.alt (sl 3 (sq 4 (sl 5 (sq 7 (sq 8 (sl 9 (sq 10 sz))))))) (sl 5 (sq 7 (sq 8 (.alt (sl 3 (sq 4 (sl 9 (sq 10 sz)))) (sl 9 (sl 3 (sq 4 (sq 10 sz))))))))))))) (by kernel_rfl) (.cons _ .slnil) ?_
     refine mvS rfl rfl rfl ?_
     refine mvI rfl rfl rfl ?_
     refine ixRl (zn := i) (z.getD i []) el22 (Kn.drop (k := 1) kz) rfl rfl rfl rfl (by omega) (by omega) rfl (nth [] (by omega)) ?_
     intro be3 oe3 e3
     refine mvI rfl rfl rfl ?_
     refine rAlt ?_ ?_
     ·
      refine ldl Try.isAgg23 (Kn.fld e3 0 rfl) (fun _ h => h.pick []) rfl rfl rfl ?_
      refine lenS Try.runUnderlying23 rfl rfl rfl ?_
      refine callS Try.call106 (by exact (fun _ _ h => h.pick [])) rfl rfl (fun w hs => spec_l06Standard_c  w ) ?_
      rintro bt4 hr4
      refine rVal (v' := .slice (some ⟨bt4, 0, none⟩) 8 8) rfl ?_
      refine ixB el110 rfl rfl rfl rfl (by omega) (by omega) ?_
      refine fld fl109_0 rfl rfl rfl ?_
      refine ldl Try.isAgg2 (cB (v := .int .i64 (Hd.vHole vn)) 0 rfl (by rcases (show vn = 0 ∨ vn = 1 ∨ vn = 2 by omega) with h | h | h <;> subst h <;> rfl)) (fun _ h => h.pick []) rfl rfl rfl ?_
      refine neq rfl rfl rfl rfl ?_
      refine rNil ?_
      refine qSeq rfl ?_
      refine hIfD rfl (fun c5 => ?_) (fun c5 => ?_)
      ·
       replace c5 : (((z.getD i []).length : Nat) : Int) ≠ (Hd.vHole vn) := c5
       refine hSeq ?_
       refine hReg (sq 0 sz) (by kernel_rfl) ?_
       refine asB rfl rfl rfl ?_
       refine rNil ?_
       refine qSeq rfl ?_
       refine hRet ?_
       exact fun w hs => ⟨[.bool false], ⟨rfl, trivial⟩, ⟨bB (by first | exact Hd.isDeal_no1 (by omega) | exact Hd.isDeal_no2 hiz (by omega)), hs.upd⟩⟩
      ·
       replace c5 : ¬ ((((z.getD i []).length : Nat) : Int) ≠ (Hd.vHole vn)) := c5
       have hhl : ((z.getD i []).length : Int) = Hd.vHole vn := by omega
       refine hSkip ?_
       refine qSeq rfl ?_
       refine hReg (sq 0 (sq 1 (sq 2 (sq 3 (sl 4 (sl 5 (sq 6 sz))))))) (by kernel_rfl) ?_
       refine mvS rfl rfl rfl ?_
       refine mvS rfl rfl rfl ?_
       refine mvI rfl rfl rfl ?_
       refine ixRl (zn := i) (z.getD i []) el22 (Kn.drop (k := 2) kz) rfl rfl rfl rfl (by omega) (by omega) rfl (nth [] (by omega)) ?_
       intro be5 oe5 e5
       refine ldl Try.isAgg23 (Kn.fld e5 0 rfl) trv rfl rfl rfl ?_
       refine aplL (N := n) (ys := (z.getD i [])) 1 rfl (Kn.drop (k := 2) ((Kn.imp kz fun _ h => h.kidM (nth [] (by omega))))) mk23 trv1 rfl rfl rfl rfl (by omega) ?_
       intro aq6 cq6
       refine asS rfl rfl rfl ?_
       refine rNil ?_
       refine qSeq rfl ?_
       refine hReg (sq 0 (sq 1 (sq 2 sz))) (by kernel_rfl) ?_
       refine mvI rfl rfl rfl ?_
       refine add rfl rfl rfl rfl (by omega) ?_
       refine asI rfl rfl rfl ?_
       refine rNil ?_
       rw [show ((q ++ d) ++ (z.take i).flatten) ++ z.getD i [] = ((q ++ d) ++ (z.take (i + 1)).flatten) from by rw [Iso.flat_snoc (by omega), List.append_assoc (q ++ d)]]
       exact qNext rfl ((i + 1, (n + (z.getD i []).length), (aq6, cq6))) (by dsimp only; omega) ⟨by dsimp only; omega, by dsimp only; rw [Iso.flat_snoc (by omega), ← List.append_assoc, List.length_append, ← hn], fun x hx => by rw [List.take_succ_eq_append_getElem hiz] at hx; rcases List.mem_append.1 hx with h | h; exact hall x h; rw [List.mem_singleton.1 h]; rw [List.getD_eq_getElem?_getD, List.getElem?_eq_getElem hiz] at hhl; exact hhl⟩ ⟨rfl, rfl, rfl, rfl, trivial⟩ (fun _ h => h.pick [1])
     ·
      refine callS Try.call106 (by exact (fun _ _ h => h.pick [])) rfl rfl (fun w hs => spec_l06Standard_c  w ) ?_
      rintro bt7 hr7
      refine rVal (v' := .slice (some ⟨bt7, 0, none⟩) 8 8) rfl ?_
      refine ixB el110 rfl rfl rfl rfl (by omega) (by omega) ?_
      refine fld fl109_0 rfl rfl rfl ?_
      refine rAlt ?_ ?_
      ·
       refine ldl Try.isAgg23 (Kn.drop (k := 1) (Kn.fld e3 0 rfl)) (fun _ h => h.pick []) rfl rfl rfl ?_
       refine lenS Try.runUnderlying23 rfl rfl rfl ?_
       refine ldl Try.isAgg2 (cB (v := .int .i64 (Hd.vHole vn)) 0 rfl (by rcases (show vn = 0 ∨ vn = 1 ∨ vn = 2 by omega) with h | h | h <;> subst h <;> rfl)) (fun _ h => h.pick []) rfl rfl rfl ?_
       refine neq rfl rfl rfl rfl ?_
       refine rNil ?_
       refine qSeq rfl ?_
       refine hIfD rfl (fun c6 => ?_) (fun c6 => ?_)
       ·
        replace c6 : (((z.getD i []).length : Nat) : Int) ≠ (Hd.vHole vn) := c6
        refine hSeq ?_
        refine hReg (sq 0 sz) (by kernel_rfl) ?_
        refine asB rfl rfl rfl ?_
        refine rNil ?_
        refine qSeq rfl ?_
        refine hRet ?_
        exact fun w hs => ⟨[.bool false], ⟨rfl, trivial⟩, ⟨bB (by first | exact Hd.isDeal_no1 (by omega) | exact Hd.isDeal_no2 hiz (by omega)), hs.upd⟩⟩
       ·
        replace c6 : ¬ ((((z.getD i []).length : Nat) : Int) ≠ (Hd.vHole vn)) := c6
        have hhl : ((z.getD i []).length : Int) = Hd.vHole vn := by omega
        refine hSkip ?_
        refine qSeq rfl ?_
        refine hReg (sq 0 (sq 1 (sq 2 (sq 3 (sl 4 (sl 5 (sq 6 sz))))))) (by kernel_rfl) ?_
        refine mvS rfl rfl rfl ?_
        refine mvS rfl rfl rfl ?_
        refine mvI rfl rfl rfl ?_
        refine ixRl (zn := i) (z.getD i []) el22 (Kn.drop (k := 2) kz) rfl rfl rfl rfl (by omega) (by omega) rfl (nth [] (by omega)) ?_
        intro be8 oe8 e8
        refine ldl Try.isAgg23 (Kn.fld e8 0 rfl) trv rfl rfl rfl ?_
        refine aplL (N := n) (ys := (z.getD i [])) 1 rfl (Kn.drop (k := 2) ((Kn.imp kz fun _ h => h.kidM (nth [] (by omega))))) mk23 trv1 rfl rfl rfl rfl (by omega) ?_
        intro aq9 cq9
        refine asS rfl rfl rfl ?_
        refine rNil ?_
        refine qSeq rfl ?_
        refine hReg (sq 0 (sq 1 (sq 2 sz))) (by kernel_rfl) ?_
        refine mvI rfl rfl rfl ?_
        refine add rfl rfl rfl rfl (by omega) ?_
        refine asI rfl rfl rfl ?_
        refine rNil ?_
        rw [show ((q ++ d) ++ (z.take i).flatten) ++ z.getD i [] = ((q ++ d) ++ (z.take (i + 1)).flatten) from by rw [Iso.flat_snoc (by omega), List.append_assoc (q ++ d)]]
        exact qNext rfl ((i + 1, (n + (z.getD i []).length), (aq9, cq9))) (by dsimp only; omega) ⟨by dsimp only; omega, by dsimp only; rw [Iso.flat_snoc (by omega), ← List.append_assoc, List.length_append, ← hn], fun x hx => by rw [List.take_succ_eq_append_getElem hiz] at hx; rcases List.mem_append.1 hx with h | h; exact hall x h; rw [List.mem_singleton.1 h]; rw [List.getD_eq_getElem?_getD, List.getElem?_eq_getElem hiz] at hhl; exact hhl⟩ ⟨rfl, rfl, rfl, rfl, trivial⟩ (fun _ h => h.pick [1])
      ·
       refine ldl Try.isAgg2 (cB (v := .int .i64 (Hd.vHole vn)) 0 rfl (by rcases (show vn = 0 ∨ vn = 1 ∨ vn = 2 by omega) with h | h | h <;> subst h <;> rfl)) (fun _ h => h.pick []) rfl rfl rfl ?_
       refine ldl Try.isAgg23 (Kn.drop (k := 1) (Kn.fld e3 0 rfl)) (fun _ h => h.pick []) rfl rfl rfl ?_
       refine lenS Try.runUnderlying23 rfl rfl rfl ?_
       refine neq rfl rfl rfl rfl ?_
       refine rNil ?_
       refine qSeq rfl ?_
       refine hIfD rfl (fun c7 => ?_) (fun c7 => ?_)
       ·
        replace c7 : (((z.getD i []).length : Nat) : Int) ≠ (Hd.vHole vn) := c7
        refine hSeq ?_
        refine hReg (sq 0 sz) (by kernel_rfl) ?_
        refine asB rfl rfl rfl ?_
        refine rNil ?_
        refine qSeq rfl ?_
        refine hRet ?_
        exact fun w hs => ⟨[.bool false], ⟨rfl, trivial⟩, ⟨bB (by first | exact Hd.isDeal_no1 (by omega) | exact Hd.isDeal_no2 hiz (by omega)), hs.upd⟩⟩
       ·
        replace c7 : ¬ ((((z.getD i []).length : Nat) : Int) ≠ (Hd.vHole vn)) := c7
        have hhl : ((z.getD i []).length : Int) = Hd.vHole vn := by omega
        refine hSkip ?_
        refine qSeq rfl ?_
        refine hReg (sq 0 (sq 1 (sq 2 (sq 3 (sl 4 (sl 5 (sq 6 sz))))))) (by kernel_rfl) ?_
        refine mvS rfl rfl rfl ?_
        refine mvS rfl rfl rfl ?_
        refine mvI rfl rfl rfl ?_
        refine ixRl (zn := i) (z.getD i []) el22 (Kn.drop (k := 2) kz) rfl rfl rfl rfl (by omega) (by omega) rfl (nth [] (by omega)) ?_
        intro be10 oe10 e10
        refine ldl Try.isAgg23 (Kn.fld e10 0 rfl) trv rfl rfl rfl ?_
        refine aplL (N := n) (ys := (z.getD i [])) 1 rfl (Kn.drop (k := 2) ((Kn.imp kz fun _ h => h.kidM (nth [] (by omega))))) mk23 trv1 rfl rfl rfl rfl (by omega) ?_
        intro aq11 cq11
        refine asS rfl rfl rfl ?_
        refine rNil ?_
        refine qSeq rfl ?_
        refine hReg (sq 0 (sq 1 (sq 2 sz))) (by kernel_rfl) ?_
        refine mvI rfl rfl rfl ?_
        refine add rfl rfl rfl rfl (by omega) ?_
        refine asI rfl rfl rfl ?_
        refine rNil ?_
        rw [show ((q ++ d) ++ (z.take i).flatten) ++ z.getD i [] = ((q ++ d) ++ (z.take (i + 1)).flatten) from by rw [Iso.flat_snoc (by omega), List.append_assoc (q ++ d)]]
        exact qNext rfl ((i + 1, (n + (z.getD i []).length), (aq11, cq11))) (by dsimp only; omega) ⟨by dsimp only; omega, by dsimp only; rw [Iso.flat_snoc (by omega), ← List.append_assoc, List.length_append, ← hn], fun x hx => by rw [List.take_succ_eq_append_getElem hiz] at hx; rcases List.mem_append.1 hx with h | h; exact hall x h; rw [List.mem_singleton.1 h]; rw [List.getD_eq_getElem?_getD, List.getElem?_eq_getElem hiz] at hhl; exact hhl⟩ ⟨rfl, rfl, rfl, rfl, trivial⟩ (fun _ h => h.pick [1])
    ·
     replace c4 : ¬ ((i : Int) < (nz : Int)) := c4
     have hte : z.take i = z := List.take_of_length_le (by omega)
     refine hExit rfl ?_
     refine qSeq rfl ?_
     refine hSeq ?_
     refine hReg (sq 0 (sl 1 (sq 2 sz))) (by kernel_rfl) ?_
     refine mvS rfl rfl rfl ?_
     refine callP (v := .bool ((Iso.areB (((q ++ d) ++ (z.take i).flatten))))) Try.call94 trv rfl rfl (fun w hs => spec_AreCards_c _ n hd.2 _ w (OwnI.rd (hs.at_ 0 rfl))) ?_
     refine asB rfl rfl rfl ?_
     refine rNil ?_
     refine qSeq rfl ?_
     refine hRet ?_
     exact fun w hs => ⟨[.bool ((Iso.areB (((q ++ d) ++ (z.take i).flatten))))], ⟨rfl, trivial⟩, ⟨bB (by rw [hte]; exact Hd.isDeal_end2 (by omega) (hte ▸ hall)), hs.upd⟩⟩
theorem spec_l16Rest_c (az : Option Addr) (nz : Nat) (cz : Nat) (Hz : Nat → Hd) (z : List (List Int)) (aq : Option Addr) (nq : Nat) (cq : Nat) (q : List Int) (ad : Option Addr) (nd : Nat) (cd : Nat) (d : List Int) (w : World) (rz : RdR maK az nz Hz z w) (rq : RdI aq nq q w) (rd : RdI ad nd d w) (hf : z.flatten.length ≤ 1000) (hql : q.length ≤ 1000) (hdl : d.length ≤ 1000) :
  Calls Try.prog 69 #[.slice az nz cz, .slice aq nq cq, .slice ad nd cd] w (Ret fun v w' => ∃ x : Option Addr × Nat × Nat × List Int, v = .slice x.1 x.2.1 x.2.2.1 ∧ (x.2.2.2 = Hd.restL z q d) ∧ Sep w none_ [OwnI 2 x.1 x.2.1 x.2.2.1 x.2.2.2] w') := by
 have kz : Kn w none_ [] (RdR maK az nz Hz z) := fun w' hs => rz.ext hs.upd
 have lz : z.length = nz := rz.1
 have mz : nz ≤ 9223372036854775807 := rz.2.1
 have kq : Kn w none_ [] (RdI aq nq q) := fun w' hs => rq.ext hs.upd
 have lq : q.length = nq := rq.1
 have mq : nq ≤ 9223372036854775807 := rq.2.1
 have kd : Kn w none_ [] (RdI ad nd d) := fun w' hs => rd.ext hs.upd
 have ld : d.length = nd := rd.1
 have md : nd ≤ 9223372036854775807 := rd.2.1
 have hfl : (q ++ d).length = q.length + d.length := List.length_append
 refine fn (M := none_) (rs := [.tmp 6]) Try.func69 rfl Try.ntmps69 rfl rfl (Sep.start _ _) ?_
 refine hSeq ?_
 refine hReg (sq 0 sz) (by kernel_rfl) ?_
 refine asS rfl rfl rfl ?_
 refine rNil ?_
 refine qSeq rfl ?_
 refine hSeq ?_
 refine hReg (sq 0 (sl 1 (sq 2 (sl 3 (sq 4 sz))))) (by kernel_rfl) ?_
 refine mvS rfl rfl rfl ?_
 refine callS Try.call71 trv1 rfl rfl (fun w hs => spec_l01Own_c _ nq cq _ w (kq w hs) (by omega)) ?_
 rintro ⟨ay1, ny1, cy1, y1⟩ hr1
 dsimp only at hr1
 subst y1
 refine rPieces (L' := [OwnI 2 ay1 ny1 cy1 q]) (fun _ h => h) ?_
 refine rKnow (fun w hs => (show OwnI 2 ay1 ny1 cy1 q w from hs.at_ 0 rfl).lenz) (fun lenn1 => ?_)
 refine rVal (v' := .slice ay1 ny1 cy1) rfl ?_
 refine mvS rfl rfl rfl ?_
 refine aplL (N := ny1) (ys := d) 0 rfl (Kn.drop (k := 1) kd) mk23 trv1 rfl rfl rfl rfl (by omega) ?_
 intro aq2 cq2
 refine asS rfl rfl rfl ?_
 refine rNil ?_
 refine qSeq rfl ?_
 refine hSeq ?_
 refine hSeq ?_
 refine hReg (sq 0 sz) (by kernel_rfl) ?_
 refine asI rfl rfl rfl ?_
 refine rNil ?_
 refine qSeq rfl ?_
 refine hBlk ?_
 refine hLoop (α := Nat × Nat × Hd) (fun x => x.1 ≤ nz ∧ x.2.1 = ((q ++ d) ++ (z.take x.1).flatten).length) (fun x => nz - x.1) (fun x => [OwnI 2 x.2.2.1 x.2.1 x.2.2.2 (((q ++ d) ++ (z.take x.1).flatten))]) (fun x => [(0, .slice az nz cz), (7, .slice x.2.2.1 x.2.1 x.2.2.2), (8, .int .i64 (x.1 : Int))]) ((0, (ny1 + nd), (aq2, cq2))) ⟨Nat.zero_le _, by dsimp only; rw [List.take_zero, List.flatten_nil, List.append_nil]; omega⟩ (fun _ h => by rw [List.take_zero, List.flatten_nil, List.append_nil]; exact h.pick [0]) ⟨rfl, rfl, rfl, trivial⟩ ?_
 rintro ⟨i, n, hd⟩ τ1 ⟨hi, hn⟩
 dsimp only at hi hn
 refine hRe [(0, .slice az nz cz), (7, .slice hd.1 n hd.2), (8, .int .i64 (i : Int))] [OwnI 2 hd.1 n hd.2 (((q ++ d) ++ (z.take i).flatten))] rfl rfl ?_
 refine hSeq ?_
 refine hSeq ?_
 refine hReg (sq 0 (sq 1 (sq 2 (sq 3 sz)))) (by kernel_rfl) ?_
 refine mvI rfl rfl rfl ?_
 refine mvS rfl rfl rfl ?_
 refine lenS Try.runUnderlying22 rfl rfl rfl ?_
 refine lss rfl rfl rfl rfl ?_
 refine rNil ?_
 refine qSeq rfl ?_
 refine hIfD rfl (fun c1 => ?_) (fun c1 => ?_)
 ·
  replace c1 : (i : Int) < (nz : Int) := c1
  have hiz : i < z.length := by omega
  have hfz2 := Iso.flat_le z i
  have hfz3 := Iso.flat_le z (i + 1)
  rw [Iso.flat_snoc (by omega), List.length_append] at hfz3
  have hlz : ((q ++ d) ++ (z.take i).flatten).length = q.length + d.length + (z.take i).flatten.length := by rw [List.length_append, hfl]
  refine hSkip ?_
  refine qSeq rfl ?_
  refine hSeq ?_
  refine hBlk ?_
  refine hReg (sq 0 (sq 1 (sq 2 (sq 3 (sl 4 (sl 5 (sq 6 sz))))))) (by kernel_rfl) ?_
  refine mvS rfl rfl rfl ?_
  refine mvS rfl rfl rfl ?_
  refine mvI rfl rfl rfl ?_
  refine ixRl (zn := i) (z.getD i []) el22 (Kn.drop (k := 1) kz) rfl rfl rfl rfl (by omega) (by omega) rfl (nth [] (by omega)) ?_
  intro be3 oe3 e3
  refine ldl Try.isAgg23 (Kn.fld e3 0 rfl) trv rfl rfl rfl ?_
  refine aplL (N := n) (ys := (z.getD i [])) 0 rfl (Kn.drop (k := 1) ((Kn.imp kz fun _ h => h.kidM (nth [] (by omega))))) mk23 trv1 rfl rfl rfl rfl (by omega) ?_
  intro aq4 cq4
  refine asS rfl rfl rfl ?_
  refine rNil ?_
  refine qSeq rfl ?_
  refine hReg (sq 0 (sq 1 (sq 2 sz))) (by kernel_rfl) ?_
  refine mvI rfl rfl rfl ?_
  refine add rfl rfl rfl rfl (by omega) ?_
  refine asI rfl rfl rfl ?_
  refine rNil ?_
  rw [show ((q ++ d) ++ (z.take i).flatten) ++ z.getD i [] = ((q ++ d) ++ (z.take (i + 1)).flatten) from by rw [Iso.flat_snoc (by omega), List.append_assoc (q ++ d)]]
  exact qNext rfl ((i + 1, (n + (z.getD i []).length), (aq4, cq4))) (by dsimp only; omega) ⟨by dsimp only; omega, by dsimp only; rw [Iso.flat_snoc (by omega), ← List.append_assoc, List.length_append, ← hn]⟩ ⟨rfl, rfl, rfl, trivial⟩ (fun _ h => h.pick [0])
 ·
  replace c1 : ¬ ((i : Int) < (nz : Int)) := c1
  have hte : z.take i = z := List.take_of_length_le (by omega)
  refine hExit rfl ?_
  refine qSeq rfl ?_
  refine hSeq ?_
  refine hReg (sq 0 (sl 1 (sq 2 sz))) (by kernel_rfl) ?_
  refine mvS rfl rfl rfl ?_
  refine callS Try.call116 trv1 rfl rfl (fun w hs => spec_l02Others_c _ n hd.2 _ w (OwnI.rd (hs.at_ 0 rfl))) ?_
  rintro ⟨ay5, ny5, cy5, y5⟩ hr5
  dsimp only at hr5
  subst y5
  refine rPieces (L' := [OwnI 2 ay5 ny5 cy5 (((Iso.others (((q ++ d) ++ (z.take i).flatten)) 52))), OwnI 2 hd.1 n hd.2 (((q ++ d) ++ (z.take i).flatten))]) (fun _ h => h) ?_
  refine rKnow (fun w hs => (show OwnI 2 ay5 ny5 cy5 (((Iso.others (((q ++ d) ++ (z.take i).flatten)) 52))) w from hs.at_ 0 rfl).lenz) (fun lenn2 => ?_)
  refine rVal (v' := .slice ay5 ny5 cy5) rfl ?_
  refine asS rfl rfl rfl ?_
  refine rNil ?_
  refine qSeq rfl ?_
  refine hRet ?_
  exact fun w hs => ⟨[.slice ay5 ny5 cy5], ⟨rfl, trivial⟩, ⟨(ay5, ny5, cy5, ((Iso.others (((q ++ d) ++ (z.take i).flatten)) 52))), rfl, by rw [hte]; rfl, hs.pick [0]⟩⟩
end Go.Proofs.Yteaahdakammffaa
/- Contracts of winners, as the model finds them. Their conditions stand in each. -/
namespace Go.Proofs.Yteaahdakammffaa
open Go Go.RowKit V
set_option linter.unusedVariables false
set_option linter.unusedSimpArgs false
set_option maxRecDepth 100000
theorem spec_IsEightOrBetter_c (x : Int) (w : World) :
  Calls Try.prog 149 #[.int .i64 x] w (Ret fun v w' => v = .bool (decide (0 ≤ x ∧ x ≤ 228487)) ∧ Ext w w') := by
 refine fn (M := none_) (rs := [.tmp 2]) Try.func149 rfl Try.ntmps149 rfl rfl (Sep.start _ _) ?_
 refine hSeq ?_
 refine hReg (sq 0 sz) (by kernel_rfl) ?_
 refine asB rfl rfl rfl ?_
 refine rNil ?_
 refine qSeq rfl ?_
 refine hSeq ?_
 refine hReg (sq 0 (sl 1 (sq 2 sz))) (by kernel_rfl) ?_
 refine mvI rfl rfl rfl ?_
 refine callP (v := .bool (decide ((0 : Int) ≤ x ∧ x ≤ (228487 : Int)))) Try.call88 trv rfl rfl (fun w hs => spec_l01In_c _ _ _ w ) ?_
 refine asB rfl rfl rfl ?_
 refine rNil ?_
 refine qSeq rfl ?_
 refine hRet ?_
 exact fun w hs => ⟨[.bool (decide ((0 : Int) ≤ x ∧ x ≤ (228487 : Int)))], ⟨rfl, trivial⟩, ⟨by first | rfl | exact bD (by omega) | exact bT (by omega) | exact bF (by omega) | exact vI (by omega), hs.upd⟩⟩
theorem spec_l06Counts_c (ho : Int) (lea : Int) (mo : Int) (bo : Int) (hi : Bool) (lo : Int) (x : Int) (w : World) :
  Calls Try.prog 120 #[.agg #[.int .i64 ho, .int .i64 lea, .int .i64 mo, .int .i64 bo, .bool hi, .int .i64 lo], .int .i64 x] w (Ret fun v w' => v = .bool (decide (lo ≠ 1 ∨ (0 ≤ x ∧ x ≤ 228487))) ∧ Ext w w') := by
 refine fn (M := none_) (rs := [.tmp 4]) Try.func120 rfl Try.ntmps120 rfl rfl (Sep.start _ _) ?_
 refine hSeq ?_
 refine hReg (sl 0 (sq 1 sz)) (by kernel_rfl) ?_
 refine box trv1 rfl rfl rfl rfl (fun bkb1 hbkb1 => ?_)
 refine asB rfl rfl rfl ?_
 refine rNil ?_
 refine qSeq rfl ?_
 refine hSeq ?_
 refine hReg (sq 0 (sl 1 (sq 2 (sq 3 (sq 4 (sl 5 (sq 6 (sq 7 sz)))))))) (by kernel_rfl) ?_
 refine fld fl109_5 rfl rfl rfl ?_
 refine ldl Try.isAgg2 (cB 0 rfl rfl) trv rfl rfl rfl ?_
 refine neq rfl rfl rfl rfl ?_
 refine mvB rfl rfl rfl ?_
 refine rBoolD (d := 8) rfl (fun g1 => ?_) (fun g1 => ?_)
 ·
  replace g1 : lo ≠ 1 := g1
  refine rSkipQ rfl rfl ?_
  refine rSkipL trv rfl rfl ?_
  refine pickB rfl rfl rfl rfl ?_
  refine asB rfl rfl rfl ?_
  refine rNil ?_
  refine qSeq rfl ?_
  refine hRet ?_
  exact fun w hs => ⟨[.bool true], ⟨rfl, trivial⟩, ⟨by first | rfl | exact bD (by omega) | exact bT (by omega) | exact bF (by omega) | exact vI (by omega), hs.upd⟩⟩
 ·
  replace g1 : ¬ (lo ≠ 1) := g1
  refine mvI rfl rfl rfl ?_
  refine callP (v := .bool (decide (0 ≤ x ∧ x ≤ 228487))) Try.call149 trv rfl rfl (fun w hs => spec_IsEightOrBetter_c _ w ) ?_
  refine pickB rfl rfl rfl rfl ?_
  refine asB rfl rfl rfl ?_
  refine rNil ?_
  refine qSeq rfl ?_
  refine hRet ?_
  exact fun w hs => ⟨[.bool (decide (0 ≤ x ∧ x ≤ 228487))], ⟨rfl, trivial⟩, ⟨by first | rfl | exact bD (by omega) | exact bT (by omega) | exact bF (by omega) | exact vI (by omega), hs.upd⟩⟩
theorem spec_l13Best_true (az : Option Addr) (nz : Nat) (cz : Nat) (z : List Int) (avs : Option Addr) (nvs : Nat) (cvs : Nat) (vs : List Int) (hb : Bool) (w : World) (rz : RdI az nz z w) (rvs : RdI avs nvs vs w) (hw : ∀ x ∈ z, 0 ≤ x ∧ x < vs.length) (hzl : z.length ≤ 1000) (hhb : hb = true) :
  Calls Try.prog 121 #[.slice az nz cz, .slice avs nvs cvs, .bool hb] w (Ret fun v w' => ∃ x : Option Addr × Nat × Nat × List Int, v = .slice x.1 x.2.1 x.2.2.1 ∧ (x.2.2.2 = (Hd.bst true z vs).1) ∧ Sep w none_ [OwnI 2 x.1 x.2.1 x.2.2.1 x.2.2.2] w') := by
 have kz : Kn w none_ [] (RdI az nz z) := fun w' hs => rz.ext hs.upd
 have lz : z.length = nz := rz.1
 have mz : nz ≤ 9223372036854775807 := rz.2.1
 have kvs : Kn w none_ [] (RdI avs nvs vs) := fun w' hs => rvs.ext hs.upd
 have lvs : vs.length = nvs := rvs.1
 have mvs : nvs ≤ 9223372036854775807 := rvs.2.1
 subst hhb
 refine fn (M := none_) (rs := [.tmp 6]) Try.func121 rfl Try.ntmps121 rfl rfl (Sep.start _ _) ?_
 refine hSeq ?_
 refine hReg (sq 0 sz) (by kernel_rfl) ?_
 refine asS rfl rfl rfl ?_
 refine rNil ?_
 refine qSeq rfl ?_
 refine hSeq ?_
 refine hReg (sl 0 (sq 1 sz)) (by kernel_rfl) ?_
 refine bsl trv1 rfl rfl rfl (bsl23_0) (fun bkl1 hbkl1 => ?_)
 refine asS rfl rfl rfl ?_
 refine rNil ?_
 refine qSeq rfl ?_
 refine hSeq ?_
 refine hReg (sq 0 sz) (by kernel_rfl) ?_
 refine asI rfl rfl rfl ?_
 refine rNil ?_
 refine qSeq rfl ?_
 refine hSeq ?_
 refine hSeq ?_
 refine hReg (sq 0 sz) (by kernel_rfl) ?_
 refine asI rfl rfl rfl ?_
 refine rNil ?_
 refine qSeq rfl ?_
 refine hBlk ?_
 refine hPieces (fun _ h => Sep.litI h 0 [] rfl rfl rfl) ?_
 refine hLoop (α := Nat × Nat × Hd) (fun x => x.1 ≤ nz ∧ x.2.1 = (Hd.bst true (z.take x.1) vs).1.length) (fun x => nz - x.1) (fun x => [OwnI 2 x.2.2.1 x.2.1 x.2.2.2 ((Hd.bst true (z.take x.1) vs).1)]) (fun x => [(0, .slice az nz cz), (1, .slice avs nvs cvs), (2, .bool true), (7, .slice x.2.2.1 x.2.1 x.2.2.2), (8, .int .i64 ((Hd.bst true (z.take x.1) vs).2)), (9, .int .i64 (x.1 : Int))]) ((0, 0, ((some ⟨bkl1, 0, none⟩), 0))) ⟨Nat.zero_le _, rfl⟩ (fun _ h => h.pick [0]) ⟨rfl, rfl, rfl, rfl, rfl, rfl, trivial⟩ ?_
 rintro ⟨i, n, hd⟩ τ1 ⟨hi, hn⟩
 dsimp only at hi hn
 refine hRe [(0, .slice az nz cz), (1, .slice avs nvs cvs), (2, .bool true), (7, .slice hd.1 n hd.2), (8, .int .i64 ((Hd.bst true (z.take i) vs).2)), (9, .int .i64 (i : Int))] [OwnI 2 hd.1 n hd.2 ((Hd.bst true (z.take i) vs).1)] rfl rfl ?_
 refine hSeq ?_
 refine hSeq ?_
 refine hReg (sq 0 (sq 1 (sq 2 (sq 3 sz)))) (by kernel_rfl) ?_
 refine mvI rfl rfl rfl ?_
 refine mvS rfl rfl rfl ?_
 refine lenS Try.runUnderlying23 rfl rfl rfl ?_
 refine lss rfl rfl rfl rfl ?_
 refine rNil ?_
 refine qSeq rfl ?_
 refine hIfD rfl (fun c1 => ?_) (fun c1 => ?_)
 ·
  replace c1 : (i : Int) < (nz : Int) := c1
  have hiz : i < z.length := by omega
  have hx := hw _ (Math.getD_mem 0 hiz)
  have hbl := (Hd.bst_inv true vs (z.take i)).2
  rw [List.length_take] at hbl
  refine hSkip ?_
  refine qSeq rfl ?_
  refine hSeq ?_
  refine hBlk ?_
  refine hSeq ?_
  refine hReg (sq 0 (sq 1 (sq 2 (sq 3 (sl 4 (sq 5 (sl 6 (sq 7 sz)))))))) (by kernel_rfl) ?_
  refine mvS rfl rfl rfl ?_
  refine mvS rfl rfl rfl ?_
  refine mvI rfl rfl rfl ?_
  refine ixIl (zn := i) el23 (Kn.drop (k := 1) kz) rfl rfl rfl rfl (by omega) (by omega) rfl ?_
  intro ae1 e1
  refine ldl Try.isAgg2 (e1) trv rfl rfl rfl ?_
  refine ixIl (zn := ((z.getD i 0)).toNat) el23 (Kn.drop (k := 1) kvs) rfl rfl rfl rfl (by omega) (by omega) rfl ?_
  intro ae2 e2
  refine ldl Try.isAgg2 (e2) trv rfl rfl rfl ?_
  refine asI rfl rfl rfl ?_
  refine rNil ?_
  refine qSeq rfl ?_
  refine hBlk ?_
  refine hSeq ?_
  refine hReg (sq 0 (sq 1 (sq 2 sz))) (by kernel_rfl) ?_
  refine mvI rfl rfl rfl ?_
  refine lss rfl rfl rfl rfl ?_
  refine asB rfl rfl rfl ?_
  refine rNil ?_
  refine qSeq rfl ?_
  refine hIfD rfl (fun c2 => ?_) (fun c2 => ?_)
  ·
   replace c2 : (vs.getD (((z.getD i 0)).toNat) 0) < 0 := c2
   refine hExit rfl ?_
   refine qSeq rfl ?_
   refine hReg (sq 0 (sq 1 (sq 2 sz))) (by kernel_rfl) ?_
   refine mvI rfl rfl rfl ?_
   refine add rfl rfl rfl rfl (by omega) ?_
   refine asI rfl rfl rfl ?_
   refine rNil ?_
   refine qPieces (L' := [OwnI 2 hd.1 n hd.2 ((Hd.bst true (z.take i) vs).1)]) (fun _ h => h) ?_
   have hbe : Hd.bst true (z.take (i + 1)) vs = ((Hd.bst true (z.take i) vs).1, (Hd.bst true (z.take i) vs).2) := by first | exact Hd.b_neg hiz true (by omega) | exact Hd.b_hit hiz true (by omega) (by first | exact Or.inl (by omega) | exact Or.inr (Or.inl ⟨rfl, by omega⟩) | exact Or.inr (Or.inr ⟨rfl, by omega⟩)) | exact Hd.b_tie hiz true (by omega) (by omega) (by omega) | exact Hd.b_no hiz true (by omega) (by omega) (by first | exact Or.inl ⟨rfl, by omega⟩ | exact Or.inr ⟨rfl, by omega⟩)
   rw [show (Hd.bst true (z.take i) vs).1 = (Hd.bst true (z.take (i + 1)) vs).1 from by rw [hbe]]
   exact qNext rfl ((i + 1, n, (hd.1, hd.2))) (by dsimp only; omega) ⟨by dsimp only; omega, by dsimp only; rw [hbe]; first | omega | rfl | (simp; omega)⟩ ((by repeat first | exact trivial | refine ⟨by first | rfl | exact vI (by rw [hbe]), ?_⟩)) (fun _ h => h.pick [0])
  ·
   replace c2 : ¬ ((vs.getD (((z.getD i 0)).toNat) 0) < 0) := c2
   refine hSeq ?_
   refine hReg (sq 0 (sq 1 (sq 2 (sq 3 (sq 4 (sq 5 (sq 6 (sq 7 (sq 8 (sq 9 (sq 10 (sq 11 (sq 12 (sq 13 (sq 14 (sq 15 (sq 16 (sq 17 (sq 18 (sq 19 sz)))))))))))))))))))) (by kernel_rfl) ?_
   refine mvI rfl rfl rfl ?_
   refine lss rfl rfl rfl rfl ?_
   refine mvB rfl rfl rfl ?_
   refine rBoolD (d := 31) rfl (fun g3 => ?_) (fun g3 => ?_)
   ·
    replace g3 : (Hd.bst true (z.take i) vs).2 < 0 := g3
    refine rSkipQ rfl rfl ?_
    refine rSkipQ rfl rfl ?_
    refine rSkipQ rfl rfl ?_
    refine rSkipQ rfl rfl ?_
    refine rSkipQ rfl rfl ?_
    refine rSkipQ rfl rfl ?_
    refine pickB rfl rfl rfl rfl ?_
    refine mvB rfl rfl rfl ?_
    refine rSkipQ rfl rfl ?_
    refine rSkipQ rfl rfl ?_
    refine rSkipQ rfl rfl ?_
    refine rSkipQ rfl rfl ?_
    refine rSkipQ rfl rfl ?_
    refine rSkipQ rfl rfl ?_
    refine rSkipQ rfl rfl ?_
    refine pickB rfl rfl rfl rfl ?_
    refine asB rfl rfl rfl ?_
    refine rNil ?_
    refine qSeq rfl ?_
    refine hIfT rfl ?_
    refine hSeq ?_
    refine hReg (sq 0 (sq 1 sz)) (by kernel_rfl) ?_
    refine mvI rfl rfl rfl ?_
    refine asI rfl rfl rfl ?_
    refine rNil ?_
    refine qSeq rfl ?_
    refine hReg (sq 0 (sq 1 (sq 2 (sl 3 (sl 4 (sq 5 sz)))))) (by kernel_rfl) ?_
    refine mvS rfl rfl rfl ?_
    refine mvI rfl rfl rfl ?_
    refine ixIl (zn := i) el23 (Kn.drop (k := 1) kz) rfl rfl rfl rfl (by omega) (by omega) rfl ?_
    intro ae3 e3
    refine ldl Try.isAgg2 (e3) trv rfl rfl rfl ?_
    refine bsl trv1 rfl rfl rfl (bsl23_1 (.int .i64 _) rfl) (fun bkl2 hbkl2 => ?_)
    refine asS rfl rfl rfl ?_
    refine rNil ?_
    refine qSeq rfl ?_
    refine hReg (sq 0 (sq 1 (sq 2 sz))) (by kernel_rfl) ?_
    refine mvI rfl rfl rfl ?_
    refine add rfl rfl rfl rfl (by omega) ?_
    refine asI rfl rfl rfl ?_
    refine rNil ?_
    refine qPieces (fun _ h => Sep.litI h 0 [(z.getD i 0)] rfl rfl rfl) ?_
    refine qPieces (L' := [OwnI 2 (some ⟨bkl2, 0, none⟩) 1 1 [(z.getD i 0)], OwnI 2 hd.1 n hd.2 ((Hd.bst true (z.take i) vs).1)]) (fun _ h => h) ?_
    have hbe : Hd.bst true (z.take (i + 1)) vs = ([(z.getD i 0)], (vs.getD (((z.getD i 0)).toNat) 0)) := by first | exact Hd.b_neg hiz true (by omega) | exact Hd.b_hit hiz true (by omega) (by first | exact Or.inl (by omega) | exact Or.inr (Or.inl ⟨rfl, by omega⟩) | exact Or.inr (Or.inr ⟨rfl, by omega⟩)) | exact Hd.b_tie hiz true (by omega) (by omega) (by omega) | exact Hd.b_no hiz true (by omega) (by omega) (by first | exact Or.inl ⟨rfl, by omega⟩ | exact Or.inr ⟨rfl, by omega⟩)
    rw [show [(z.getD i 0)] = (Hd.bst true (z.take (i + 1)) vs).1 from by rw [hbe]]
    exact qNext rfl ((i + 1, 1, ((some ⟨bkl2, 0, none⟩), 1))) (by dsimp only; omega) ⟨by dsimp only; omega, by dsimp only; rw [hbe]; first | omega | rfl | (simp; omega)⟩ ((by repeat first | exact trivial | refine ⟨by first | rfl | exact vI (by rw [hbe]), ?_⟩)) (fun _ h => h.pick [0])
   ·
    replace g3 : ¬ ((Hd.bst true (z.take i) vs).2 < 0) := g3
    refine mvB rfl rfl rfl ?_
    refine mvB rfl rfl rfl ?_
    refine mvI rfl rfl rfl ?_
    refine mvI rfl rfl rfl ?_
    refine gtr rfl rfl rfl rfl ?_
    refine pickB rfl rfl rfl rfl ?_
    refine pickB rfl rfl rfl rfl ?_
    refine mvB rfl rfl rfl ?_
    refine rBoolD (d := 39) rfl (fun g4 => ?_) (fun g4 => ?_)
    ·
     replace g4 : (Hd.bst true (z.take i) vs).2 < (vs.getD (((z.getD i 0)).toNat) 0) := g4
     refine rSkipQ rfl rfl ?_
     refine rSkipQ rfl rfl ?_
     refine rSkipQ rfl rfl ?_
     refine rSkipQ rfl rfl ?_
     refine rSkipQ rfl rfl ?_
     refine rSkipQ rfl rfl ?_
     refine rSkipQ rfl rfl ?_
     refine pickB rfl rfl rfl rfl ?_
     refine asB rfl rfl rfl ?_
     refine rNil ?_
     refine qSeq rfl ?_
     refine hIfT rfl ?_
     refine hSeq ?_
     refine hReg (sq 0 (sq 1 sz)) (by kernel_rfl) ?_
     refine mvI rfl rfl rfl ?_
     refine asI rfl rfl rfl ?_
     refine rNil ?_
     refine qSeq rfl ?_
     refine hReg (sq 0 (sq 1 (sq 2 (sl 3 (sl 4 (sq 5 sz)))))) (by kernel_rfl) ?_
     refine mvS rfl rfl rfl ?_
     refine mvI rfl rfl rfl ?_
     refine ixIl (zn := i) el23 (Kn.drop (k := 1) kz) rfl rfl rfl rfl (by omega) (by omega) rfl ?_
     intro ae4 e4
     refine ldl Try.isAgg2 (e4) trv rfl rfl rfl ?_
     refine bsl trv1 rfl rfl rfl (bsl23_1 (.int .i64 _) rfl) (fun bkl3 hbkl3 => ?_)
     refine asS rfl rfl rfl ?_
     refine rNil ?_
     refine qSeq rfl ?_
     refine hReg (sq 0 (sq 1 (sq 2 sz))) (by kernel_rfl) ?_
     refine mvI rfl rfl rfl ?_
     refine add rfl rfl rfl rfl (by omega) ?_
     refine asI rfl rfl rfl ?_
     refine rNil ?_
     refine qPieces (fun _ h => Sep.litI h 0 [(z.getD i 0)] rfl rfl rfl) ?_
     refine qPieces (L' := [OwnI 2 (some ⟨bkl3, 0, none⟩) 1 1 [(z.getD i 0)], OwnI 2 hd.1 n hd.2 ((Hd.bst true (z.take i) vs).1)]) (fun _ h => h) ?_
     have hbe : Hd.bst true (z.take (i + 1)) vs = ([(z.getD i 0)], (vs.getD (((z.getD i 0)).toNat) 0)) := by first | exact Hd.b_neg hiz true (by omega) | exact Hd.b_hit hiz true (by omega) (by first | exact Or.inl (by omega) | exact Or.inr (Or.inl ⟨rfl, by omega⟩) | exact Or.inr (Or.inr ⟨rfl, by omega⟩)) | exact Hd.b_tie hiz true (by omega) (by omega) (by omega) | exact Hd.b_no hiz true (by omega) (by omega) (by first | exact Or.inl ⟨rfl, by omega⟩ | exact Or.inr ⟨rfl, by omega⟩)
     rw [show [(z.getD i 0)] = (Hd.bst true (z.take (i + 1)) vs).1 from by rw [hbe]]
     exact qNext rfl ((i + 1, 1, ((some ⟨bkl3, 0, none⟩), 1))) (by dsimp only; omega) ⟨by dsimp only; omega, by dsimp only; rw [hbe]; first | omega | rfl | (simp; omega)⟩ ((by repeat first | exact trivial | refine ⟨by first | rfl | exact vI (by rw [hbe]), ?_⟩)) (fun _ h => h.pick [0])
    ·
     replace g4 : ¬ ((Hd.bst true (z.take i) vs).2 < (vs.getD (((z.getD i 0)).toNat) 0)) := g4
     refine mvB rfl rfl rfl ?_
     refine not rfl rfl rfl ?_
     refine mvB rfl rfl rfl ?_
     refine rSkipQ rfl rfl ?_
     refine rSkipQ rfl rfl ?_
     refine rSkipQ rfl rfl ?_
     refine pickB rfl rfl rfl rfl ?_
     refine pickB rfl rfl rfl rfl ?_
     refine asB rfl rfl rfl ?_
     refine rNil ?_
     refine qSeq rfl ?_
     refine hIfF rfl ?_
     refine hSeq ?_
     refine hReg (sq 0 (sq 1 (sq 2 (sq 3 sz)))) (by kernel_rfl) ?_
     refine mvI rfl rfl rfl ?_
     refine mvI rfl rfl rfl ?_
     refine eql rfl rfl rfl rfl ?_
     refine asB rfl rfl rfl ?_
     refine rNil ?_
     refine qSeq rfl ?_
     refine hIfD rfl (fun c5 => ?_) (fun c5 => ?_)
     ·
      replace c5 : (vs.getD (((z.getD i 0)).toNat) 0) = (Hd.bst true (z.take i) vs).2 := c5
      refine hReg (sq 0 (sq 1 (sq 2 (sq 3 (sl 4 (sl 5 (sl 6 (sq 7 sz)))))))) (by kernel_rfl) ?_
      refine mvS rfl rfl rfl ?_
      refine mvS rfl rfl rfl ?_
      refine mvI rfl rfl rfl ?_
      refine ixIl (zn := i) el23 (Kn.drop (k := 1) kz) rfl rfl rfl rfl (by omega) (by omega) rfl ?_
      intro ae5 e5
      refine ldl Try.isAgg2 (e5) trv rfl rfl rfl ?_
      refine bsl trv1 rfl rfl rfl (bsl23_1 (.int .i64 _) rfl) (fun bkl4 hbkl4 => ?_)
      refine aplI (N := n) (x := (z.getD i 0)) 1 0 rfl rfl mk23 trv1 rfl rfl rfl rfl (by omega) ?_
      intro aq6 cq6
      refine asS rfl rfl rfl ?_
      refine rNil ?_
      refine qSeq rfl ?_
      refine hReg (sq 0 (sq 1 (sq 2 sz))) (by kernel_rfl) ?_
      refine mvI rfl rfl rfl ?_
      refine add rfl rfl rfl rfl (by omega) ?_
      refine asI rfl rfl rfl ?_
      refine rNil ?_
      refine qPieces (L' := [blk bkl4 2 [.int .i64 (z.getD i 0)], OwnI 2 aq6 (n + 1) cq6 (((Hd.bst true (z.take i) vs).1 ++ [(z.getD i 0)]))]) (fun _ h => h) ?_
      have hbe : Hd.bst true (z.take (i + 1)) vs = (((Hd.bst true (z.take i) vs).1 ++ [(z.getD i 0)]), (Hd.bst true (z.take i) vs).2) := by first | exact Hd.b_neg hiz true (by omega) | exact Hd.b_hit hiz true (by omega) (by first | exact Or.inl (by omega) | exact Or.inr (Or.inl ⟨rfl, by omega⟩) | exact Or.inr (Or.inr ⟨rfl, by omega⟩)) | exact Hd.b_tie hiz true (by omega) (by omega) (by omega) | exact Hd.b_no hiz true (by omega) (by omega) (by first | exact Or.inl ⟨rfl, by omega⟩ | exact Or.inr ⟨rfl, by omega⟩)
      rw [show ((Hd.bst true (z.take i) vs).1 ++ [(z.getD i 0)]) = (Hd.bst true (z.take (i + 1)) vs).1 from by rw [hbe]]
      exact qNext rfl ((i + 1, (n + 1), (aq6, cq6))) (by dsimp only; omega) ⟨by dsimp only; omega, by dsimp only; rw [hbe]; first | omega | rfl | (simp; omega)⟩ ((by repeat first | exact trivial | refine ⟨by first | rfl | exact vI (by rw [hbe]), ?_⟩)) (fun _ h => h.pick [1])
     ·
      replace c5 : ¬ ((vs.getD (((z.getD i 0)).toNat) 0) = (Hd.bst true (z.take i) vs).2) := c5
      refine hSkip ?_
      refine qSeq rfl ?_
      refine hReg (sq 0 (sq 1 (sq 2 sz))) (by kernel_rfl) ?_
      refine mvI rfl rfl rfl ?_
      refine add rfl rfl rfl rfl (by omega) ?_
      refine asI rfl rfl rfl ?_
      refine rNil ?_
      refine qPieces (L' := [OwnI 2 hd.1 n hd.2 ((Hd.bst true (z.take i) vs).1)]) (fun _ h => h) ?_
      have hbe : Hd.bst true (z.take (i + 1)) vs = ((Hd.bst true (z.take i) vs).1, (Hd.bst true (z.take i) vs).2) := by first | exact Hd.b_neg hiz true (by omega) | exact Hd.b_hit hiz true (by omega) (by first | exact Or.inl (by omega) | exact Or.inr (Or.inl ⟨rfl, by omega⟩) | exact Or.inr (Or.inr ⟨rfl, by omega⟩)) | exact Hd.b_tie hiz true (by omega) (by omega) (by omega) | exact Hd.b_no hiz true (by omega) (by omega) (by first | exact Or.inl ⟨rfl, by omega⟩ | exact Or.inr ⟨rfl, by omega⟩)
      rw [show (Hd.bst true (z.take i) vs).1 = (Hd.bst true (z.take (i + 1)) vs).1 from by rw [hbe]]
      exact qNext rfl ((i + 1, n, (hd.1, hd.2))) (by dsimp only; omega) ⟨by dsimp only; omega, by dsimp only; rw [hbe]; first | omega | rfl | (simp; omega)⟩ ((by repeat first | exact trivial | refine ⟨by first | rfl | exact vI (by rw [hbe]), ?_⟩)) (fun _ h => h.pick [0])
 ·
  replace c1 : ¬ ((i : Int) < (nz : Int)) := c1
  have hte : z.take i = z := List.take_of_length_le (by omega)
  refine hExit rfl ?_
  refine qSeq rfl ?_
  refine hSeq ?_
  refine hReg (sq 0 (sq 1 sz)) (by kernel_rfl) ?_
  refine mvS rfl rfl rfl ?_
  refine asS rfl rfl rfl ?_
  refine rNil ?_
  refine qSeq rfl ?_
  refine hRet ?_
  exact fun w hs => ⟨[.slice hd.1 n hd.2], ⟨rfl, trivial⟩, ⟨(hd.1, n, hd.2, (Hd.bst true (z.take i) vs).1), rfl, by rw [hte], hs.pick [0]⟩⟩
theorem spec_l13Best_false (az : Option Addr) (nz : Nat) (cz : Nat) (z : List Int) (avs : Option Addr) (nvs : Nat) (cvs : Nat) (vs : List Int) (hb : Bool) (w : World) (rz : RdI az nz z w) (rvs : RdI avs nvs vs w) (hw : ∀ x ∈ z, 0 ≤ x ∧ x < vs.length) (hzl : z.length ≤ 1000) (hhb : hb = false) :
  Calls Try.prog 121 #[.slice az nz cz, .slice avs nvs cvs, .bool hb] w (Ret fun v w' => ∃ x : Option Addr × Nat × Nat × List Int, v = .slice x.1 x.2.1 x.2.2.1 ∧ (x.2.2.2 = (Hd.bst false z vs).1) ∧ Sep w none_ [OwnI 2 x.1 x.2.1 x.2.2.1 x.2.2.2] w') := by
 have kz : Kn w none_ [] (RdI az nz z) := fun w' hs => rz.ext hs.upd
 have lz : z.length = nz := rz.1
 have mz : nz ≤ 9223372036854775807 := rz.2.1
 have kvs : Kn w none_ [] (RdI avs nvs vs) := fun w' hs => rvs.ext hs.upd
 have lvs : vs.length = nvs := rvs.1
 have mvs : nvs ≤ 9223372036854775807 := rvs.2.1
 subst hhb
 refine fn (M := none_) (rs := [.tmp 6]) Try.func121 rfl Try.ntmps121 rfl rfl (Sep.start _ _) ?_
 refine hSeq ?_
 refine hReg (sq 0 sz) (by kernel_rfl) ?_
 refine asS rfl rfl rfl ?_
 refine rNil ?_
 refine qSeq rfl ?_
 refine hSeq ?_
 refine hReg (sl 0 (sq 1 sz)) (by kernel_rfl) ?_
 refine bsl trv1 rfl rfl rfl (bsl23_0) (fun bkl1 hbkl1 => ?_)
 refine asS rfl rfl rfl ?_
 refine rNil ?_
 refine qSeq rfl ?_
 refine hSeq ?_
 refine hReg (sq 0 sz) (by kernel_rfl) ?_
 refine asI rfl rfl rfl ?_
 refine rNil ?_
 refine qSeq rfl ?_
 refine hSeq ?_
 refine hSeq ?_
 refine hReg (sq 0 sz) (by kernel_rfl) ?_
 refine asI rfl rfl rfl ?_
 refine rNil ?_
 refine qSeq rfl ?_
 refine hBlk ?_
 refine hPieces (fun _ h => Sep.litI h 0 [] rfl rfl rfl) ?_
 refine hLoop (α := Nat × Nat × Hd) (fun x => x.1 ≤ nz ∧ x.2.1 = (Hd.bst false (z.take x.1) vs).1.length) (fun x => nz - x.1) (fun x => [OwnI 2 x.2.2.1 x.2.1 x.2.2.2 ((Hd.bst false (z.take x.1) vs).1)]) (fun x => [(0, .slice az nz cz), (1, .slice avs nvs cvs), (2, .bool false), (7, .slice x.2.2.1 x.2.1 x.2.2.2), (8, .int .i64 ((Hd.bst false (z.take x.1) vs).2)), (9, .int .i64 (x.1 : Int))]) ((0, 0, ((some ⟨bkl1, 0, none⟩), 0))) ⟨Nat.zero_le _, rfl⟩ (fun _ h => h.pick [0]) ⟨rfl, rfl, rfl, rfl, rfl, rfl, trivial⟩ ?_
 rintro ⟨i, n, hd⟩ τ1 ⟨hi, hn⟩
 dsimp only at hi hn
 refine hRe [(0, .slice az nz cz), (1, .slice avs nvs cvs), (2, .bool false), (7, .slice hd.1 n hd.2), (8, .int .i64 ((Hd.bst false (z.take i) vs).2)), (9, .int .i64 (i : Int))] [OwnI 2 hd.1 n hd.2 ((Hd.bst false (z.take i) vs).1)] rfl rfl ?_
 refine hSeq ?_
 refine hSeq ?_
 refine hReg (sq 0 (sq 1 (sq 2 (sq 3 sz)))) (by kernel_rfl) ?_
 refine mvI rfl rfl rfl ?_
 refine mvS rfl rfl rfl ?_
 refine lenS Try.runUnderlying23 rfl rfl rfl ?_
 refine lss rfl rfl rfl rfl ?_
 refine rNil ?_
 refine qSeq rfl ?_
 refine hIfD rfl (fun c1 => ?_) (fun c1 => ?_)
 ·
  replace c1 : (i : Int) < (nz : Int) := c1
  have hiz : i < z.length := by omega
  have hx := hw _ (Math.getD_mem 0 hiz)
  have hbl := (Hd.bst_inv false vs (z.take i)).2
  rw [List.length_take] at hbl
  refine hSkip ?_
  refine qSeq rfl ?_
  refine hSeq ?_
  refine hBlk ?_
  refine hSeq ?_
  refine hReg (sq 0 (sq 1 (sq 2 (sq 3 (sl 4 (sq 5 (sl 6 (sq 7 sz)))))))) (by kernel_rfl) ?_
  refine mvS rfl rfl rfl ?_
  refine mvS rfl rfl rfl ?_
  refine mvI rfl rfl rfl ?_
  refine ixIl (zn := i) el23 (Kn.drop (k := 1) kz) rfl rfl rfl rfl (by omega) (by omega) rfl ?_
  intro ae1 e1
  refine ldl Try.isAgg2 (e1) trv rfl rfl rfl ?_
  refine ixIl (zn := ((z.getD i 0)).toNat) el23 (Kn.drop (k := 1) kvs) rfl rfl rfl rfl (by omega) (by omega) rfl ?_
  intro ae2 e2
  refine ldl Try.isAgg2 (e2) trv rfl rfl rfl ?_
  refine asI rfl rfl rfl ?_
  refine rNil ?_
  refine qSeq rfl ?_
  refine hBlk ?_
  refine hSeq ?_
  refine hReg (sq 0 (sq 1 (sq 2 sz))) (by kernel_rfl) ?_
  refine mvI rfl rfl rfl ?_
  refine lss rfl rfl rfl rfl ?_
  refine asB rfl rfl rfl ?_
  refine rNil ?_
  refine qSeq rfl ?_
  refine hIfD rfl (fun c2 => ?_) (fun c2 => ?_)
  ·
   replace c2 : (vs.getD (((z.getD i 0)).toNat) 0) < 0 := c2
   refine hExit rfl ?_
   refine qSeq rfl ?_
   refine hReg (sq 0 (sq 1 (sq 2 sz))) (by kernel_rfl) ?_
   refine mvI rfl rfl rfl ?_
   refine add rfl rfl rfl rfl (by omega) ?_
   refine asI rfl rfl rfl ?_
   refine rNil ?_
   refine qPieces (L' := [OwnI 2 hd.1 n hd.2 ((Hd.bst false (z.take i) vs).1)]) (fun _ h => h) ?_
   have hbe : Hd.bst false (z.take (i + 1)) vs = ((Hd.bst false (z.take i) vs).1, (Hd.bst false (z.take i) vs).2) := by first | exact Hd.b_neg hiz false (by omega) | exact Hd.b_hit hiz false (by omega) (by first | exact Or.inl (by omega) | exact Or.inr (Or.inl ⟨rfl, by omega⟩) | exact Or.inr (Or.inr ⟨rfl, by omega⟩)) | exact Hd.b_tie hiz false (by omega) (by omega) (by omega) | exact Hd.b_no hiz false (by omega) (by omega) (by first | exact Or.inl ⟨rfl, by omega⟩ | exact Or.inr ⟨rfl, by omega⟩)
   rw [show (Hd.bst false (z.take i) vs).1 = (Hd.bst false (z.take (i + 1)) vs).1 from by rw [hbe]]
   exact qNext rfl ((i + 1, n, (hd.1, hd.2))) (by dsimp only; omega) ⟨by dsimp only; omega, by dsimp only; rw [hbe]; first | omega | rfl | (simp; omega)⟩ ((by repeat first | exact trivial | refine ⟨by first | rfl | exact vI (by rw [hbe]), ?_⟩)) (fun _ h => h.pick [0])
  ·
   replace c2 : ¬ ((vs.getD (((z.getD i 0)).toNat) 0) < 0) := c2
   refine hSeq ?_
   refine hReg (sq 0 (sq 1 (sq 2 (sq 3 (sq 4 (sq 5 (sq 6 (sq 7 (sq 8 (sq 9 (sq 10 (sq 11 (sq 12 (sq 13 (sq 14 (sq 15 (sq 16 (sq 17 (sq 18 (sq 19 sz)))))))))))))))))))) (by kernel_rfl) ?_
   refine mvI rfl rfl rfl ?_
   refine lss rfl rfl rfl rfl ?_
   refine mvB rfl rfl rfl ?_
   refine rBoolD (d := 31) rfl (fun g3 => ?_) (fun g3 => ?_)
   ·
    replace g3 : (Hd.bst false (z.take i) vs).2 < 0 := g3
    refine rSkipQ rfl rfl ?_
    refine rSkipQ rfl rfl ?_
    refine rSkipQ rfl rfl ?_
    refine rSkipQ rfl rfl ?_
    refine rSkipQ rfl rfl ?_
    refine rSkipQ rfl rfl ?_
    refine pickB rfl rfl rfl rfl ?_
    refine mvB rfl rfl rfl ?_
    refine rSkipQ rfl rfl ?_
    refine rSkipQ rfl rfl ?_
    refine rSkipQ rfl rfl ?_
    refine rSkipQ rfl rfl ?_
    refine rSkipQ rfl rfl ?_
    refine rSkipQ rfl rfl ?_
    refine rSkipQ rfl rfl ?_
    refine pickB rfl rfl rfl rfl ?_
    refine asB rfl rfl rfl ?_
    refine rNil ?_
    refine qSeq rfl ?_
    refine hIfT rfl ?_
    refine hSeq ?_
    refine hReg (sq 0 (sq 1 sz)) (by kernel_rfl) ?_
    refine mvI rfl rfl rfl ?_
    refine asI rfl rfl rfl ?_
    refine rNil ?_
    refine qSeq rfl ?_
    refine hReg (sq 0 (sq 1 (sq 2 (sl 3 (sl 4 (sq 5 sz)))))) (by kernel_rfl) ?_
    refine mvS rfl rfl rfl ?_
    refine mvI rfl rfl rfl ?_
    refine ixIl (zn := i) el23 (Kn.drop (k := 1) kz) rfl rfl rfl rfl (by omega) (by omega) rfl ?_
    intro ae3 e3
    refine ldl Try.isAgg2 (e3) trv rfl rfl rfl ?_
    refine bsl trv1 rfl rfl rfl (bsl23_1 (.int .i64 _) rfl) (fun bkl2 hbkl2 => ?_)
    refine asS rfl rfl rfl ?_
    refine rNil ?_
    refine qSeq rfl ?_
    refine hReg (sq 0 (sq 1 (sq 2 sz))) (by kernel_rfl) ?_
    refine mvI rfl rfl rfl ?_
    refine add rfl rfl rfl rfl (by omega) ?_
    refine asI rfl rfl rfl ?_
    refine rNil ?_
    refine qPieces (fun _ h => Sep.litI h 0 [(z.getD i 0)] rfl rfl rfl) ?_
    refine qPieces (L' := [OwnI 2 (some ⟨bkl2, 0, none⟩) 1 1 [(z.getD i 0)], OwnI 2 hd.1 n hd.2 ((Hd.bst false (z.take i) vs).1)]) (fun _ h => h) ?_
    have hbe : Hd.bst false (z.take (i + 1)) vs = ([(z.getD i 0)], (vs.getD (((z.getD i 0)).toNat) 0)) := by first | exact Hd.b_neg hiz false (by omega) | exact Hd.b_hit hiz false (by omega) (by first | exact Or.inl (by omega) | exact Or.inr (Or.inl ⟨rfl, by omega⟩) | exact Or.inr (Or.inr ⟨rfl, by omega⟩)) | exact Hd.b_tie hiz false (by omega) (by omega) (by omega) | exact Hd.b_no hiz false (by omega) (by omega) (by first | exact Or.inl ⟨rfl, by omega⟩ | exact Or.inr ⟨rfl, by omega⟩)
    rw [show [(z.getD i 0)] = (Hd.bst false (z.take (i + 1)) vs).1 from by rw [hbe]]
    exact qNext rfl ((i + 1, 1, ((some ⟨bkl2, 0, none⟩), 1))) (by dsimp only; omega) ⟨by dsimp only; omega, by dsimp only; rw [hbe]; first | omega | rfl | (simp; omega)⟩ ((by repeat first | exact trivial | refine ⟨by first | rfl | exact vI (by rw [hbe]), ?_⟩)) (fun _ h => h.pick [0])
   ·
    replace g3 : ¬ ((Hd.bst false (z.take i) vs).2 < 0) := g3
    refine mvB rfl rfl rfl ?_
    refine mvB rfl rfl rfl ?_
    refine rSkipQ rfl rfl ?_
    refine rSkipQ rfl rfl ?_
    refine rSkipQ rfl rfl ?_
    refine pickB rfl rfl rfl rfl ?_
    refine pickB rfl rfl rfl rfl ?_
    refine mvB rfl rfl rfl ?_
    refine mvB rfl rfl rfl ?_
    refine not rfl rfl rfl ?_
    refine mvB rfl rfl rfl ?_
    refine mvI rfl rfl rfl ?_
    refine mvI rfl rfl rfl ?_
    refine lss rfl rfl rfl rfl ?_
    refine pickB rfl rfl rfl rfl ?_
    refine pickB rfl rfl rfl rfl ?_
    refine asB rfl rfl rfl ?_
    refine rNil ?_
    refine qSeq rfl ?_
    refine hIfD rfl (fun c4 => ?_) (fun c4 => ?_)
    ·
     replace c4 : (vs.getD (((z.getD i 0)).toNat) 0) < (Hd.bst false (z.take i) vs).2 := c4
     refine hSeq ?_
     refine hReg (sq 0 (sq 1 sz)) (by kernel_rfl) ?_
     refine mvI rfl rfl rfl ?_
     refine asI rfl rfl rfl ?_
     refine rNil ?_
     refine qSeq rfl ?_
     refine hReg (sq 0 (sq 1 (sq 2 (sl 3 (sl 4 (sq 5 sz)))))) (by kernel_rfl) ?_
     refine mvS rfl rfl rfl ?_
     refine mvI rfl rfl rfl ?_
     refine ixIl (zn := i) el23 (Kn.drop (k := 1) kz) rfl rfl rfl rfl (by omega) (by omega) rfl ?_
     intro ae4 e4
     refine ldl Try.isAgg2 (e4) trv rfl rfl rfl ?_
     refine bsl trv1 rfl rfl rfl (bsl23_1 (.int .i64 _) rfl) (fun bkl3 hbkl3 => ?_)
     refine asS rfl rfl rfl ?_
     refine rNil ?_
     refine qSeq rfl ?_
     refine hReg (sq 0 (sq 1 (sq 2 sz))) (by kernel_rfl) ?_
     refine mvI rfl rfl rfl ?_
     refine add rfl rfl rfl rfl (by omega) ?_
     refine asI rfl rfl rfl ?_
     refine rNil ?_
     refine qPieces (fun _ h => Sep.litI h 0 [(z.getD i 0)] rfl rfl rfl) ?_
     refine qPieces (L' := [OwnI 2 (some ⟨bkl3, 0, none⟩) 1 1 [(z.getD i 0)], OwnI 2 hd.1 n hd.2 ((Hd.bst false (z.take i) vs).1)]) (fun _ h => h) ?_
     have hbe : Hd.bst false (z.take (i + 1)) vs = ([(z.getD i 0)], (vs.getD (((z.getD i 0)).toNat) 0)) := by first | exact Hd.b_neg hiz false (by omega) | exact Hd.b_hit hiz false (by omega) (by first | exact Or.inl (by omega) | exact Or.inr (Or.inl ⟨rfl, by omega⟩) | exact Or.inr (Or.inr ⟨rfl, by omega⟩)) | exact Hd.b_tie hiz false (by omega) (by omega) (by omega) | exact Hd.b_no hiz false (by omega) (by omega) (by first | exact Or.inl ⟨rfl, by omega⟩ | exact Or.inr ⟨rfl, by omega⟩)
     rw [show [(z.getD i 0)] = (Hd.bst false (z.take (i + 1)) vs).1 from by rw [hbe]]
     exact qNext rfl ((i + 1, 1, ((some ⟨bkl3, 0, none⟩), 1))) (by dsimp only; omega) ⟨by dsimp only; omega, by dsimp only; rw [hbe]; first | omega | rfl | (simp; omega)⟩ ((by repeat first | exact trivial | refine ⟨by first | rfl | exact vI (by rw [hbe]), ?_⟩)) (fun _ h => h.pick [0])
    ·
     replace c4 : ¬ ((vs.getD (((z.getD i 0)).toNat) 0) < (Hd.bst false (z.take i) vs).2) := c4
     refine hSeq ?_
     refine hReg (sq 0 (sq 1 (sq 2 (sq 3 sz)))) (by kernel_rfl) ?_
     refine mvI rfl rfl rfl ?_
     refine mvI rfl rfl rfl ?_
     refine eql rfl rfl rfl rfl ?_
     refine asB rfl rfl rfl ?_
     refine rNil ?_
     refine qSeq rfl ?_
     refine hIfD rfl (fun c5 => ?_) (fun c5 => ?_)
     ·
      replace c5 : (vs.getD (((z.getD i 0)).toNat) 0) = (Hd.bst false (z.take i) vs).2 := c5
      refine hReg (sq 0 (sq 1 (sq 2 (sq 3 (sl 4 (sl 5 (sl 6 (sq 7 sz)))))))) (by kernel_rfl) ?_
      refine mvS rfl rfl rfl ?_
      refine mvS rfl rfl rfl ?_
      refine mvI rfl rfl rfl ?_
      refine ixIl (zn := i) el23 (Kn.drop (k := 1) kz) rfl rfl rfl rfl (by omega) (by omega) rfl ?_
      intro ae5 e5
      refine ldl Try.isAgg2 (e5) trv rfl rfl rfl ?_
      refine bsl trv1 rfl rfl rfl (bsl23_1 (.int .i64 _) rfl) (fun bkl4 hbkl4 => ?_)
      refine aplI (N := n) (x := (z.getD i 0)) 1 0 rfl rfl mk23 trv1 rfl rfl rfl rfl (by omega) ?_
      intro aq6 cq6
      refine asS rfl rfl rfl ?_
      refine rNil ?_
      refine qSeq rfl ?_
      refine hReg (sq 0 (sq 1 (sq 2 sz))) (by kernel_rfl) ?_
      refine mvI rfl rfl rfl ?_
      refine add rfl rfl rfl rfl (by omega) ?_
      refine asI rfl rfl rfl ?_
      refine rNil ?_
      refine qPieces (L' := [blk bkl4 2 [.int .i64 (z.getD i 0)], OwnI 2 aq6 (n + 1) cq6 (((Hd.bst false (z.take i) vs).1 ++ [(z.getD i 0)]))]) (fun _ h => h) ?_
      have hbe : Hd.bst false (z.take (i + 1)) vs = (((Hd.bst false (z.take i) vs).1 ++ [(z.getD i 0)]), (Hd.bst false (z.take i) vs).2) := by first | exact Hd.b_neg hiz false (by omega) | exact Hd.b_hit hiz false (by omega) (by first | exact Or.inl (by omega) | exact Or.inr (Or.inl ⟨rfl, by omega⟩) | exact Or.inr (Or.inr ⟨rfl, by omega⟩)) | exact Hd.b_tie hiz false (by omega) (by omega) (by omega) | exact Hd.b_no hiz false (by omega) (by omega) (by first | exact Or.inl ⟨rfl, by omega⟩ | exact Or.inr ⟨rfl, by omega⟩)
      rw [show ((Hd.bst false (z.take i) vs).1 ++ [(z.getD i 0)]) = (Hd.bst false (z.take (i + 1)) vs).1 from by rw [hbe]]
      exact qNext rfl ((i + 1, (n + 1), (aq6, cq6))) (by dsimp only; omega) ⟨by dsimp only; omega, by dsimp only; rw [hbe]; first | omega | rfl | (simp; omega)⟩ ((by repeat first | exact trivial | refine ⟨by first | rfl | exact vI (by rw [hbe]), ?_⟩)) (fun _ h => h.pick [1])
     ·
      replace c5 : ¬ ((vs.getD (((z.getD i 0)).toNat) 0) = (Hd.bst false (z.take i) vs).2) := c5
      refine hSkip ?_
      refine qSeq rfl ?_
      refine hReg (sq 0 (sq 1 (sq 2 sz))) (by kernel_rfl) ?_
      refine mvI rfl rfl rfl ?_
      refine add rfl rfl rfl rfl (by omega) ?_
      refine asI rfl rfl rfl ?_
      refine rNil ?_
      refine qPieces (L' := [OwnI 2 hd.1 n hd.2 ((Hd.bst false (z.take i) vs).1)]) (fun _ h => h) ?_
      have hbe : Hd.bst false (z.take (i + 1)) vs = ((Hd.bst false (z.take i) vs).1, (Hd.bst false (z.take i) vs).2) := by first | exact Hd.b_neg hiz false (by omega) | exact Hd.b_hit hiz false (by omega) (by first | exact Or.inl (by omega) | exact Or.inr (Or.inl ⟨rfl, by omega⟩) | exact Or.inr (Or.inr ⟨rfl, by omega⟩)) | exact Hd.b_tie hiz false (by omega) (by omega) (by omega) | exact Hd.b_no hiz false (by omega) (by omega) (by first | exact Or.inl ⟨rfl, by omega⟩ | exact Or.inr ⟨rfl, by omega⟩)
      rw [show (Hd.bst false (z.take i) vs).1 = (Hd.bst false (z.take (i + 1)) vs).1 from by rw [hbe]]
      exact qNext rfl ((i + 1, n, (hd.1, hd.2))) (by dsimp only; omega) ⟨by dsimp only; omega, by dsimp only; rw [hbe]; first | omega | rfl | (simp; omega)⟩ ((by repeat first | exact trivial | refine ⟨by first | rfl | exact vI (by rw [hbe]), ?_⟩)) (fun _ h => h.pick [0])
 ·
  replace c1 : ¬ ((i : Int) < (nz : Int)) := c1
  have hte : z.take i = z := List.take_of_length_le (by omega)
  refine hExit rfl ?_
  refine qSeq rfl ?_
  refine hSeq ?_
  refine hReg (sq 0 (sq 1 sz)) (by kernel_rfl) ?_
  refine mvS rfl rfl rfl ?_
  refine asS rfl rfl rfl ?_
  refine rNil ?_
  refine qSeq rfl ?_
  refine hRet ?_
  exact fun w hs => ⟨[.slice hd.1 n hd.2], ⟨rfl, trivial⟩, ⟨(hd.1, n, hd.2, (Hd.bst false (z.take i) vs).1), rfl, by rw [hte], hs.pick [0]⟩⟩
end Go.Proofs.Yteaahdakammffaa
/- Contracts of boards, as the model makes them. Their conditions stand in each. -/
namespace Go.Proofs.Yteaahdakammffaa
open Go Go.RowKit V
set_option linter.unusedVariables false
set_option linter.unusedSimpArgs false
set_option maxRecDepth 100000
end Go.Proofs.Yteaahdakammffaa
/- Contracts of hands, as the model makes them. Their conditions stand in each. -/
namespace Go.Proofs.Yteaahdakammffaa
open Go Go.RowKit V
set_option linter.unusedVariables false
set_option linter.unusedSimpArgs false
set_option maxRecDepth 100000
theorem spec_l06Hands_c (ho : Int) (lea : Int) (mo : Int) (bo : Int) (hi : Bool) (lo : Int) (az : Option Addr) (nz : Nat) (cz : Nat) (z : List Int) (aq : Option Addr) (nq : Nat) (cq : Nat) (q : List Int) (w : World) (rz : RdI az nz z w) (rq : RdI aq nq q w) (hmo : mo = 2) (hbo : bo = 5) (hlea : lea = 0 ∨ lea = 2) (hzl : z.length ≤ 4) (hq5 : q.length = 5) (hcz : nz ≤ cz) (hcq : nq ≤ cq) :
  Calls Try.prog 117 #[.agg #[.int .i64 ho, .int .i64 lea, .int .i64 mo, .int .i64 bo, .bool hi, .int .i64 lo], .slice az nz cz, .slice aq nq cq] w (Ret fun v w' => ∃ x : Option Addr × Nat × Nat × (Nat → Hd) × List (List Int), v = .slice x.1 x.2.1 x.2.2.1 ∧ (x.2.2.2.2 = Hd.handsV lea z q (3 - lea).toNat) ∧ Sep w none_ [OwnR maK 23 2 x.1 x.2.1 x.2.2.1 x.2.2.2.1 x.2.2.2.2] w') := by
 have kz : Kn w none_ [] (RdI az nz z) := fun w' hs => rz.ext hs.upd
 have lz : z.length = nz := rz.1
 have mz : nz ≤ 9223372036854775807 := rz.2.1
 have kq : Kn w none_ [] (RdI aq nq q) := fun w' hs => rq.ext hs.upd
 have lq : q.length = nq := rq.1
 have mq : nq ≤ 9223372036854775807 := rq.2.1
 subst hmo; subst hbo
 refine fn (M := none_) (rs := [.tmp 6]) Try.func117 rfl Try.ntmps117 rfl rfl (Sep.start _ _) ?_
 refine hSeq ?_
 refine hReg (sl 0 (sq 1 sz)) (by kernel_rfl) ?_
 refine box trv1 rfl rfl rfl rfl (fun bkb1 hbkb1 => ?_)
 refine asS rfl rfl rfl ?_
 refine rNil ?_
 refine qSeq rfl ?_
 refine hSeq ?_
 refine hReg (sl 0 (sq 1 sz)) (by kernel_rfl) ?_
 refine bsl trv1 rfl rfl rfl (bsl22_0) (fun bkl2 hbkl2 => ?_)
 refine asS rfl rfl rfl ?_
 refine rNil ?_
 refine qSeq rfl ?_
 refine hSeq ?_
 refine hSeq ?_
 refine hReg (sq 0 (sl 1 (sq 2 sz))) (by kernel_rfl) ?_
 refine fld fl109_1 rfl rfl rfl ?_
 refine ldl Try.isAgg2 (cB 1 rfl rfl) trv rfl rfl rfl ?_
 refine asI rfl rfl rfl ?_
 refine rNil ?_
 refine qSeq rfl ?_
 refine hBlk ?_
 refine hPieces (fun _ h => Sep.litR maK 23 2 (fun _ => (none, 0)) h 0 rfl) ?_
 refine hLoop (α := Nat × List (List Int) × Nat × Hd × (Nat → Hd)) (fun x => x.1 ≤ (3 - lea).toNat ∧ (x.2.1 = Hd.handsV lea z q x.1 ∧ (x.2.2.1 = x.2.1.length ∧ x.2.2.1 ≤ 200000 * x.1))) (fun x => (3 - lea).toNat - x.1) (fun x => [OwnR maK 23 2 x.2.2.2.1.1 x.2.2.1 x.2.2.2.1.2 x.2.2.2.2 x.2.1, blk bkb1 109 [.int .i64 ho, .int .i64 lea, .int .i64 2, .int .i64 5, .bool hi, .int .i64 lo]]) (fun x => [(1, .slice az nz cz), (2, .slice aq nq cq), (3, .pointer (some ⟨bkb1, 0, none⟩)), (7, .slice x.2.2.2.1.1 x.2.2.1 x.2.2.2.1.2), (8, .int .i64 ((lea + (x.1 : Int))))]) ((0, [], 0, (((some ⟨bkl2, 0, none⟩), 0), (fun _ => (none, 0))))) ⟨Nat.zero_le _, rfl, rfl, Nat.zero_le _⟩ (fun _ h => h.pick [0, 0]) (by repeat first | exact trivial | refine ⟨by first | rfl | exact vI (by simp), ?_⟩) ?_
 rintro ⟨i, o, n, hd⟩ τ1 ⟨hi1, hoe, hn, hnb⟩
 dsimp only at hi1 hoe hn hnb
 refine hRe [(1, .slice az nz cz), (2, .slice aq nq cq), (3, .pointer (some ⟨bkb1, 0, none⟩)), (7, .slice hd.1.1 n hd.1.2), (8, .int .i64 ((lea + (i : Int))))] [OwnR maK 23 2 hd.1.1 n hd.1.2 hd.2 o, blk bkb1 109 [.int .i64 ho, .int .i64 lea, .int .i64 2, .int .i64 5, .bool hi, .int .i64 lo]] rfl rfl ?_
 refine hSeq ?_
 refine hSeq ?_
 refine hReg (sq 0 (sq 1 (sl 2 (sq 3 sz)))) (by kernel_rfl) ?_
 refine mvI rfl rfl rfl ?_
 refine fld fl109_2 rfl rfl rfl ?_
 refine ldl Try.isAgg2 (cB 1 rfl rfl) trv rfl rfl rfl ?_
 refine leq rfl rfl rfl rfl ?_
 refine rNil ?_
 refine qSeq rfl ?_
 refine hIfD rfl (fun c1 => ?_) (fun c1 => ?_)
 ·
  replace c1 : (lea + (i : Int)) ≤ 2 := c1
  refine hSkip ?_
  refine qSeq rfl ?_
  refine hSeq ?_
  refine hBlk ?_
  refine hSeq ?_
  refine hSeq ?_
  refine hReg (sq 0 (sq 1 (sq 2 (sl 3 (sq 4 sz))))) (by kernel_rfl) ?_
  refine mvI rfl rfl rfl ?_
  refine sub rfl rfl rfl rfl (by omega) ?_
  refine fld fl109_3 rfl rfl rfl ?_
  refine ldl Try.isAgg2 (cB 1 rfl rfl) trv rfl rfl rfl ?_
  refine gtr rfl rfl rfl rfl ?_
  refine rNil ?_
  refine qSeq rfl ?_
  refine hIfD rfl (fun c2 => ?_) (fun c2 => ?_)
  ·
   replace c2 : 5 < (5 - (lea + (i : Int))) := c2
   exfalso; omega
  ·
   replace c2 : ¬ (5 < (5 - (lea + (i : Int)))) := c2
   have hfb : (Cm.chs z (lea + (i : Int)).toNat).length ≤ 25 := Hd.chs25 (by omega) (by omega)
   have hsb : (Cm.chs q (5 - (lea + (i : Int))).toNat).length ≤ 7776 := Hd.chs7776 (by omega) (by omega)
   refine hSkip ?_
   refine qSeq rfl ?_
   refine hSeq ?_
   refine hReg (sq 0 (sq 1 (sl 2 (sq 3 sz)))) (by kernel_rfl) ?_
   refine mvS rfl rfl rfl ?_
   refine mvI rfl rfl rfl ?_
   refine callS Try.call136 trv1 rfl rfl (fun w hs => spec_l04Choices_c _ nz cz _ _ w (Kn.drop (k := 2) kz w hs) (by first | assumption | omega) (by omega) (by first | omega | (rw [List.length_drop]; omega))) ?_
   rintro ⟨ay1, ny1, cy1, Hy1, y1⟩ hr1
   dsimp only at hr1
   subst y1
   refine rPieces (L' := [OwnR maK 23 2 ay1 ny1 cy1 Hy1 (((Cm.chs z ((lea + (i : Int))).toNat))), OwnR maK 23 2 hd.1.1 n hd.1.2 hd.2 o, blk bkb1 109 [.int .i64 ho, .int .i64 lea, .int .i64 2, .int .i64 5, .bool hi, .int .i64 lo]]) (fun _ h => h) ?_
   refine rKnow (fun w hs => (show OwnR maK 23 2 ay1 ny1 cy1 Hy1 (((Cm.chs z ((lea + (i : Int))).toNat))) w from hs.at_ 0 rfl).1) (fun lenn3 => ?_)
   refine rVal (v' := .slice ay1 ny1 cy1) rfl ?_
   refine asS rfl rfl rfl ?_
   refine rNil ?_
   refine qSeq rfl ?_
   refine hSeq ?_
   refine hReg (sq 0 (sq 1 (sq 2 (sl 3 (sq 4 sz))))) (by kernel_rfl) ?_
   refine mvS rfl rfl rfl ?_
   refine mvI rfl rfl rfl ?_
   refine sub rfl rfl rfl rfl (by omega) ?_
   refine callS Try.call136 trv1 rfl rfl (fun w hs => spec_l04Choices_c _ nq cq _ _ w (Kn.drop (k := 3) kq w hs) (by first | assumption | omega) (by omega) (by first | omega | (rw [List.length_drop]; omega))) ?_
   rintro ⟨ay2, ny2, cy2, Hy2, y2⟩ hr2
   dsimp only at hr2
   subst y2
   refine rPieces (L' := [OwnR maK 23 2 ay2 ny2 cy2 Hy2 (((Cm.chs q ((5 - (lea + (i : Int)))).toNat))), OwnR maK 23 2 ay1 ny1 cy1 Hy1 (((Cm.chs z ((lea + (i : Int))).toNat))), OwnR maK 23 2 hd.1.1 n hd.1.2 hd.2 o, blk bkb1 109 [.int .i64 ho, .int .i64 lea, .int .i64 2, .int .i64 5, .bool hi, .int .i64 lo]]) (fun _ h => h) ?_
   refine rKnow (fun w hs => (show OwnR maK 23 2 ay2 ny2 cy2 Hy2 (((Cm.chs q ((5 - (lea + (i : Int)))).toNat))) w from hs.at_ 0 rfl).1) (fun lenn4 => ?_)
   refine rVal (v' := .slice ay2 ny2 cy2) rfl ?_
   refine asS rfl rfl rfl ?_
   refine rNil ?_
   refine qSeq rfl ?_
   refine hSeq ?_
   refine hReg (sq 0 sz) (by kernel_rfl) ?_
   refine asI rfl rfl rfl ?_
   refine rNil ?_
   refine qSeq rfl ?_
   refine hBlk ?_
   refine hLoop (α := Nat × List (List Int) × Nat × Hd × (Nat → Hd)) (fun x => x.1 ≤ (Cm.chs z (lea + (i : Int)).toNat).length ∧ (x.2.1 = o ++ ((Cm.chs z (lea + (i : Int)).toNat).take x.1).flatMap (fun a => ((Cm.chs q (5 - (lea + (i : Int))).toNat).map (fun t => a ++ t))) ∧ (x.2.2.1 = x.2.1.length ∧ x.2.2.1 ≤ 200000 * i + 7776 * x.1))) (fun x => (Cm.chs z (lea + (i : Int)).toNat).length - x.1) (fun x => [OwnR maK 23 2 ay2 ny2 cy2 Hy2 (((Cm.chs q ((5 - (lea + (i : Int)))).toNat))), OwnR maK 23 2 ay1 ny1 cy1 Hy1 (((Cm.chs z ((lea + (i : Int))).toNat))), OwnR maK 23 2 x.2.2.2.1.1 x.2.2.1 x.2.2.2.1.2 x.2.2.2.2 x.2.1, blk bkb1 109 [.int .i64 ho, .int .i64 lea, .int .i64 2, .int .i64 5, .bool hi, .int .i64 lo]]) (fun x => [(1, .slice az nz cz), (2, .slice aq nq cq), (3, .pointer (some ⟨bkb1, 0, none⟩)), (7, .slice x.2.2.2.1.1 x.2.2.1 x.2.2.2.1.2), (8, .int .i64 ((lea + (i : Int)))), (9, .slice ay1 ny1 cy1), (10, .slice ay2 ny2 cy2), (11, .int .i64 (x.1 : Int))]) ((0, o, n, ((hd.1.1, hd.1.2), hd.2))) ⟨Nat.zero_le _, by dsimp only; rw [List.take_zero]; simp, hn, by dsimp only; omega⟩ (fun _ h => h.pick [0, 0, 0, 0]) ⟨rfl, rfl, rfl, rfl, rfl, rfl, rfl, rfl, trivial⟩ ?_
   rintro ⟨j, p, m, he⟩ τ2 ⟨hj, hp, hm, hmb⟩
   dsimp only at hj hp hm hmb
   refine hRe [(1, .slice az nz cz), (2, .slice aq nq cq), (3, .pointer (some ⟨bkb1, 0, none⟩)), (7, .slice he.1.1 m he.1.2), (8, .int .i64 ((lea + (i : Int)))), (9, .slice ay1 ny1 cy1), (10, .slice ay2 ny2 cy2), (11, .int .i64 (j : Int))] [OwnR maK 23 2 ay2 ny2 cy2 Hy2 (((Cm.chs q ((5 - (lea + (i : Int)))).toNat))), OwnR maK 23 2 ay1 ny1 cy1 Hy1 (((Cm.chs z ((lea + (i : Int))).toNat))), OwnR maK 23 2 he.1.1 m he.1.2 he.2 p, blk bkb1 109 [.int .i64 ho, .int .i64 lea, .int .i64 2, .int .i64 5, .bool hi, .int .i64 lo]] rfl rfl ?_
   refine hSeq ?_
   refine hSeq ?_
   refine hReg (sq 0 (sq 1 (sq 2 (sq 3 sz)))) (by kernel_rfl) ?_
   refine mvI rfl rfl rfl ?_
   refine mvS rfl rfl rfl ?_
   refine lenS Try.runUnderlying22 rfl rfl rfl ?_
   refine lss rfl rfl rfl rfl ?_
   refine rNil ?_
   refine qSeq rfl ?_
   refine hIfD rfl (fun c3 => ?_) (fun c3 => ?_)
   ·
    replace c3 : (j : Int) < (ny1 : Int) := c3
    have hjl : j < (Cm.chs z (lea + (i : Int)).toNat).length := by omega
    have hjg : (Cm.chs z (lea + (i : Int)).toNat).getD j [] = (Cm.chs z (lea + (i : Int)).toNat)[j] := by rw [List.getD_eq_getElem?_getD, List.getElem?_eq_getElem hjl]; rfl
    have hrw := (Cm.chs_row _ _ _ (Cm.getD_mem' (d := []) hjl)).1
    refine hSkip ?_
    refine qSeq rfl ?_
    refine hSeq ?_
    refine hBlk ?_
    refine hSeq ?_
    refine hReg (sq 0 sz) (by kernel_rfl) ?_
    refine asI rfl rfl rfl ?_
    refine rNil ?_
    refine qSeq rfl ?_
    refine hBlk ?_
    refine hLoop (α := Nat × List (List Int) × Nat × Hd × (Nat → Hd)) (fun x => x.1 ≤ (Cm.chs q (5 - (lea + (i : Int))).toNat).length ∧ (x.2.1 = p ++ ((Cm.chs q (5 - (lea + (i : Int))).toNat).take x.1).map (fun t => (Cm.chs z (lea + (i : Int)).toNat).getD j [] ++ t) ∧ (x.2.2.1 = x.2.1.length ∧ x.2.2.1 ≤ 200000 * i + 7776 * j + x.1))) (fun x => (Cm.chs q (5 - (lea + (i : Int))).toNat).length - x.1) (fun x => [OwnR maK 23 2 ay2 ny2 cy2 Hy2 (((Cm.chs q ((5 - (lea + (i : Int)))).toNat))), OwnR maK 23 2 ay1 ny1 cy1 Hy1 (((Cm.chs z ((lea + (i : Int))).toNat))), OwnR maK 23 2 x.2.2.2.1.1 x.2.2.1 x.2.2.2.1.2 x.2.2.2.2 x.2.1, blk bkb1 109 [.int .i64 ho, .int .i64 lea, .int .i64 2, .int .i64 5, .bool hi, .int .i64 lo]]) (fun x => [(1, .slice az nz cz), (2, .slice aq nq cq), (3, .pointer (some ⟨bkb1, 0, none⟩)), (7, .slice x.2.2.2.1.1 x.2.2.1 x.2.2.2.1.2), (8, .int .i64 ((lea + (i : Int)))), (9, .slice ay1 ny1 cy1), (10, .slice ay2 ny2 cy2), (11, .int .i64 (j : Int)), (12, .int .i64 (x.1 : Int))]) ((0, p, m, ((he.1.1, he.1.2), he.2))) ⟨Nat.zero_le _, by dsimp only; rw [List.take_zero]; simp, hm, by dsimp only; omega⟩ (fun _ h => h.pick [0, 0, 0, 0]) ⟨rfl, rfl, rfl, rfl, rfl, rfl, rfl, rfl, rfl, trivial⟩ ?_
    rintro ⟨k, u, l, hf⟩ τ3 ⟨hk, hu, hl, hlb⟩
    dsimp only at hk hu hl hlb
    refine hRe [(1, .slice az nz cz), (2, .slice aq nq cq), (3, .pointer (some ⟨bkb1, 0, none⟩)), (7, .slice hf.1.1 l hf.1.2), (8, .int .i64 ((lea + (i : Int)))), (9, .slice ay1 ny1 cy1), (10, .slice ay2 ny2 cy2), (11, .int .i64 (j : Int)), (12, .int .i64 (k : Int))] [OwnR maK 23 2 ay2 ny2 cy2 Hy2 (((Cm.chs q ((5 - (lea + (i : Int)))).toNat))), OwnR maK 23 2 ay1 ny1 cy1 Hy1 (((Cm.chs z ((lea + (i : Int))).toNat))), OwnR maK 23 2 hf.1.1 l hf.1.2 hf.2 u, blk bkb1 109 [.int .i64 ho, .int .i64 lea, .int .i64 2, .int .i64 5, .bool hi, .int .i64 lo]] rfl rfl ?_
    refine hSeq ?_
    refine hSeq ?_
    refine hReg (sq 0 (sq 1 (sq 2 (sq 3 sz)))) (by kernel_rfl) ?_
    refine mvI rfl rfl rfl ?_
    refine mvS rfl rfl rfl ?_
    refine lenS Try.runUnderlying22 rfl rfl rfl ?_
    refine lss rfl rfl rfl rfl ?_
    refine rNil ?_
    refine qSeq rfl ?_
    refine hIfD rfl (fun c4 => ?_) (fun c4 => ?_)
    ·
     replace c4 : (k : Int) < (ny2 : Int) := c4
     have hkl : k < (Cm.chs q (5 - (lea + (i : Int))).toNat).length := by omega
     have hkg : (Cm.chs q (5 - (lea + (i : Int))).toNat).getD k [] = (Cm.chs q (5 - (lea + (i : Int))).toNat)[k] := by rw [List.getD_eq_getElem?_getD, List.getElem?_eq_getElem hkl]; rfl
     have hrw2 := (Cm.chs_row _ _ _ (Cm.getD_mem' (d := []) hkl)).1
     refine hSkip ?_
     refine qSeq rfl ?_
     refine hSeq ?_
     refine hBlk ?_
     refine hPieces (L' := [blk bkb1 109 [.int .i64 ho, .int .i64 lea, .int .i64 2, .int .i64 5, .bool hi, .int .i64 lo], OwnR maK 23 2 ay2 ny2 cy2 Hy2 (((Cm.chs q ((5 - (lea + (i : Int)))).toNat))), OwnR maK 23 2 ay1 ny1 cy1 Hy1 (((Cm.chs z ((lea + (i : Int))).toNat))), OwnR maK 23 2 hf.1.1 l hf.1.2 hf.2 u]) (fun _ h => h.perm (pull (i := 3) rfl)) ?_
     refine hPieces (L' := [OwnR maK 23 2 hf.1.1 l hf.1.2 hf.2 u, blk bkb1 109 [.int .i64 ho, .int .i64 lea, .int .i64 2, .int .i64 5, .bool hi, .int .i64 lo], OwnR maK 23 2 ay2 ny2 cy2 Hy2 (((Cm.chs q ((5 - (lea + (i : Int)))).toNat))), OwnR maK 23 2 ay1 ny1 cy1 Hy1 (((Cm.chs z ((lea + (i : Int))).toNat)))]) (fun _ h => h.perm (pull (i := 3) rfl)) ?_
     refine hDraw (Ls := [OwnR maK 23 2 ay2 ny2 cy2 Hy2 (((Cm.chs q ((5 - (lea + (i : Int)))).toNat))), OwnR maK 23 2 ay1 ny1 cy1 Hy1 (((Cm.chs z ((lea + (i : Int))).toNat)))]) (by kernel_rfl) (sq 0 (sq 1 (sq 2 (sq 3 (sq 4 (sq 6 (sq 7 (sq 8 (sq 9 (sl 5 (sl 10 (sl 11 (sl 12 (sq 13 sz)))))))))))))) (by kernel_rfl) (.cons _ (.cons _ (.cons_cons _ (.cons_cons _ .slnil)))) ?_
     refine mvS rfl rfl rfl ?_
     refine mvS rfl rfl rfl ?_
     refine mvI rfl rfl rfl ?_
     refine ixRq (zn := j) ((((Cm.chs z ((lea + (i : Int))).toNat))).getD j []) el22 ((Kn.at_ 1 rfl).imp fun _ h => OwnR.rd h maK.ok) (fun _ h => h.pick [2, 2]) rfl rfl rfl rfl (by omega) (by omega) rfl (nth [] (by omega)) ?_
     intro be3 oe3 e3
     refine ldq Try.isAgg23 (Kn.fld e3 0 rfl) rfl rfl rfl ?_
     refine mvS rfl rfl rfl ?_
     refine mvI rfl rfl rfl ?_
     refine ixRq (zn := k) ((((Cm.chs q ((5 - (lea + (i : Int)))).toNat))).getD k []) el22 ((Kn.at_ 0 rfl).imp fun _ h => OwnR.rd h maK.ok) (fun _ h => h.pick [2, 2]) rfl rfl rfl rfl (by omega) (by omega) rfl (nth [] (by omega)) ?_
     intro be4 oe4 e4
     refine ldq Try.isAgg23 (Kn.fld e4 0 rfl) rfl rfl rfl ?_
     refine callS Try.call71 (by exact (fun _ _ h => h.pick [3, 3])) rfl rfl (fun w hs => spec_l01Own_c _ (((((Cm.chs z ((lea + (i : Int))).toNat))).getD j []).length) ((Hy1 j).2) _ w (Kn.drop (k := 2) ((Kn.imp ((Kn.at_ (φ := OwnR maK 23 2 ay1 ny1 cy1 Hy1 (((Cm.chs z ((lea + (i : Int))).toNat)))) 1 rfl).imp fun _ h => OwnR.rd h maK.ok) fun _ h => h.kidM (nth [] (by omega)))) w hs) (by omega)) ?_
     rintro ⟨ay5, ny5, cy5, y5⟩ hr5
     dsimp only at hr5
     subst y5
     refine rPieces (L' := [OwnI 2 ay5 ny5 cy5 ((((((((Cm.chs z ((lea + (i : Int))).toNat))).getD j []))))), OwnR maK 23 2 hf.1.1 l hf.1.2 hf.2 u, blk bkb1 109 [.int .i64 ho, .int .i64 lea, .int .i64 2, .int .i64 5, .bool hi, .int .i64 lo], OwnR maK 23 2 ay2 ny2 cy2 Hy2 (((Cm.chs q ((5 - (lea + (i : Int)))).toNat))), OwnR maK 23 2 ay1 ny1 cy1 Hy1 (((Cm.chs z ((lea + (i : Int))).toNat)))]) (fun _ h => h) ?_
     refine rKnow (fun w hs => (show OwnI 2 ay5 ny5 cy5 ((((((((Cm.chs z ((lea + (i : Int))).toNat))).getD j []))))) w from hs.at_ 0 rfl).lenz) (fun lenn5 => ?_)
     refine rVal (v' := .slice ay5 ny5 cy5) rfl ?_
     refine aplL (N := ny5) (ys := (((((Cm.chs q ((5 - (lea + (i : Int)))).toNat))).getD k []))) 0 rfl (Kn.drop (k := 3) ((Kn.imp ((Kn.at_ (φ := OwnR maK 23 2 ay2 ny2 cy2 Hy2 (((Cm.chs q ((5 - (lea + (i : Int)))).toNat)))) 0 rfl).imp fun _ h => OwnR.rd h maK.ok) fun _ h => h.kidM (nth [] (by omega))))) mk23 (fun _ _ h => h.pick [3, 3]) rfl rfl rfl rfl (by omega) ?_
     intro aq6 cq6
     refine bsl (fun _ _ h => h.pick [4, 4]) rfl rfl rfl (bsl22_1 (.slice _ _ _) rfl) (fun bkl6 hbkl6 => ?_)
     refine apR (hd := (aq6, cq6)) (x := ((((((((Cm.chs z ((lea + (i : Int))).toNat))).getD j [])))) ++ ((((Cm.chs q ((5 - (lea + (i : Int)))).toNat))).getD k []))) 2 1 0 maK.ok rfl rfl rfl (fun h => by first | rfl | (dsimp only at h; rw [h]; rfl) | (rw [h]; rfl) | exact congrArg (fun m => [Value.slice _ m _]) h) mk22 (fun _ _ h => h.pick [3, 3]) rfl rfl rfl rfl (by omega) ?_
     intro aq7 cq7
     refine asS rfl rfl rfl ?_
     refine rNil ?_
     refine qSeq rfl ?_
     refine hReg (sq 0 (sq 1 (sq 2 sz))) (by kernel_rfl) ?_
     refine mvI rfl rfl rfl ?_
     refine add rfl rfl rfl rfl (by omega) ?_
     refine asI rfl rfl rfl ?_
     refine rNil ?_
     exact qNext rfl ((k + 1, (u ++ [((((((((Cm.chs z ((lea + (i : Int))).toNat))).getD j [])))) ++ ((((Cm.chs q ((5 - (lea + (i : Int)))).toNat))).getD k []))]), (l + 1), ((aq7, cq7), (hset hf.2 u.length (aq6, cq6))))) (by omega) ⟨by dsimp only; omega, by dsimp only; rw [hu, List.take_succ_eq_append_getElem hkl, List.map_append, List.append_assoc, ← hkg]; rfl, by dsimp only; rw [List.length_append]; simp; omega, by dsimp only; omega⟩ ⟨rfl, rfl, rfl, rfl, rfl, rfl, rfl, rfl, rfl, trivial⟩ (fun _ h => h.pick [3, 3, 0, 1])
    ·
     replace c4 : ¬ ((k : Int) < (ny2 : Int)) := c4
     have hu2 : u = p ++ ((Cm.chs q (5 - (lea + (i : Int))).toNat).map (fun t => ((Cm.chs z (lea + (i : Int)).toNat).getD j []) ++ t)) := by rw [hu, List.take_of_length_le (by omega)]
     refine hExit rfl ?_
     refine qSeq rfl ?_
     refine hReg (sq 0 (sq 1 (sq 2 sz))) (by kernel_rfl) ?_
     refine mvI rfl rfl rfl ?_
     refine add rfl rfl rfl rfl (by omega) ?_
     refine asI rfl rfl rfl ?_
     refine rNil ?_
     exact qNext rfl ((j + 1, u, l, ((hf.1.1, hf.1.2), hf.2))) (by omega) ⟨by dsimp only; omega, by dsimp only; rw [hu2, hp, List.take_succ_eq_append_getElem hjl, List.flatMap_append, ← hjg, List.append_assoc]; simp, by dsimp only; omega, by dsimp only; omega⟩ ⟨rfl, rfl, rfl, rfl, rfl, rfl, rfl, rfl, trivial⟩ (fun _ h => h.pick [0, 0, 0, 0])
   ·
    replace c3 : ¬ ((j : Int) < (ny1 : Int)) := c3
    have hp2 : p = Hd.handsV lea z q (i + 1) := by rw [hp, hoe, List.take_of_length_le (by omega)]; exact Hd.handsV_step (by omega) (by omega)
    refine hExit rfl ?_
    refine qSeq rfl ?_
    refine hReg (sq 0 (sq 1 (sq 2 sz))) (by kernel_rfl) ?_
    refine mvI rfl rfl rfl ?_
    refine add rfl rfl rfl rfl (by omega) ?_
    refine asI rfl rfl rfl ?_
    refine rNil ?_
    exact qNext rfl ((i + 1, p, m, ((he.1.1, he.1.2), he.2))) (by omega) ⟨by dsimp only; omega, by dsimp only; exact hp2, by dsimp only; omega, by dsimp only; omega⟩ ((by repeat first | exact trivial | refine ⟨by first | rfl | exact vI (by push_cast; omega), ?_⟩)) (fun _ h => h.pick [2, 2])
 ·
  replace c1 : ¬ ((lea + (i : Int)) ≤ 2) := c1
  refine hExit rfl ?_
  refine qSeq rfl ?_
  refine hSeq ?_
  refine hReg (sq 0 (sq 1 sz)) (by kernel_rfl) ?_
  refine mvS rfl rfl rfl ?_
  refine asS rfl rfl rfl ?_
  refine rNil ?_
  refine qSeq rfl ?_
  refine hRet ?_
  exact fun w hs => ⟨[.slice hd.1.1 n hd.1.2], ⟨rfl, trivial⟩, ⟨(hd.1.1, n, hd.1.2, hd.2, o), rfl, by rw [hoe, show i = (3 - lea).toNat by omega], hs.pick [0]⟩⟩
end Go.Proofs.Yteaahdakammffaa
