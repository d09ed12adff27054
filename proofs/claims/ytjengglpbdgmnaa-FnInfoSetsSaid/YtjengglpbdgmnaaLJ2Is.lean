/- Contracts of games that laws draw. Their conditions stand in each. -/
import Derived.Test.YtjengglpbdgmnaaEngCIs
import Derived.Test.YtjengglpbdgmnaaTreeIs
import Derived.Test.YtjengglpbdgmnaaGameIs
import Derived.Test.YtjengglpbdgmnaaSetsIs
import Derived.Test.YtjengglpbdgmnaaHighIs
import Derived.Test.YtjengglpbdgmnaaGrowIs
import Derived.Test.YtjengglpbdgmnaaBetIs
import Derived.Test.YtjengglpbdgmnaaDrawIs
import Derived.Test.YtjengglpbdgmnaaCopyIs
import Derived.Test.YtjengglpbdgmnaaSrc0Is
import Derived.Test.YtjengglpbdgmnaaSrcIs
import Derived.Test.YtjengglpbdgmnaaSrc2Is
import Derived.Test.YtjengglpbdgmnaaSrcWIs
import Derived.Test.YtjengglpbdgmnaaL1Is
import Derived.Test.YtjengglpbdgmnaaL2Is
import Derived.Test.YtjengglpbdgmnaaL3Is
import Derived.Test.YtjengglpbdgmnaaL4Is
import Derived.Test.YtjengglpbdgmnaaLCIs
import Derived.Test.YtjengglpbdgmnaaLTIs
import Derived.Test.YtjengglpbdgmnaaLSIs
import Derived.Test.YtjengglpbdgmnaaLZIs
import Derived.Test.YtjengglpbdgmnaaLIIs
import Derived.Test.YtjengglpbdgmnaaLJIs
import Derived.Test.YtjengglpbdgmnaaLVIs
import Derived.Test.YtjengglpbdgmnaaRows
namespace Go.Proofs.Ytjengglpbdgmnaa
open Go Go.RowKit V
set_option linter.unusedVariables false
set_option linter.unusedSimpArgs false
set_option maxRecDepth 100000
theorem fl56_0 : Fld Try.prog 56 0 0 := by
 intro w ad; simp [Instr.fieldAt, Try.runUnderlying56, Instr.sureAddr, fieldPlace, Try.sizeOf2]
theorem fl56_1 : Fld Try.prog 56 1 1 := by
 intro w ad; simp [Instr.fieldAt, Try.runUnderlying56, Instr.sureAddr, fieldPlace, Try.sizeOf41]
theorem laws_likeLists_c (az : Option Addr) (nz : Nat) (cz : Nat) (Hz : Nat → Hd) (z : List (List Int)) (ay : Option Addr) (ny : Nat) (cy : Nat) (Hy : Nat → Hd) (y : List (List Int)) (w : World) (rz : RdR maK az nz Hz z w) (ry : RdR maK ay ny Hy y w) (heq : z = y) :
  Calls Try.prog 45 #[.slice az nz cz, .slice ay ny cy] w (Ret fun v w' => v = .bool true ∧ Ext w w') := by
 have kz : Kn w none_ [] (RdR maK az nz Hz z) := fun w' hs => rz.ext hs.upd
 have lz : z.length = nz := rz.1
 have mz : nz ≤ 9223372036854775807 := rz.2.1
 have ky : Kn w none_ [] (RdR maK ay ny Hy y) := fun w' hs => ry.ext hs.upd
 have ly : y.length = ny := ry.1
 have my : ny ≤ 9223372036854775807 := ry.2.1
 have ly2 : y.length = nz := by rw [← heq]; exact lz
 refine fn (M := none_) (rs := [.tmp 4]) Try.func45 rfl Try.ntmps45 rfl rfl (Sep.start _ _) ?_
 refine hSeq ?_
 refine hReg (sq 0 sz) (by kernel_rfl) ?_
 refine asB rfl rfl rfl ?_
 refine rNil ?_
 refine qSeq rfl ?_
 refine hSeq ?_
 refine hSeq ?_
 refine hReg (sq 0 (sq 1 (sq 2 (sq 3 (sq 4 sz))))) (by kernel_rfl) ?_
 refine mvS rfl rfl rfl ?_
 refine lenS Try.runUnderlying41 rfl rfl rfl ?_
 refine mvS rfl rfl rfl ?_
 refine lenS Try.runUnderlying41 rfl rfl rfl ?_
 refine neq rfl rfl rfl rfl ?_
 refine rNil ?_
 refine qSeq rfl ?_
 refine hIfD rfl (fun c1 => ?_) (fun c1 => ?_)
 ·
  replace c1 : (nz : Int) ≠ (ny : Int) := c1
  exact absurd c1 (by omega)
 ·
  replace c1 : ¬ ((nz : Int) ≠ (ny : Int)) := c1
  refine hSkip ?_
  refine qSeq rfl ?_
  refine hSeq ?_
  refine hSeq ?_
  refine hReg (sq 0 sz) (by kernel_rfl) ?_
  refine asI rfl rfl rfl ?_
  refine rNil ?_
  refine qSeq rfl ?_
  refine hBlk ?_
  refine hLoop (α := Nat) (fun i => i ≤ nz) (fun i => nz - i) (fun i => []) (fun i => [(0, .slice az nz cz), (1, .slice ay ny cy), (5, .int .i64 (i : Int))]) 0 (Nat.zero_le _) (fun _ h => h.pick []) ⟨rfl, rfl, rfl, trivial⟩ ?_
  rintro i τ1 hi
  refine hSeq ?_
  refine hSeq ?_
  refine hReg (sq 0 (sq 1 (sq 2 (sq 3 sz)))) (by kernel_rfl) ?_
  refine mvI rfl rfl rfl ?_
  refine mvS rfl rfl rfl ?_
  refine lenS Try.runUnderlying41 rfl rfl rfl ?_
  refine lss rfl rfl rfl rfl ?_
  refine rNil ?_
  refine qSeq rfl ?_
  refine hIfD rfl (fun c2 => ?_) (fun c2 => ?_)
  ·
   replace c2 : (i : Int) < (nz : Int) := c2
   refine hSkip ?_
   refine qSeq rfl ?_
   refine hSeq ?_
   refine hBlk ?_
   refine hSeq ?_
   refine hDraw (Ls := []) (by kernel_rfl) (sq 0 (sq 1 (sq 2 (sq 3 (sq 4 (sq 5 (sq 6 (sq 7 (sl 8 (sq 9 sz)))))))))) (by kernel_rfl) .slnil ?_
   refine mvS rfl rfl rfl ?_
   refine mvI rfl rfl rfl ?_
   refine ixRq (zn := i) (z.getD i []) el41 (kz) (fun _ h => h.pick []) rfl rfl rfl rfl (by omega) (by omega) rfl (nth [] (by omega)) ?_
   intro be1 oe1 e1
   refine ldq Try.isAgg28 (Kn.fld e1 0 rfl) rfl rfl rfl ?_
   refine mvS rfl rfl rfl ?_
   refine mvI rfl rfl rfl ?_
   refine ixRq (zn := i) (y.getD i []) el41 (ky) (fun _ h => h.pick []) rfl rfl rfl rfl (by omega) (by omega) rfl (nth [] (by omega)) ?_
   intro be2 oe2 e2
   refine ldq Try.isAgg28 (Kn.fld e2 0 rfl) rfl rfl rfl ?_
   refine callP (v := .bool true) Try.call19 (fun _ h => h.pick []) rfl rfl (fun w hs => laws_likeInts_c _ _ _ _ _ _ _ _ w ((Kn.imp kz fun _ h => h.kidM (nth [] (by omega))) w hs) ((Kn.imp ky fun _ h => h.kidM (nth [] (by omega))) w hs) (by first | rfl | assumption | (rw [heq]) | (simp only [*]))) ?_
   refine not rfl rfl rfl ?_
   refine rNil ?_
   refine qSeq rfl ?_
   refine hIfF rfl ?_
   refine hSkip ?_
   refine qSeq rfl ?_
   refine hReg (sq 0 (sq 1 (sq 2 sz))) (by kernel_rfl) ?_
   refine mvI rfl rfl rfl ?_
   refine add rfl rfl rfl rfl (by omega) ?_
   refine asI rfl rfl rfl ?_
   refine rNil ?_
   exact qNext rfl (i + 1) (by omega) (by omega) ⟨rfl, rfl, rfl, trivial⟩ (fun _ h => h.pick [])
  ·
   replace c2 : ¬ ((i : Int) < (nz : Int)) := c2
   refine hExit rfl ?_
   refine qSeq rfl ?_
   refine hSeq ?_
   refine hReg (sq 0 sz) (by kernel_rfl) ?_
   refine asB rfl rfl rfl ?_
   refine rNil ?_
   refine qSeq rfl ?_
   refine hRet ?_
   exact fun w hs => ⟨[.bool true], ⟨rfl, trivial⟩, ⟨by first | rfl | exact bD (by omega) | exact bT (by omega) | exact bF (by omega) | exact vI (by omega), hs.upd⟩⟩
theorem laws_likeStrategies_c (pl : Int) (aps : Option Addr) (nps : Nat) (cps : Nat) (Hps : Nat → Hd) (ps : List (List Int)) (ql : Int) (aqs : Option Addr) (nqs : Nat) (cqs : Nat) (Hqs : Nat → Hd) (qs : List (List Int)) (w : World) (rps : RdR maK aps nps Hps ps w) (rqs : RdR maK aqs nqs Hqs qs w) (heq : pl = ql ∧ ps = qs) :
  Calls Try.prog 46 #[.agg #[.int .i64 pl, .slice aps nps cps], .agg #[.int .i64 ql, .slice aqs nqs cqs]] w (Ret fun v w' => v = .bool true ∧ Ext w w') := by
 have kps : Kn w none_ [] (RdR maK aps nps Hps ps) := fun w' hs => rps.ext hs.upd
 have lps : ps.length = nps := rps.1
 have mps : nps ≤ 9223372036854775807 := rps.2.1
 have kqs : Kn w none_ [] (RdR maK aqs nqs Hqs qs) := fun w' hs => rqs.ext hs.upd
 have lqs : qs.length = nqs := rqs.1
 have mqs : nqs ≤ 9223372036854775807 := rqs.2.1
 refine fn (M := none_) (rs := [.tmp 4]) Try.func46 rfl Try.ntmps46 rfl rfl (Sep.start _ _) ?_
 refine hSeq ?_
 refine hReg (sl 0 (sl 1 (sq 2 sz))) (by kernel_rfl) ?_
 refine box trv1 rfl rfl rfl rfl (fun bkb1 hbkb1 => ?_)
 refine box trv1 rfl rfl rfl rfl (fun bkb2 hbkb2 => ?_)
 refine asB rfl rfl rfl ?_
 refine rNil ?_
 refine qSeq rfl ?_
 refine hSeq ?_
 refine hReg (sq 0 (sl 1 (sq 2 (sl 3 (sq 4 (sq 5 (sq 6 (sl 7 (sq 8 (sl 9 (sl 10 (sq 11 (sq 12 sz))))))))))))) (by kernel_rfl) ?_
 refine fld fl56_0 rfl rfl rfl ?_
 refine ldl Try.isAgg2 (cB 1 rfl rfl) trv rfl rfl rfl ?_
 refine fld fl56_0 rfl rfl rfl ?_
 refine ldl Try.isAgg2 (cB 0 rfl rfl) trv rfl rfl rfl ?_
 refine eql rfl rfl rfl rfl ?_
 refine mvB rfl rfl rfl ?_
 refine rBoolD (d := 10) rfl (fun g1 => ?_) (fun g1 => ?_)
 ·
  replace g1 : pl = ql := g1
  refine fld fl56_1 rfl rfl rfl ?_
  refine ldl Try.isAgg41 (cB 1 rfl rfl) trv rfl rfl rfl ?_
  refine fld fl56_1 rfl rfl rfl ?_
  refine ldl Try.isAgg41 (cB 0 rfl rfl) trv rfl rfl rfl ?_
  refine callP (v := .bool true) Try.call45 trv rfl rfl (fun w hs => laws_likeLists_c _ _ _ _ _ _ _ _ _ _ w (Kn.drop (k := 2) kps w hs) (Kn.drop (k := 2) kqs w hs) heq.2) ?_
  refine pickB rfl rfl rfl rfl ?_
  refine asB rfl rfl rfl ?_
  refine rNil ?_
  refine qSeq rfl ?_
  refine hRet ?_
  exact fun w hs => ⟨[.bool true], ⟨rfl, trivial⟩, ⟨by first | rfl | exact bD (by omega) | exact bT (by omega) | exact bF (by omega) | exact vI (by omega), hs.upd⟩⟩
 ·
  replace g1 : ¬ (pl = ql) := g1
  exact absurd heq.1 g1
theorem spec_l22DrawPlayer_c (bk : Nat) (ca : Option Addr) (bs : List Int) (cc : Nat) (w : World) (M0 : Nat → Prop) (hs0 : Sep w M0 [srcP bk ca bs cc] w) (kcode : Kn w M0 [] (CellsAt ca (bs.map (Value.int .u8)))) (hok : okBytes bs) :
  Calls Try.prog 118 #[.pointer (some ⟨bk, 0, none⟩)] w (Ret fun v w' => ∃ x : Int, v = .int .i64 x ∧ (-1 ≤ x ∧ x ≤ 2) ∧ Sep w M0 [srcP bk ca bs cc] w') := by
 refine fn (M := M0) (rs := [.tmp 2]) Try.func118 rfl Try.ntmps118 rfl rfl hs0 ?_
 refine hSeq ?_
 refine hReg (sq 0 sz) (by kernel_rfl) ?_
 refine asI rfl rfl rfl ?_
 refine rNil ?_
 refine qSeq rfl ?_
 refine hSeq ?_
 refine hSeq ?_
 refine hReg (sq 0 (sl 1 (sq 2 sz))) (by kernel_rfl) ?_
 refine mvP rfl rfl rfl ?_
 refine callMK (α := Int) (Lf := [srcP bk ca bs cc]) (Lr := []) (good := fun x => 0 ≤ x ∧ (x < (12 : Int) ∨ x = 0)) (φs := fun x => [srcP bk ca bs cc]) (val := fun x => .int .i64 x) rfl Try.call95 trv1 rfl rfl (fun w M1 hs hk => src_next bk ca bs cc (12 : Int) w M1 hs (hk _ kcode) hok) ?_
 intro x1 hx1
 try dsimp only at hx1
 refine rPieces (L' := [srcP bk ca bs cc]) (fun _ h => h) ?_
 refine eql rfl rfl rfl rfl ?_
 refine rNil ?_
 refine qSeq rfl ?_
 refine hIfD rfl (fun c1 => ?_) (fun c1 => ?_)
 ·
  replace c1 : x1 = 0 := c1
  refine hSeq ?_
  refine hReg (sq 0 (sl 1 (sl 2 (sq 3 sz)))) (by kernel_rfl) ?_
  refine mvP rfl rfl rfl ?_
  refine bsl trv1 rfl rfl rfl (bsl28_2 (.int .i64 _) (.int .i64 _) rfl rfl) (fun bkl1 hbkl1 => ?_)
  refine rPieces (L' := [srcP bk ca bs cc, blk bkl1 2 [.int .i64 (-1), .int .i64 2]]) (fun _ h => h.perm (pull (i := 1) rfl)) ?_
  refine callMK (α := Int) (Lf := [srcP bk ca bs cc, blk bkl1 2 [.int .i64 (-1), .int .i64 2]]) (Lr := []) (good := fun x => x ∈ ([.int .i64 (-1), .int .i64 2] : List Value).map toI) (φs := fun x => [srcP bk ca bs cc, blk bkl1 2 [.int .i64 (-1), .int .i64 2]]) (val := fun x => .int .i64 x) rfl Try.call155 trv1 rfl rfl (fun w M1 hs hk => src_pick bk ca bs cc bkl1 2 2 2 [.int .i64 (-1), .int .i64 2] w M1 hs (hk _ kcode) hok rfl rfl (by decide)) ?_
  intro x2 hx2
  try dsimp only at hx2
  refine rPieces (L' := [srcP bk ca bs cc, blk bkl1 2 [.int .i64 (-1), .int .i64 2]]) (fun _ h => h) ?_
  refine asI rfl rfl rfl ?_
  refine rNil ?_
  refine qSeq rfl ?_
  refine hRet ?_
  exact fun w hs => ⟨[.int .i64 x2], ⟨rfl, trivial⟩, ⟨x2, rfl, by have hm := hx2; simp [toI] at hm; omega, hs.pick [0]⟩⟩
 ·
  replace c1 : ¬ (x1 = 0) := c1
  refine hSkip ?_
  refine qSeq rfl ?_
  refine hSeq ?_
  refine hReg (sq 0 (sl 1 (sq 2 sz))) (by kernel_rfl) ?_
  refine mvP rfl rfl rfl ?_
  refine callMK (α := Int) (Lf := [srcP bk ca bs cc]) (Lr := []) (good := fun x => 0 ≤ x ∧ (x < (2 : Int) ∨ x = 0)) (φs := fun x => [srcP bk ca bs cc]) (val := fun x => .int .i64 x) rfl Try.call95 trv1 rfl rfl (fun w M1 hs hk => src_next bk ca bs cc (2 : Int) w M1 hs (hk _ kcode) hok) ?_
  intro x3 hx3
  try dsimp only at hx3
  refine rPieces (L' := [srcP bk ca bs cc]) (fun _ h => h) ?_
  refine asI rfl rfl rfl ?_
  refine rNil ?_
  refine qSeq rfl ?_
  refine hRet ?_
  exact fun w hs => ⟨[.int .i64 x3], ⟨rfl, trivial⟩, ⟨x3, rfl, ⟨by omega, by omega⟩, hs.pick [0]⟩⟩
theorem spec_DrawInfoSets_c (ca : Option Addr) (bs : List Int) (cc : Nat) (w : World) (rcode : CellsAt ca (bs.map (Value.int .u8)) w) (hok : okBytes bs) :
  Calls Try.prog 39 #[.slice ca bs.length cc] w (Ret fun v w' => ∃ x : Option Addr × Nat × Nat × (Nat → Hd) × List Nd × Option Addr × Nat × Nat × (Nat → Hd) × List (List Int) × Option Addr × Nat × Nat × (Nat → Hd) × List (List Int) × Int, v = .tuple #[.agg #[.slice x.1 x.2.1 x.2.2.1, .slice x.2.2.2.2.2.1 x.2.2.2.2.2.2.1 x.2.2.2.2.2.2.2.1, .slice x.2.2.2.2.2.2.2.2.2.2.1 x.2.2.2.2.2.2.2.2.2.2.2.1 x.2.2.2.2.2.2.2.2.2.2.2.2.1], .int .i64 x.2.2.2.2.2.2.2.2.2.2.2.2.2.2.2] ∧ (x.2.1 ≤ 250 ∧ ((1 ≤ x.2.2.2.2.2.2.1 ∧ x.2.2.2.2.2.2.1 ≤ 4) ∧ x.2.2.2.2.2.2.2.2.2.2.2.1 ≤ 4) ∧ (-1 ≤ x.2.2.2.2.2.2.2.2.2.2.2.2.2.2.2 ∧ x.2.2.2.2.2.2.2.2.2.2.2.2.2.2.2 ≤ 3)) ∧ Sep w none_ [RdR ndK x.1 x.2.1 x.2.2.2.1 x.2.2.2.2.1, RdR maK x.2.2.2.2.2.1 x.2.2.2.2.2.2.1 x.2.2.2.2.2.2.2.2.1 x.2.2.2.2.2.2.2.2.2.1, RdR maK x.2.2.2.2.2.2.2.2.2.2.1 x.2.2.2.2.2.2.2.2.2.2.2.1 x.2.2.2.2.2.2.2.2.2.2.2.2.2.1 x.2.2.2.2.2.2.2.2.2.2.2.2.2.2.1] w') := by
 have kcode : Kn w none_ [] (CellsAt ca (bs.map (Value.int .u8))) := fun w' hs => rcode.ext hs.upd
 refine fn (M := none_) (rs := [.cell 2 43, .tmp 3]) Try.func39 rfl Try.ntmps39 rfl rfl (Sep.start _ _) ?_
 refine hSeq ?_
 refine hReg (sl 0 (sq 1 sz)) (by kernel_rfl) ?_
 refine alc Try.zeroValue43 rfl trv1 rfl rfl (fun bka1 hbka1 => ?_)
 refine asI rfl rfl rfl ?_
 refine rNil ?_
 refine qSeq rfl ?_
 refine hSeq ?_
 refine hReg (sq 0 (sl 1 (sq 2 sz))) (by kernel_rfl) ?_
 refine mvS rfl rfl rfl ?_
 refine callN (α := Nat) (val := fun x => .pointer (some ⟨x, 0, none⟩)) (good := fun _ => True) (φ := fun x => srcP x ca bs cc) Try.call92 trv1 rfl rfl (fun w hs => (l01From_c ca bs cc w (kcode w (hs.sub (List.nil_sublist _))) hok).mono fun e w1 ⟨v, h0, bk, h1, h2, h3, h4⟩ => ⟨v, h0, bk, h1, trivial, h3, h4⟩) ?_
 rintro bks2 -
 refine asn rfl rfl rfl ?_
 refine rNil ?_
 refine qSeq rfl ?_
 refine hSeq ?_
 refine hReg (sq 0 (sl 1 (sl 2 (sl 3 sz)))) (by kernel_rfl) ?_
 refine mvP rfl rfl rfl ?_
 refine callMK (α := Option Addr × Nat × Nat × (Nat → Hd) × List Nd × Option Addr × Nat × Nat × (Nat → Hd) × List (List Int) × Option Addr × Nat × Nat × (Nat → Hd) × List (List Int)) (Lf := [srcP bks2 ca bs cc]) (Lr := [blk bka1 43 [.slice none 0 0, .slice none 0 0, .slice none 0 0]]) (good := fun x => x.2.1 ≤ 250 ∧ ((1 ≤ x.2.2.2.2.2.2.1 ∧ x.2.2.2.2.2.2.1 ≤ 4) ∧ x.2.2.2.2.2.2.2.2.2.2.2.1 ≤ 4)) (φs := fun x => [srcP bks2 ca bs cc, RdR ndK x.1 x.2.1 x.2.2.2.1 x.2.2.2.2.1, RdR maK x.2.2.2.2.2.1 x.2.2.2.2.2.2.1 x.2.2.2.2.2.2.2.2.1 x.2.2.2.2.2.2.2.2.2.1, RdR maK x.2.2.2.2.2.2.2.2.2.2.1 x.2.2.2.2.2.2.2.2.2.2.2.1 x.2.2.2.2.2.2.2.2.2.2.2.2.2.1 x.2.2.2.2.2.2.2.2.2.2.2.2.2.2]) (val := fun x => .agg #[.slice x.1 x.2.1 x.2.2.1, .slice x.2.2.2.2.2.1 x.2.2.2.2.2.2.1 x.2.2.2.2.2.2.2.1, .slice x.2.2.2.2.2.2.2.2.2.2.1 x.2.2.2.2.2.2.2.2.2.2.2.1 x.2.2.2.2.2.2.2.2.2.2.2.2.1]) rfl Try.call106 trv1 rfl rfl (fun w M1 hs hk => spec_l21Draw_c bks2 ca bs cc  w M1 hs (hk _ kcode) hok ) ?_
 rintro ⟨ay1, ny1, cy1, Hy1, y1, ayw1, nyw1, cyw1, Hyw1, yw1, ayv1, nyv1, cyv1, Hyv1, yv1⟩ hr1
 try dsimp only at hr1
 refine rPieces (L' := [srcP bks2 ca bs cc, RdR ndK ay1 ny1 Hy1 y1, RdR maK ayw1 nyw1 Hyw1 yw1, RdR maK ayv1 nyv1 Hyv1 yv1, blk bka1 43 [.slice none 0 0, .slice none 0 0, .slice none 0 0]]) (fun _ h => h) ?_
 refine rKnow (fun w hs => (show RdR ndK ay1 ny1 Hy1 y1 w from hs.at_ 1 rfl).1) (fun lenn3 => ?_)
 refine rKnow (fun w hs => (show RdR maK ayw1 nyw1 Hyw1 yw1 w from hs.at_ 2 rfl).1) (fun lenn4 => ?_)
 refine rKnow (fun w hs => (show RdR maK ayv1 nyv1 Hyv1 yv1 w from hs.at_ 3 rfl).1) (fun lenn5 => ?_)
 refine alc Try.zeroValue43 rfl trv1 rfl rfl (fun bka6 hbka6 => ?_)
 refine stAl (vs := [.slice ay1 ny1 cy1, .slice ayw1 nyw1 cyw1, .slice ayv1 nyv1 cyv1]) 0 rfl Try.sizeOf43 trv rfl rfl rfl rfl rfl (by simp [Value.oneCell']) rfl ?_
 refine rNil ?_
 refine qSeq rfl ?_
 refine hSeq ?_
 refine hDraw (Ls := [blk bka6 43 [.slice ay1 ny1 cy1, .slice ayw1 nyw1 cyw1, .slice ayv1 nyv1 cyv1]]) (by kernel_rfl) (sq 0 (sq 1 (sl 2 (sq 3 (sl 4 (sq 5 sz)))))) (by kernel_rfl) (.cons_cons _ (.cons _ (.cons _ (.cons _ (.cons _ (.cons _ .slnil)))))) ?_
 refine ldAq Try.isAgg43 Try.sizeOf43 (cBs 0 rfl) rfl rfl rfl rfl ?_
 refine mvP rfl rfl rfl ?_
 refine rPieces (L' := [srcP bks2 ca bs cc, blk bka6 43 [.slice ay1 ny1 cy1, .slice ayw1 nyw1 cyw1, .slice ayv1 nyv1 cyv1], RdR ndK ay1 ny1 Hy1 y1, RdR maK ayw1 nyw1 Hyw1 yw1, RdR maK ayv1 nyv1 Hyv1 yv1, blk bka1 43 [.slice none 0 0, .slice none 0 0, .slice none 0 0]]) (fun _ h => h.perm (pull (i := 1) rfl)) ?_
 refine callMK (α := Int) (Lf := [srcP bks2 ca bs cc]) (Lr := [blk bka6 43 [.slice ay1 ny1 cy1, .slice ayw1 nyw1 cyw1, .slice ayv1 nyv1 cyv1], RdR ndK ay1 ny1 Hy1 y1, RdR maK ayw1 nyw1 Hyw1 yw1, RdR maK ayv1 nyv1 Hyv1 yv1, blk bka1 43 [.slice none 0 0, .slice none 0 0, .slice none 0 0]]) (good := fun x => 0 ≤ x ∧ (x < (4 : Int) ∨ x = 0)) (φs := fun x => [srcP bks2 ca bs cc]) (val := fun x => .int .i64 x) rfl Try.call95 (by exact (fun _ _ h => h.pick [1])) rfl rfl (fun w M1 hs hk => src_next bks2 ca bs cc (4 : Int) w M1 hs (hk _ kcode) hok) ?_
 intro x2 hx2
 try dsimp only at hx2
 refine rPieces (L' := [srcP bks2 ca bs cc, blk bka6 43 [.slice ay1 ny1 cy1, .slice ayw1 nyw1 cyw1, .slice ayv1 nyv1 cyv1], RdR ndK ay1 ny1 Hy1 y1, RdR maK ayw1 nyw1 Hyw1 yw1, RdR maK ayv1 nyv1 Hyv1 yv1, blk bka1 43 [.slice none 0 0, .slice none 0 0, .slice none 0 0]]) (fun _ h => h) ?_
 refine sub rfl rfl rfl rfl (by omega) ?_
 refine stAl (vs := [.slice ay1 ny1 cy1, .slice ayw1 nyw1 cyw1, .slice ayv1 nyv1 cyv1]) 5 rfl Try.sizeOf43 (fun _ h => h.pick [1]) rfl rfl rfl rfl rfl (by simp [Value.oneCell']) rfl ?_
 refine asI rfl rfl rfl ?_
 refine rNil ?_
 refine qSeq rfl ?_
 refine hRet ?_
 exact fun w hs => ⟨[_, .int .i64 (x2 - 1)], ⟨⟨_, rfl, run_load_agg Try.isAgg43 Try.sizeOf43 rfl (cBs 5 rfl w hs)⟩, ⟨rfl, trivial⟩⟩, ⟨(ay1, ny1, cy1, Hy1, y1, ayw1, nyw1, cyw1, Hyw1, yw1, ayv1, nyv1, cyv1, Hyv1, yv1, (x2 - 1)), rfl, ⟨by dsimp only; omega, ⟨⟨by dsimp only; omega, by dsimp only; omega⟩, by dsimp only; omega⟩, by dsimp only; omega, by dsimp only; omega⟩, hs.pick [2, 2, 2]⟩⟩
theorem spec_DrawUniformStrategy_c (ca : Option Addr) (bs : List Int) (cc : Nat) (w : World) (rcode : CellsAt ca (bs.map (Value.int .u8)) w) (hok : okBytes bs) :
  Calls Try.prog 42 #[.slice ca bs.length cc] w (Ret fun v w' => ∃ x : Option Addr × Nat × Nat × (Nat → Hd) × List Nd × Option Addr × Nat × Nat × (Nat → Hd) × List (List Int) × Option Addr × Nat × Nat × (Nat → Hd) × List (List Int) × Int, v = .tuple #[.agg #[.slice x.1 x.2.1 x.2.2.1, .slice x.2.2.2.2.2.1 x.2.2.2.2.2.2.1 x.2.2.2.2.2.2.2.1, .slice x.2.2.2.2.2.2.2.2.2.2.1 x.2.2.2.2.2.2.2.2.2.2.2.1 x.2.2.2.2.2.2.2.2.2.2.2.2.1], .int .i64 x.2.2.2.2.2.2.2.2.2.2.2.2.2.2.2] ∧ (x.2.1 ≤ 250 ∧ ((1 ≤ x.2.2.2.2.2.2.1 ∧ x.2.2.2.2.2.2.1 ≤ 4) ∧ x.2.2.2.2.2.2.2.2.2.2.2.1 ≤ 4) ∧ (-1 ≤ x.2.2.2.2.2.2.2.2.2.2.2.2.2.2.2 ∧ x.2.2.2.2.2.2.2.2.2.2.2.2.2.2.2 ≤ 2)) ∧ Sep w none_ [RdR ndK x.1 x.2.1 x.2.2.2.1 x.2.2.2.2.1, RdR maK x.2.2.2.2.2.1 x.2.2.2.2.2.2.1 x.2.2.2.2.2.2.2.2.1 x.2.2.2.2.2.2.2.2.2.1, RdR maK x.2.2.2.2.2.2.2.2.2.2.1 x.2.2.2.2.2.2.2.2.2.2.2.1 x.2.2.2.2.2.2.2.2.2.2.2.2.2.1 x.2.2.2.2.2.2.2.2.2.2.2.2.2.2.1] w') := by
 have kcode : Kn w none_ [] (CellsAt ca (bs.map (Value.int .u8))) := fun w' hs => rcode.ext hs.upd
 refine fn (M := none_) (rs := [.cell 2 43, .tmp 3]) Try.func42 rfl Try.ntmps42 rfl rfl (Sep.start _ _) ?_
 refine hSeq ?_
 refine hReg (sl 0 (sq 1 sz)) (by kernel_rfl) ?_
 refine alc Try.zeroValue43 rfl trv1 rfl rfl (fun bka1 hbka1 => ?_)
 refine asI rfl rfl rfl ?_
 refine rNil ?_
 refine qSeq rfl ?_
 refine hSeq ?_
 refine hReg (sq 0 (sl 1 (sq 2 sz))) (by kernel_rfl) ?_
 refine mvS rfl rfl rfl ?_
 refine callN (α := Nat) (val := fun x => .pointer (some ⟨x, 0, none⟩)) (good := fun _ => True) (φ := fun x => srcP x ca bs cc) Try.call92 trv1 rfl rfl (fun w hs => (l01From_c ca bs cc w (kcode w (hs.sub (List.nil_sublist _))) hok).mono fun e w1 ⟨v, h0, bk, h1, h2, h3, h4⟩ => ⟨v, h0, bk, h1, trivial, h3, h4⟩) ?_
 rintro bks2 -
 refine asn rfl rfl rfl ?_
 refine rNil ?_
 refine qSeq rfl ?_
 refine hSeq ?_
 refine hReg (sq 0 (sl 1 (sl 2 (sl 3 sz)))) (by kernel_rfl) ?_
 refine mvP rfl rfl rfl ?_
 refine callMK (α := Option Addr × Nat × Nat × (Nat → Hd) × List Nd × Option Addr × Nat × Nat × (Nat → Hd) × List (List Int) × Option Addr × Nat × Nat × (Nat → Hd) × List (List Int)) (Lf := [srcP bks2 ca bs cc]) (Lr := [blk bka1 43 [.slice none 0 0, .slice none 0 0, .slice none 0 0]]) (good := fun x => x.2.1 ≤ 250 ∧ ((1 ≤ x.2.2.2.2.2.2.1 ∧ x.2.2.2.2.2.2.1 ≤ 4) ∧ x.2.2.2.2.2.2.2.2.2.2.2.1 ≤ 4)) (φs := fun x => [srcP bks2 ca bs cc, RdR ndK x.1 x.2.1 x.2.2.2.1 x.2.2.2.2.1, RdR maK x.2.2.2.2.2.1 x.2.2.2.2.2.2.1 x.2.2.2.2.2.2.2.2.1 x.2.2.2.2.2.2.2.2.2.1, RdR maK x.2.2.2.2.2.2.2.2.2.2.1 x.2.2.2.2.2.2.2.2.2.2.2.1 x.2.2.2.2.2.2.2.2.2.2.2.2.2.1 x.2.2.2.2.2.2.2.2.2.2.2.2.2.2]) (val := fun x => .agg #[.slice x.1 x.2.1 x.2.2.1, .slice x.2.2.2.2.2.1 x.2.2.2.2.2.2.1 x.2.2.2.2.2.2.2.1, .slice x.2.2.2.2.2.2.2.2.2.2.1 x.2.2.2.2.2.2.2.2.2.2.2.1 x.2.2.2.2.2.2.2.2.2.2.2.2.1]) rfl Try.call106 trv1 rfl rfl (fun w M1 hs hk => spec_l21Draw_c bks2 ca bs cc  w M1 hs (hk _ kcode) hok ) ?_
 rintro ⟨ay1, ny1, cy1, Hy1, y1, ayw1, nyw1, cyw1, Hyw1, yw1, ayv1, nyv1, cyv1, Hyv1, yv1⟩ hr1
 try dsimp only at hr1
 refine rPieces (L' := [srcP bks2 ca bs cc, RdR ndK ay1 ny1 Hy1 y1, RdR maK ayw1 nyw1 Hyw1 yw1, RdR maK ayv1 nyv1 Hyv1 yv1, blk bka1 43 [.slice none 0 0, .slice none 0 0, .slice none 0 0]]) (fun _ h => h) ?_
 refine rKnow (fun w hs => (show RdR ndK ay1 ny1 Hy1 y1 w from hs.at_ 1 rfl).1) (fun lenn3 => ?_)
 refine rKnow (fun w hs => (show RdR maK ayw1 nyw1 Hyw1 yw1 w from hs.at_ 2 rfl).1) (fun lenn4 => ?_)
 refine rKnow (fun w hs => (show RdR maK ayv1 nyv1 Hyv1 yv1 w from hs.at_ 3 rfl).1) (fun lenn5 => ?_)
 refine alc Try.zeroValue43 rfl trv1 rfl rfl (fun bka6 hbka6 => ?_)
 refine stAl (vs := [.slice ay1 ny1 cy1, .slice ayw1 nyw1 cyw1, .slice ayv1 nyv1 cyv1]) 0 rfl Try.sizeOf43 trv rfl rfl rfl rfl rfl (by simp [Value.oneCell']) rfl ?_
 refine rNil ?_
 refine qSeq rfl ?_
 refine hSeq ?_
 refine hDraw (Ls := [blk bka6 43 [.slice ay1 ny1 cy1, .slice ayw1 nyw1 cyw1, .slice ayv1 nyv1 cyv1]]) (by kernel_rfl) (sq 0 (sq 1 (sl 2 (sl 3 (sq 4 sz))))) (by kernel_rfl) (.cons_cons _ (.cons _ (.cons _ (.cons _ (.cons _ (.cons _ .slnil)))))) ?_
 refine ldAq Try.isAgg43 Try.sizeOf43 (cBs 0 rfl) rfl rfl rfl rfl ?_
 refine mvP rfl rfl rfl ?_
 refine rPieces (L' := [srcP bks2 ca bs cc, blk bka6 43 [.slice ay1 ny1 cy1, .slice ayw1 nyw1 cyw1, .slice ayv1 nyv1 cyv1], RdR ndK ay1 ny1 Hy1 y1, RdR maK ayw1 nyw1 Hyw1 yw1, RdR maK ayv1 nyv1 Hyv1 yv1, blk bka1 43 [.slice none 0 0, .slice none 0 0, .slice none 0 0]]) (fun _ h => h.perm (pull (i := 1) rfl)) ?_
 refine callMK (α := Int) (Lf := [srcP bks2 ca bs cc]) (Lr := [blk bka6 43 [.slice ay1 ny1 cy1, .slice ayw1 nyw1 cyw1, .slice ayv1 nyv1 cyv1], RdR ndK ay1 ny1 Hy1 y1, RdR maK ayw1 nyw1 Hyw1 yw1, RdR maK ayv1 nyv1 Hyv1 yv1, blk bka1 43 [.slice none 0 0, .slice none 0 0, .slice none 0 0]]) (good := fun x => -1 ≤ x ∧ x ≤ 2) (φs := fun x => [srcP bks2 ca bs cc]) (val := fun x => .int .i64 x) rfl Try.call118 (by exact (fun _ _ h => h.pick [1])) rfl rfl (fun w M1 hs hk => spec_l22DrawPlayer_c bks2 ca bs cc  w M1 hs (hk _ kcode) hok ) ?_
 rintro q2 hr2
 try dsimp only at hr2
 refine rPieces (L' := [srcP bks2 ca bs cc, blk bka6 43 [.slice ay1 ny1 cy1, .slice ayw1 nyw1 cyw1, .slice ayv1 nyv1 cyv1], RdR ndK ay1 ny1 Hy1 y1, RdR maK ayw1 nyw1 Hyw1 yw1, RdR maK ayv1 nyv1 Hyv1 yv1, blk bka1 43 [.slice none 0 0, .slice none 0 0, .slice none 0 0]]) (fun _ h => h) ?_
 refine stAl (vs := [.slice ay1 ny1 cy1, .slice ayw1 nyw1 cyw1, .slice ayv1 nyv1 cyv1]) 5 rfl Try.sizeOf43 (fun _ h => h.pick [1]) rfl rfl rfl rfl rfl (by simp [Value.oneCell']) rfl ?_
 refine asI rfl rfl rfl ?_
 refine rNil ?_
 refine qSeq rfl ?_
 refine hRet ?_
 exact fun w hs => ⟨[_, .int .i64 q2], ⟨⟨_, rfl, run_load_agg Try.isAgg43 Try.sizeOf43 rfl (cBs 5 rfl w hs)⟩, ⟨rfl, trivial⟩⟩, ⟨(ay1, ny1, cy1, Hy1, y1, ayw1, nyw1, cyw1, Hyw1, yw1, ayv1, nyv1, cyv1, Hyv1, yv1, q2), rfl, ⟨by dsimp only; omega, ⟨⟨by dsimp only; omega, by dsimp only; omega⟩, by dsimp only; omega⟩, by dsimp only; omega, by dsimp only; omega⟩, hs.pick [2, 2, 2]⟩⟩
end Go.Proofs.Ytjengglpbdgmnaa
