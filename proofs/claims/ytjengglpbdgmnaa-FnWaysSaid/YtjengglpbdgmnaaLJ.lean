/- Contracts of what laws draw. Their conditions stand in each. -/
import Derived.Test.YtjengglpbdgmnaaEngC
import Derived.Test.YtjengglpbdgmnaaTree
import Derived.Test.YtjengglpbdgmnaaGame
import Derived.Test.YtjengglpbdgmnaaSets
import Derived.Test.YtjengglpbdgmnaaHigh
import Derived.Test.YtjengglpbdgmnaaGrow
import Derived.Test.YtjengglpbdgmnaaBet
import Derived.Test.YtjengglpbdgmnaaDraw
import Derived.Test.YtjengglpbdgmnaaCopy
import Derived.Test.YtjengglpbdgmnaaSrc0
import Derived.Test.YtjengglpbdgmnaaSrc
import Derived.Test.YtjengglpbdgmnaaSrc2
import Derived.Test.YtjengglpbdgmnaaSrcW
import Derived.Test.YtjengglpbdgmnaaL1
import Derived.Test.YtjengglpbdgmnaaL2
import Derived.Test.YtjengglpbdgmnaaL3
import Derived.Test.YtjengglpbdgmnaaLT
import Derived.Test.YtjengglpbdgmnaaLI
import Derived.Test.YtjengglpbdgmnaaRows
namespace Go.Proofs.Ytjengglpbdgmnaa
open Go Go.RowKit V
set_option linter.unusedVariables false
set_option linter.unusedSimpArgs false
set_option maxRecDepth 100000



theorem laws_big_c (ca : Option Addr) (bs : List Int) (cc : Nat) (w : World) (rcode : CellsAt ca (bs.map (Value.int .u8)) w) :
    Calls Try.prog 12 #[.slice ca bs.length cc] w (Ret fun v w' => v = .bool (decide (4096 < ((bs.length : Nat) : Int))) ∧ Ext w w') := by
  have kcode : Kn w none_ [] (CellsAt ca (bs.map (Value.int .u8))) := fun w' hs => rcode.ext hs.upd
  refine fn (M := none_) (rs := [.tmp 2]) Try.func12 rfl Try.ntmps12 rfl rfl (Sep.start _ _) ?_
  refine hSeq ?_
  refine hReg (sq 0 sz) (by kernel_rfl) ?_
  refine asB rfl rfl rfl ?_
  refine rNil ?_
  refine qSeq rfl ?_
  refine hSeq ?_
  refine hReg (sq 0 (sq 1 (sq 2 (sq 3 sz)))) (by kernel_rfl) ?_
  refine mvS rfl rfl rfl ?_
  refine lenS Try.runUnderlying22 rfl rfl rfl ?_
  refine gtr rfl rfl rfl rfl ?_
  refine asB rfl rfl rfl ?_
  refine rNil ?_
  refine qSeq rfl ?_
  refine hRet ?_
  exact fun w hs => ⟨[.bool (decide (4096 < ((bs.length : Nat) : Int)))], ⟨rfl, trivial⟩, ⟨by first | rfl | exact bD (by omega) | exact bT (by omega) | exact bF (by omega) | exact vI (by omega), hs.upd⟩⟩

theorem laws_likeInts_c (az : Option Addr) (nz : Nat) (cz : Nat) (z : List Int) (ay : Option Addr) (ny : Nat) (cy : Nat) (y : List Int) (w : World) (rz : RdI az nz z w) (ry : RdI ay ny y w) (heq : z = y) :
    Calls Try.prog 19 #[.slice az nz cz, .slice ay ny cy] w (Ret fun v w' => v = .bool true ∧ Ext w w') := by
  have kz : Kn w none_ [] (RdI az nz z) := fun w' hs => rz.ext hs.upd
  have lz : z.length = nz := rz.1
  have mz : nz ≤ 9223372036854775807 := rz.2.1
  have ky : Kn w none_ [] (RdI ay ny y) := fun w' hs => ry.ext hs.upd
  have ly : y.length = ny := ry.1
  have my : ny ≤ 9223372036854775807 := ry.2.1
  refine fn (M := none_) (rs := [.tmp 4]) Try.func19 rfl Try.ntmps19 rfl rfl (Sep.start _ _) ?_
  refine hSeq ?_
  refine hReg (sq 0 sz) (by kernel_rfl) ?_
  refine asB rfl rfl rfl ?_
  refine rNil ?_
  refine qSeq rfl ?_
  refine hSeq ?_
  refine hSeq ?_
  refine hReg (sq 0 (sq 1 (sq 2 (sq 3 (sq 4 sz))))) (by kernel_rfl) ?_
  refine mvS rfl rfl rfl ?_
  refine lenS Try.runUnderlying28 rfl rfl rfl ?_
  refine mvS rfl rfl rfl ?_
  refine lenS Try.runUnderlying28 rfl rfl rfl ?_
  refine neq rfl rfl rfl rfl ?_
  refine rNil ?_
  refine qSeq rfl ?_
  refine hIfD rfl (fun c1 => ?_) (fun c1 => ?_)
  · -- c1T
    replace c1 : (nz : Int) ≠ (ny : Int) := c1
    exact absurd c1 (by rw [heq] at lz; omega)
  · -- c1F
    replace c1 : ¬ ((nz : Int) ≠ (ny : Int)) := c1
    refine hSkip ?_
    refine qSeq rfl ?_
    refine hSeq ?_
    refine hSeq ?_
    refine hReg (sq 0 sz) (by kernel_rfl) ?_
    refine asI rfl rfl rfl ?_
    refine rNil ?_
    refine qSeq rfl ?_
    refine hBlk ?_
    refine hLoop (α := Nat) (fun i => i ≤ nz) (fun i => nz - i) (fun i => []) (fun i => [(0, .slice az nz cz), (1, .slice ay ny cy), (5, .int .i64 (i : Int))]) 0 (Nat.zero_le _) (fun _ h => h.pick []) ⟨rfl, rfl, rfl, trivial⟩ ?_
    rintro i τ1 hi
    refine hSeq ?_
    refine hSeq ?_
    refine hReg (sq 0 (sq 1 (sq 2 (sq 3 sz)))) (by kernel_rfl) ?_
    refine mvI rfl rfl rfl ?_
    refine mvS rfl rfl rfl ?_
    refine lenS Try.runUnderlying28 rfl rfl rfl ?_
    refine lss rfl rfl rfl rfl ?_
    refine rNil ?_
    refine qSeq rfl ?_
    refine hIfD rfl (fun c2 => ?_) (fun c2 => ?_)
    · -- c2T
      replace c2 : (i : Int) < (nz : Int) := c2
      refine hSkip ?_
      refine qSeq rfl ?_
      refine hSeq ?_
      refine hBlk ?_
      refine hSeq ?_
      refine hDraw (Ls := []) (by kernel_rfl) (sq 0 (sq 1 (sq 2 (sq 3 (sq 4 (sq 5 (sq 6 (sq 7 (sq 8 sz))))))))) (by kernel_rfl) .slnil ?_
      refine mvS rfl rfl rfl ?_
      refine mvI rfl rfl rfl ?_
      refine ixIq (zn := i) el28 (kz) (fun _ h => h.pick []) rfl rfl rfl rfl (by omega) (by omega) rfl ?_
      intro ae1 e1
      refine ldq Try.isAgg2 (e1) rfl rfl rfl ?_
      refine mvS rfl rfl rfl ?_
      refine mvI rfl rfl rfl ?_
      refine ixIq (zn := i) el28 (ky) (fun _ h => h.pick []) rfl rfl rfl rfl (by omega) (by omega) rfl ?_
      intro ae2 e2
      refine ldq Try.isAgg2 (e2) rfl rfl rfl ?_
      refine neq rfl rfl rfl rfl ?_
      refine rNil ?_
      refine qSeq rfl ?_
      refine hIfD rfl (fun c3 => ?_) (fun c3 => ?_)
      · -- c3T
        replace c3 : (z.getD i 0) ≠ (y.getD i 0) := c3
        exact absurd (by rw [heq]) c3
      · -- c3F
        replace c3 : ¬ ((z.getD i 0) ≠ (y.getD i 0)) := c3
        refine hSkip ?_
        refine qSeq rfl ?_
        refine hReg (sq 0 (sq 1 (sq 2 sz))) (by kernel_rfl) ?_
        refine mvI rfl rfl rfl ?_
        refine add rfl rfl rfl rfl (by omega) ?_
        refine asI rfl rfl rfl ?_
        refine rNil ?_
        exact qNext rfl (i + 1) (by omega) (by omega) ⟨rfl, rfl, rfl, trivial⟩ (fun _ h => h.pick [])
    · -- c2F
      replace c2 : ¬ ((i : Int) < (nz : Int)) := c2
      refine hExit rfl ?_
      refine qSeq rfl ?_
      refine hSeq ?_
      refine hReg (sq 0 sz) (by kernel_rfl) ?_
      refine asB rfl rfl rfl ?_
      refine rNil ?_
      refine qSeq rfl ?_
      refine hRet ?_
      exact fun w hs => ⟨[.bool true], ⟨rfl, trivial⟩, ⟨by first | rfl | exact bD (by omega) | exact bT (by omega) | exact bF (by omega) | exact vI (by omega), hs.upd⟩⟩

theorem spec_DrawEndsOf_c (ca : Option Addr) (bs : List Int) (cc : Nat) (w : World) (rcode : CellsAt ca (bs.map (Value.int .u8)) w) (hok : okBytes bs) :
    Calls Try.prog 13 #[.slice ca bs.length cc] w (Ret fun v w' => ∃ x : Option Addr × Nat × Nat × (Nat → Hd) × List Nd, v = .agg #[.slice x.1 x.2.1 x.2.2.1] ∧ (x.2.1 ≤ 250) ∧ Sep w none_ [RdR ndK x.1 x.2.1 x.2.2.2.1 x.2.2.2.2] w') := by
  have kcode : Kn w none_ [] (CellsAt ca (bs.map (Value.int .u8))) := fun w' hs => rcode.ext hs.upd
  refine fn (M := none_) (rs := [.cell 2 26]) Try.func13 rfl Try.ntmps13 rfl rfl (Sep.start _ _) ?_
  refine hSeq ?_
  refine hReg (sl 0 sz) (by kernel_rfl) ?_
  refine alc Try.zeroValue26 rfl trv1 rfl rfl (fun bka1 hbka1 => ?_)
  refine rNil ?_
  refine qSeq rfl ?_
  refine hSeq ?_
  refine hReg (sq 0 (sl 1 (sl 2 (sl 3 sz)))) (by kernel_rfl) ?_
  refine mvS rfl rfl rfl ?_
  refine callN (α := Nat) (val := fun x => .pointer (some ⟨x, 0, none⟩)) (good := fun _ => True) (φ := fun x => srcP x ca bs cc) Try.call92 trv1 rfl rfl (fun w hs => (l01From_c ca bs cc w (kcode w (hs.sub (List.nil_sublist _))) hok).mono fun e w1 ⟨v, h0, bk, h1, h2, h3, h4⟩ => ⟨v, h0, bk, h1, trivial, h3, h4⟩) ?_
  rintro bks2 -
  refine callMK (α := Option Addr × Nat × Nat × (Nat → Hd) × List Nd) (Lf := [srcP bks2 ca bs cc]) (Lr := [blk bka1 26 [.slice none 0 0]]) (good := fun x => x.2.1 ≤ 250) (φs := fun x => [srcP bks2 ca bs cc, RdR ndK x.1 x.2.1 x.2.2.2.1 x.2.2.2.2]) (val := fun x => .agg #[.slice x.1 x.2.1 x.2.2.1]) rfl Try.call91 trv1 rfl rfl (fun w M1 hs hk => spec_l20Draw_c bks2 ca bs cc  w M1 hs (hk _ kcode) hok ) ?_
  rintro ⟨ay1, ny1, cy1, Hy1, y1⟩ hr1
  try dsimp only at hr1
  refine rPieces (L' := [srcP bks2 ca bs cc, RdR ndK ay1 ny1 Hy1 y1, blk bka1 26 [.slice none 0 0]]) (fun _ h => h) ?_
  refine rKnow (fun w hs => (show RdR ndK ay1 ny1 Hy1 y1 w from hs.at_ 1 rfl).1) (fun lenn3 => ?_)
  refine stAl (vs := [.slice ay1 ny1 cy1]) 2 rfl Try.sizeOf26 trv rfl rfl rfl rfl rfl (by simp [Value.oneCell']) rfl ?_
  refine rNil ?_
  refine qSeq rfl ?_
  refine hRet ?_
  exact fun w hs => ⟨[_], ⟨⟨_, rfl, run_load_agg Try.isAgg26 Try.sizeOf26 rfl (cBs 2 rfl w hs)⟩, trivial⟩, ⟨(ay1, ny1, cy1, Hy1, y1), rfl, by dsimp only; omega, hs.pick [1]⟩⟩

theorem spec_DrawDepthOf_c (ca : Option Addr) (bs : List Int) (cc : Nat) (w : World) (rcode : CellsAt ca (bs.map (Value.int .u8)) w) (hok : okBytes bs) :
    Calls Try.prog 28 #[.slice ca bs.length cc] w (Ret fun v w' => ∃ x : Option Addr × Nat × Nat × (Nat → Hd) × List Nd, v = .agg #[.slice x.1 x.2.1 x.2.2.1] ∧ (x.2.1 ≤ 250) ∧ Sep w none_ [RdR ndK x.1 x.2.1 x.2.2.2.1 x.2.2.2.2] w') := by
  have kcode : Kn w none_ [] (CellsAt ca (bs.map (Value.int .u8))) := fun w' hs => rcode.ext hs.upd
  refine fn (M := none_) (rs := [.cell 2 26]) Try.func28 rfl Try.ntmps28 rfl rfl (Sep.start _ _) ?_
  refine hSeq ?_
  refine hReg (sl 0 sz) (by kernel_rfl) ?_
  refine alc Try.zeroValue26 rfl trv1 rfl rfl (fun bka1 hbka1 => ?_)
  refine rNil ?_
  refine qSeq rfl ?_
  refine hSeq ?_
  refine hReg (sq 0 (sl 1 (sl 2 (sl 3 sz)))) (by kernel_rfl) ?_
  refine mvS rfl rfl rfl ?_
  refine callN (α := Nat) (val := fun x => .pointer (some ⟨x, 0, none⟩)) (good := fun _ => True) (φ := fun x => srcP x ca bs cc) Try.call92 trv1 rfl rfl (fun w hs => (l01From_c ca bs cc w (kcode w (hs.sub (List.nil_sublist _))) hok).mono fun e w1 ⟨v, h0, bk, h1, h2, h3, h4⟩ => ⟨v, h0, bk, h1, trivial, h3, h4⟩) ?_
  rintro bks2 -
  refine callMK (α := Option Addr × Nat × Nat × (Nat → Hd) × List Nd) (Lf := [srcP bks2 ca bs cc]) (Lr := [blk bka1 26 [.slice none 0 0]]) (good := fun x => x.2.1 ≤ 250) (φs := fun x => [srcP bks2 ca bs cc, RdR ndK x.1 x.2.1 x.2.2.2.1 x.2.2.2.2]) (val := fun x => .agg #[.slice x.1 x.2.1 x.2.2.1]) rfl Try.call91 trv1 rfl rfl (fun w M1 hs hk => spec_l20Draw_c bks2 ca bs cc  w M1 hs (hk _ kcode) hok ) ?_
  rintro ⟨ay1, ny1, cy1, Hy1, y1⟩ hr1
  try dsimp only at hr1
  refine rPieces (L' := [srcP bks2 ca bs cc, RdR ndK ay1 ny1 Hy1 y1, blk bka1 26 [.slice none 0 0]]) (fun _ h => h) ?_
  refine rKnow (fun w hs => (show RdR ndK ay1 ny1 Hy1 y1 w from hs.at_ 1 rfl).1) (fun lenn3 => ?_)
  refine stAl (vs := [.slice ay1 ny1 cy1]) 2 rfl Try.sizeOf26 trv rfl rfl rfl rfl rfl (by simp [Value.oneCell']) rfl ?_
  refine rNil ?_
  refine qSeq rfl ?_
  refine hRet ?_
  exact fun w hs => ⟨[_], ⟨⟨_, rfl, run_load_agg Try.isAgg26 Try.sizeOf26 rfl (cBs 2 rfl w hs)⟩, trivial⟩, ⟨(ay1, ny1, cy1, Hy1, y1), rfl, by dsimp only; omega, hs.pick [1]⟩⟩

theorem spec_DrawDecisionsOf_c (ca : Option Addr) (bs : List Int) (cc : Nat) (w : World) (rcode : CellsAt ca (bs.map (Value.int .u8)) w) (hok : okBytes bs) :
    Calls Try.prog 16 #[.slice ca bs.length cc] w (Ret fun v w' => ∃ x : Option Addr × Nat × Nat × (Nat → Hd) × List Nd × Int, v = .tuple #[.agg #[.slice x.1 x.2.1 x.2.2.1], .int .i64 x.2.2.2.2.2] ∧ (x.2.1 ≤ 250 ∧ (-1 ≤ x.2.2.2.2.2 ∧ x.2.2.2.2.2 ≤ 300)) ∧ Sep w none_ [RdR ndK x.1 x.2.1 x.2.2.2.1 x.2.2.2.2.1] w') := by
  have kcode : Kn w none_ [] (CellsAt ca (bs.map (Value.int .u8))) := fun w' hs => rcode.ext hs.upd
  refine fn (M := none_) (rs := [.cell 2 26, .tmp 3]) Try.func16 rfl Try.ntmps16 rfl rfl (Sep.start _ _) ?_
  refine hSeq ?_
  refine hReg (sl 0 (sq 1 sz)) (by kernel_rfl) ?_
  refine alc Try.zeroValue26 rfl trv1 rfl rfl (fun bka1 hbka1 => ?_)
  refine asI rfl rfl rfl ?_
  refine rNil ?_
  refine qSeq rfl ?_
  refine hSeq ?_
  refine hReg (sq 0 (sl 1 (sq 2 sz))) (by kernel_rfl) ?_
  refine mvS rfl rfl rfl ?_
  refine callN (α := Nat) (val := fun x => .pointer (some ⟨x, 0, none⟩)) (good := fun _ => True) (φ := fun x => srcP x ca bs cc) Try.call92 trv1 rfl rfl (fun w hs => (l01From_c ca bs cc w (kcode w (hs.sub (List.nil_sublist _))) hok).mono fun e w1 ⟨v, h0, bk, h1, h2, h3, h4⟩ => ⟨v, h0, bk, h1, trivial, h3, h4⟩) ?_
  rintro bks2 -
  refine asn rfl rfl rfl ?_
  refine rNil ?_
  refine qSeq rfl ?_
  refine hSeq ?_
  refine hReg (sq 0 (sl 1 (sl 2 (sl 3 sz)))) (by kernel_rfl) ?_
  refine mvP rfl rfl rfl ?_
  refine callMK (α := Option Addr × Nat × Nat × (Nat → Hd) × List Nd) (Lf := [srcP bks2 ca bs cc]) (Lr := [blk bka1 26 [.slice none 0 0]]) (good := fun x => x.2.1 ≤ 250) (φs := fun x => [srcP bks2 ca bs cc, RdR ndK x.1 x.2.1 x.2.2.2.1 x.2.2.2.2]) (val := fun x => .agg #[.slice x.1 x.2.1 x.2.2.1]) rfl Try.call91 trv1 rfl rfl (fun w M1 hs hk => spec_l20Draw_c bks2 ca bs cc  w M1 hs (hk _ kcode) hok ) ?_
  rintro ⟨ay1, ny1, cy1, Hy1, y1⟩ hr1
  try dsimp only at hr1
  refine rPieces (L' := [srcP bks2 ca bs cc, RdR ndK ay1 ny1 Hy1 y1, blk bka1 26 [.slice none 0 0]]) (fun _ h => h) ?_
  refine rKnow (fun w hs => (show RdR ndK ay1 ny1 Hy1 y1 w from hs.at_ 1 rfl).1) (fun lenn3 => ?_)
  refine alc Try.zeroValue26 rfl trv1 rfl rfl (fun bka4 hbka4 => ?_)
  refine stAl (vs := [.slice ay1 ny1 cy1]) 0 rfl Try.sizeOf26 trv rfl rfl rfl rfl rfl (by simp [Value.oneCell']) rfl ?_
  refine rNil ?_
  refine qSeq rfl ?_
  refine hSeq ?_
  refine hDraw (Ls := [blk bka4 26 [.slice ay1 ny1 cy1]]) (by kernel_rfl) (sq 0 (sq 1 (sl 2 (sq 3 (sl 4 (sq 5 sz)))))) (by kernel_rfl) (.cons_cons _ (.cons _ (.cons _ (.cons _ .slnil)))) ?_
  refine ldAq Try.isAgg26 Try.sizeOf26 (cBs 0 rfl) rfl rfl rfl rfl ?_
  refine mvP rfl rfl rfl ?_
  refine rPieces (L' := [srcP bks2 ca bs cc, blk bka4 26 [.slice ay1 ny1 cy1], RdR ndK ay1 ny1 Hy1 y1, blk bka1 26 [.slice none 0 0]]) (fun _ h => h.perm (pull (i := 1) rfl)) ?_
  refine callMK (α := Int) (Lf := [srcP bks2 ca bs cc]) (Lr := [blk bka4 26 [.slice ay1 ny1 cy1], RdR ndK ay1 ny1 Hy1 y1, blk bka1 26 [.slice none 0 0]]) (good := fun x => 0 ≤ x ∧ (x < (4 : Int) ∨ x = 0)) (φs := fun x => [srcP bks2 ca bs cc]) (val := fun x => .int .i64 x) rfl Try.call95 (by exact (fun _ _ h => h.pick [1])) rfl rfl (fun w M1 hs hk => src_next bks2 ca bs cc (4 : Int) w M1 hs (hk _ kcode) hok) ?_
  intro x2 hx2
  try dsimp only at hx2
  refine rPieces (L' := [srcP bks2 ca bs cc, blk bka4 26 [.slice ay1 ny1 cy1], RdR ndK ay1 ny1 Hy1 y1, blk bka1 26 [.slice none 0 0]]) (fun _ h => h) ?_
  refine sub rfl rfl rfl rfl (by omega) ?_
  refine stAl (vs := [.slice ay1 ny1 cy1]) 3 rfl Try.sizeOf26 (fun _ h => h.pick [1]) rfl rfl rfl rfl rfl (by simp [Value.oneCell']) rfl ?_
  refine asI rfl rfl rfl ?_
  refine rNil ?_
  refine qSeq rfl ?_
  refine hRet ?_
  exact fun w hs => ⟨[_, .int .i64 (x2 - 1)], ⟨⟨_, rfl, run_load_agg Try.isAgg26 Try.sizeOf26 rfl (cBs 3 rfl w hs)⟩, ⟨rfl, trivial⟩⟩, ⟨(ay1, ny1, cy1, Hy1, y1, (x2 - 1)), rfl, ⟨by dsimp only; omega, by dsimp only; omega⟩, hs.pick [2]⟩⟩

theorem spec_DrawWayTo_c (ca : Option Addr) (bs : List Int) (cc : Nat) (w : World) (rcode : CellsAt ca (bs.map (Value.int .u8)) w) (hok : okBytes bs) :
    Calls Try.prog 22 #[.slice ca bs.length cc] w (Ret fun v w' => ∃ x : Option Addr × Nat × Nat × (Nat → Hd) × List Nd × Int, v = .tuple #[.agg #[.slice x.1 x.2.1 x.2.2.1], .int .i64 x.2.2.2.2.2] ∧ (x.2.1 ≤ 250 ∧ (-1 ≤ x.2.2.2.2.2 ∧ x.2.2.2.2.2 ≤ 300)) ∧ Sep w none_ [RdR ndK x.1 x.2.1 x.2.2.2.1 x.2.2.2.2.1] w') := by
  have kcode : Kn w none_ [] (CellsAt ca (bs.map (Value.int .u8))) := fun w' hs => rcode.ext hs.upd
  refine fn (M := none_) (rs := [.cell 2 26, .tmp 3]) Try.func22 rfl Try.ntmps22 rfl rfl (Sep.start _ _) ?_
  refine hSeq ?_
  refine hReg (sl 0 (sq 1 sz)) (by kernel_rfl) ?_
  refine alc Try.zeroValue26 rfl trv1 rfl rfl (fun bka1 hbka1 => ?_)
  refine asI rfl rfl rfl ?_
  refine rNil ?_
  refine qSeq rfl ?_
  refine hSeq ?_
  refine hReg (sq 0 (sl 1 (sq 2 sz))) (by kernel_rfl) ?_
  refine mvS rfl rfl rfl ?_
  refine callN (α := Nat) (val := fun x => .pointer (some ⟨x, 0, none⟩)) (good := fun _ => True) (φ := fun x => srcP x ca bs cc) Try.call92 trv1 rfl rfl (fun w hs => (l01From_c ca bs cc w (kcode w (hs.sub (List.nil_sublist _))) hok).mono fun e w1 ⟨v, h0, bk, h1, h2, h3, h4⟩ => ⟨v, h0, bk, h1, trivial, h3, h4⟩) ?_
  rintro bks2 -
  refine asn rfl rfl rfl ?_
  refine rNil ?_
  refine qSeq rfl ?_
  refine hSeq ?_
  refine hReg (sq 0 (sl 1 (sl 2 (sl 3 sz)))) (by kernel_rfl) ?_
  refine mvP rfl rfl rfl ?_
  refine callMK (α := Option Addr × Nat × Nat × (Nat → Hd) × List Nd) (Lf := [srcP bks2 ca bs cc]) (Lr := [blk bka1 26 [.slice none 0 0]]) (good := fun x => x.2.1 ≤ 250) (φs := fun x => [srcP bks2 ca bs cc, RdR ndK x.1 x.2.1 x.2.2.2.1 x.2.2.2.2]) (val := fun x => .agg #[.slice x.1 x.2.1 x.2.2.1]) rfl Try.call91 trv1 rfl rfl (fun w M1 hs hk => spec_l20Draw_c bks2 ca bs cc  w M1 hs (hk _ kcode) hok ) ?_
  rintro ⟨ay1, ny1, cy1, Hy1, y1⟩ hr1
  try dsimp only at hr1
  refine rPieces (L' := [srcP bks2 ca bs cc, RdR ndK ay1 ny1 Hy1 y1, blk bka1 26 [.slice none 0 0]]) (fun _ h => h) ?_
  refine rKnow (fun w hs => (show RdR ndK ay1 ny1 Hy1 y1 w from hs.at_ 1 rfl).1) (fun lenn3 => ?_)
  refine alc Try.zeroValue26 rfl trv1 rfl rfl (fun bka4 hbka4 => ?_)
  refine stAl (vs := [.slice ay1 ny1 cy1]) 0 rfl Try.sizeOf26 trv rfl rfl rfl rfl rfl (by simp [Value.oneCell']) rfl ?_
  refine rNil ?_
  refine qSeq rfl ?_
  refine hSeq ?_
  refine hDraw (Ls := [blk bka4 26 [.slice ay1 ny1 cy1]]) (by kernel_rfl) (sq 0 (sq 1 (sq 2 (sq 3 (sq 4 (sq 5 (sl 6 (sq 7 (sl 8 (sq 9 sz)))))))))) (by kernel_rfl) (.cons_cons _ (.cons _ (.cons _ (.cons _ .slnil)))) ?_
  refine ldAq Try.isAgg26 Try.sizeOf26 (cBs 0 rfl) rfl rfl rfl rfl ?_
  refine mvP rfl rfl rfl ?_
  refine fld fl26_0 rfl rfl rfl ?_
  refine ldq Try.isAgg24 (cB 0 rfl rfl) rfl rfl rfl ?_
  refine lenS Try.runUnderlying24 rfl rfl rfl ?_
  refine add rfl rfl rfl rfl (by omega) ?_
  refine rPieces (L' := [srcP bks2 ca bs cc, blk bka4 26 [.slice ay1 ny1 cy1], RdR ndK ay1 ny1 Hy1 y1, blk bka1 26 [.slice none 0 0]]) (fun _ h => h.perm (pull (i := 1) rfl)) ?_
  refine callMK (α := Int) (Lf := [srcP bks2 ca bs cc]) (Lr := [blk bka4 26 [.slice ay1 ny1 cy1], RdR ndK ay1 ny1 Hy1 y1, blk bka1 26 [.slice none 0 0]]) (good := fun x => 0 ≤ x ∧ (x < (((ny1 : Int) + 2)) ∨ x = 0)) (φs := fun x => [srcP bks2 ca bs cc]) (val := fun x => .int .i64 x) rfl Try.call95 (by exact (fun _ _ h => h.pick [1])) rfl rfl (fun w M1 hs hk => src_next bks2 ca bs cc (((ny1 : Int) + 2)) w M1 hs (hk _ kcode) hok) ?_
  intro x2 hx2
  try dsimp only at hx2
  refine rPieces (L' := [srcP bks2 ca bs cc, blk bka4 26 [.slice ay1 ny1 cy1], RdR ndK ay1 ny1 Hy1 y1, blk bka1 26 [.slice none 0 0]]) (fun _ h => h) ?_
  refine sub rfl rfl rfl rfl (by omega) ?_
  refine stAl (vs := [.slice ay1 ny1 cy1]) 3 rfl Try.sizeOf26 (fun _ h => h.pick [1]) rfl rfl rfl rfl rfl (by simp [Value.oneCell']) rfl ?_
  refine asI rfl rfl rfl ?_
  refine rNil ?_
  refine qSeq rfl ?_
  refine hRet ?_
  exact fun w hs => ⟨[_, .int .i64 (x2 - 1)], ⟨⟨_, rfl, run_load_agg Try.isAgg26 Try.sizeOf26 rfl (cBs 3 rfl w hs)⟩, ⟨rfl, trivial⟩⟩, ⟨(ay1, ny1, cy1, Hy1, y1, (x2 - 1)), rfl, ⟨by dsimp only; omega, by dsimp only; omega⟩, hs.pick [2]⟩⟩

theorem spec_DrawNodeBy_c (ca : Option Addr) (bs : List Int) (cc : Nat) (w : World) (rcode : CellsAt ca (bs.map (Value.int .u8)) w) (hok : okBytes bs) :
    Calls Try.prog 25 #[.slice ca bs.length cc] w (Ret fun v w' => ∃ x : Option Addr × Nat × Nat × (Nat → Hd) × List Nd × Option Addr × Nat × Nat × List Int, v = .tuple #[.agg #[.slice x.1 x.2.1 x.2.2.1], .slice x.2.2.2.2.2.1 x.2.2.2.2.2.2.1 x.2.2.2.2.2.2.2.1] ∧ (x.2.1 ≤ 250 ∧ x.2.2.2.2.2.2.1 ≤ 6) ∧ Sep w none_ [RdR ndK x.1 x.2.1 x.2.2.2.1 x.2.2.2.2.1, OwnI 2 x.2.2.2.2.2.1 x.2.2.2.2.2.2.1 x.2.2.2.2.2.2.2.1 x.2.2.2.2.2.2.2.2] w') := by
  have kcode : Kn w none_ [] (CellsAt ca (bs.map (Value.int .u8))) := fun w' hs => rcode.ext hs.upd
  refine fn (M := none_) (rs := [.cell 2 26, .tmp 3]) Try.func25 rfl Try.ntmps25 rfl rfl (Sep.start _ _) ?_
  refine hSeq ?_
  refine hReg (sl 0 (sq 1 sz)) (by kernel_rfl) ?_
  refine alc Try.zeroValue26 rfl trv1 rfl rfl (fun bka1 hbka1 => ?_)
  refine asS rfl rfl rfl ?_
  refine rNil ?_
  refine qSeq rfl ?_
  refine hSeq ?_
  refine hReg (sq 0 (sl 1 (sq 2 sz))) (by kernel_rfl) ?_
  refine mvS rfl rfl rfl ?_
  refine callN (α := Nat) (val := fun x => .pointer (some ⟨x, 0, none⟩)) (good := fun _ => True) (φ := fun x => srcP x ca bs cc) Try.call92 trv1 rfl rfl (fun w hs => (l01From_c ca bs cc w (kcode w (hs.sub (List.nil_sublist _))) hok).mono fun e w1 ⟨v, h0, bk, h1, h2, h3, h4⟩ => ⟨v, h0, bk, h1, trivial, h3, h4⟩) ?_
  rintro bks2 -
  refine asn rfl rfl rfl ?_
  refine rNil ?_
  refine qSeq rfl ?_
  refine hSeq ?_
  refine hReg (sq 0 (sl 1 (sl 2 (sl 3 sz)))) (by kernel_rfl) ?_
  refine mvP rfl rfl rfl ?_
  refine callMK (α := Option Addr × Nat × Nat × (Nat → Hd) × List Nd) (Lf := [srcP bks2 ca bs cc]) (Lr := [blk bka1 26 [.slice none 0 0]]) (good := fun x => x.2.1 ≤ 250) (φs := fun x => [srcP bks2 ca bs cc, RdR ndK x.1 x.2.1 x.2.2.2.1 x.2.2.2.2]) (val := fun x => .agg #[.slice x.1 x.2.1 x.2.2.1]) rfl Try.call91 trv1 rfl rfl (fun w M1 hs hk => spec_l20Draw_c bks2 ca bs cc  w M1 hs (hk _ kcode) hok ) ?_
  rintro ⟨ay1, ny1, cy1, Hy1, y1⟩ hr1
  try dsimp only at hr1
  refine rPieces (L' := [srcP bks2 ca bs cc, RdR ndK ay1 ny1 Hy1 y1, blk bka1 26 [.slice none 0 0]]) (fun _ h => h) ?_
  refine rKnow (fun w hs => (show RdR ndK ay1 ny1 Hy1 y1 w from hs.at_ 1 rfl).1) (fun lenn3 => ?_)
  refine alc Try.zeroValue26 rfl trv1 rfl rfl (fun bka4 hbka4 => ?_)
  refine stAl (vs := [.slice ay1 ny1 cy1]) 0 rfl Try.sizeOf26 trv rfl rfl rfl rfl rfl (by simp [Value.oneCell']) rfl ?_
  refine rNil ?_
  refine qSeq rfl ?_
  refine hSeq ?_
  refine hReg (sl 0 (sq 1 sz)) (by kernel_rfl) ?_
  refine bsl trv1 rfl rfl rfl (bsl28_0) (fun bkl5 hbkl5 => ?_)
  refine asS rfl rfl rfl ?_
  refine rNil ?_
  refine qSeq rfl ?_
  refine hSeq ?_
  refine hSeq ?_
  refine hReg (sq 0 (sl 1 (sq 2 sz))) (by kernel_rfl) ?_
  refine mvP rfl rfl rfl ?_
  refine rPieces (L' := [srcP bks2 ca bs cc, blk bkl5 2 [], blk bka4 26 [.slice ay1 ny1 cy1], RdR ndK ay1 ny1 Hy1 y1, blk bka1 26 [.slice none 0 0]]) (fun _ h => h.perm (pull (i := 2) rfl)) ?_
  refine callMK (α := Int) (Lf := [srcP bks2 ca bs cc]) (Lr := [blk bkl5 2 [], blk bka4 26 [.slice ay1 ny1 cy1], RdR ndK ay1 ny1 Hy1 y1, blk bka1 26 [.slice none 0 0]]) (good := fun x => 0 ≤ x ∧ (x < (5 : Int) ∨ x = 0)) (φs := fun x => [srcP bks2 ca bs cc]) (val := fun x => .int .i64 x) rfl Try.call95 trv1 rfl rfl (fun w M1 hs hk => src_next bks2 ca bs cc (5 : Int) w M1 hs (hk _ kcode) hok) ?_
  intro x2 hx2
  try dsimp only at hx2
  refine rPieces (L' := [srcP bks2 ca bs cc, blk bkl5 2 [], blk bka4 26 [.slice ay1 ny1 cy1], RdR ndK ay1 ny1 Hy1 y1, blk bka1 26 [.slice none 0 0]]) (fun _ h => h) ?_
  refine asI rfl rfl rfl ?_
  refine rNil ?_
  refine qSeq rfl ?_
  refine hBlk ?_
  refine hPieces (fun _ h => Sep.litI h 1 [] rfl rfl rfl) ?_
  refine hLoop (α := Int × Nat × Hd × List Int) (fun x => (0 ≤ x.1 ∧ x.1 ≤ 5) ∧ (x.2.1 : Int) + x.1 ≤ 5) (fun x => x.1.toNat) (fun x => [srcP bks2 ca bs cc, OwnI 2 x.2.2.1.1 x.2.1 x.2.2.1.2 x.2.2.2, blk bka4 26 [.slice ay1 ny1 cy1], RdR ndK ay1 ny1 Hy1 y1, blk bka1 26 [.slice none 0 0]]) (fun x => [(2, .pointer (some ⟨bka1, 0, none⟩)), (4, .pointer (some ⟨bks2, 0, none⟩)), (5, .pointer (some ⟨bka4, 0, none⟩)), (6, .slice x.2.2.1.1 x.2.1 x.2.2.1.2), (7, .int .i64 x.1)]) ((x2, 0, ((some ⟨bkl5, 0, none⟩), 0), [])) ⟨by dsimp only; omega, by dsimp only; omega⟩ (fun _ h => h.pick [0, 0, 0, 0, 0]) ⟨rfl, rfl, rfl, rfl, rfl, trivial⟩ ?_
  rintro ⟨m, q, he, ch⟩ τ1 ⟨hm, hq⟩
  dsimp only at hm hq
  refine hRe [(2, .pointer (some ⟨bka1, 0, none⟩)), (4, .pointer (some ⟨bks2, 0, none⟩)), (5, .pointer (some ⟨bka4, 0, none⟩)), (6, .slice he.1 q he.2), (7, .int .i64 m)] [srcP bks2 ca bs cc, OwnI 2 he.1 q he.2 ch, blk bka4 26 [.slice ay1 ny1 cy1], RdR ndK ay1 ny1 Hy1 y1, blk bka1 26 [.slice none 0 0]] rfl rfl ?_
  refine hSeq ?_
  refine hSeq ?_
  refine hReg (sq 0 (sq 1 sz)) (by kernel_rfl) ?_
  refine mvI rfl rfl rfl ?_
  refine gtr rfl rfl rfl rfl ?_
  refine rNil ?_
  refine qSeq rfl ?_
  refine hIfD rfl (fun c1 => ?_) (fun c1 => ?_)
  · -- c1T
    replace c1 : 0 < m := c1
    refine hSkip ?_
    refine qSeq rfl ?_
    refine hSeq ?_
    refine hBlk ?_
    refine hReg (sq 0 (sq 1 (sl 2 (sq 3 (sl 4 (sq 5 (sq 6 (sl 7 (sl 8 (sq 9 sz)))))))))) (by kernel_rfl) ?_
    refine mvS rfl rfl rfl ?_
    refine mvP rfl rfl rfl ?_
    refine callMK (α := Int) (Lf := [srcP bks2 ca bs cc]) (Lr := [OwnI 2 he.1 q he.2 ch, blk bka4 26 [.slice ay1 ny1 cy1], RdR ndK ay1 ny1 Hy1 y1, blk bka1 26 [.slice none 0 0]]) (good := fun x => 0 ≤ x ∧ (x < (3 : Int) ∨ x = 0)) (φs := fun x => [srcP bks2 ca bs cc]) (val := fun x => .int .i64 x) rfl Try.call95 trv1 rfl rfl (fun w M1 hs hk => src_next bks2 ca bs cc (3 : Int) w M1 hs (hk _ kcode) hok) ?_
    intro x3 hx3
    try dsimp only at hx3
    refine rPieces (L' := [srcP bks2 ca bs cc, OwnI 2 he.1 q he.2 ch, blk bka4 26 [.slice ay1 ny1 cy1], RdR ndK ay1 ny1 Hy1 y1, blk bka1 26 [.slice none 0 0]]) (fun _ h => h) ?_
    refine mvP rfl rfl rfl ?_
    refine callMK (α := Int) (Lf := [srcP bks2 ca bs cc]) (Lr := [OwnI 2 he.1 q he.2 ch, blk bka4 26 [.slice ay1 ny1 cy1], RdR ndK ay1 ny1 Hy1 y1, blk bka1 26 [.slice none 0 0]]) (good := fun x => 0 ≤ x ∧ (x < (20 : Int) ∨ x = 0)) (φs := fun x => [srcP bks2 ca bs cc]) (val := fun x => .int .i64 x) rfl Try.call95 trv1 rfl rfl (fun w M1 hs hk => src_next bks2 ca bs cc (20 : Int) w M1 hs (hk _ kcode) hok) ?_
    intro x4 hx4
    try dsimp only at hx4
    refine rPieces (L' := [srcP bks2 ca bs cc, OwnI 2 he.1 q he.2 ch, blk bka4 26 [.slice ay1 ny1 cy1], RdR ndK ay1 ny1 Hy1 y1, blk bka1 26 [.slice none 0 0]]) (fun _ h => h) ?_
    refine quo rfl rfl rfl rfl (by omega) ?_
    refine sub rfl rfl rfl rfl (by omega) ?_
    refine bsl trv1 rfl rfl rfl (bsl28_1 (.int .i64 _) rfl) (fun bkl6 hbkl6 => ?_)
    refine aplI (N := q) (x := (x3 - (x4 / 19))) 2 0 rfl rfl mk28 trv1 rfl rfl rfl rfl (by omega) ?_
    intro aq5 cq5
    refine asS rfl rfl rfl ?_
    refine rNil ?_
    refine qSeq rfl ?_
    refine hReg (sq 0 (sq 1 (sq 2 sz))) (by kernel_rfl) ?_
    refine mvI rfl rfl rfl ?_
    refine sub rfl rfl rfl rfl (by omega) ?_
    refine asI rfl rfl rfl ?_
    refine rNil ?_
    exact qNext rfl ((m - 1, q + 1, (aq5, cq5), (ch ++ [(x3 - (x4 / 19))]))) (by dsimp only; omega) ⟨by dsimp only; omega, by dsimp only; omega⟩ ⟨rfl, rfl, rfl, rfl, rfl, trivial⟩ (fun _ h => h.pick [1, 1, 1, 1, 1])
  · -- c1F
    replace c1 : ¬ (0 < m) := c1
    refine hExit rfl ?_
    refine qSeq rfl ?_
    refine hSeq ?_
    refine hReg (sl 0 (sq 1 (sl 2 (sq 3 sz)))) (by kernel_rfl) ?_
    refine ldAl Try.isAgg26 Try.sizeOf26 (cBs 2 rfl) trv rfl rfl rfl rfl ?_
    refine mvS rfl rfl rfl ?_
    refine stAl (vs := [.slice ay1 ny1 cy1]) 4 rfl Try.sizeOf26 trv rfl rfl rfl rfl rfl (by simp [Value.oneCell']) rfl ?_
    refine asS rfl rfl rfl ?_
    refine rNil ?_
    refine qSeq rfl ?_
    refine hRet ?_
    exact fun w hs => ⟨[_, .slice he.1 q he.2], ⟨⟨_, rfl, run_load_agg Try.isAgg26 Try.sizeOf26 rfl (cBs 4 rfl w hs)⟩, ⟨rfl, trivial⟩⟩, ⟨(ay1, ny1, cy1, Hy1, y1, he.1, q, he.2, ch), rfl, ⟨by dsimp only; omega, by dsimp only; omega⟩, hs.pick [3, 1]⟩⟩

end Go.Proofs.Ytjengglpbdgmnaa
