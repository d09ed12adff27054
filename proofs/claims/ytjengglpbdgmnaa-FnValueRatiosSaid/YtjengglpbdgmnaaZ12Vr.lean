/- Contracts of games and strategies that laws draw. Their conditions stand in each. -/
import Derived.Test.YtjengglpbdgmnaaZ11Vr
import Derived.Test.YtjengglpbdgmnaaZ1Vr
import Derived.Test.YtjengglpbdgmnaaZ2Vr
import Derived.Test.YtjengglpbdgmnaaZ3Vr
import Derived.Test.YtjengglpbdgmnaaZ10Vr
import Derived.Test.YtjengglpbdgmnaaZ4Vr
import Derived.Test.YtjengglpbdgmnaaZ7Vr
import Derived.Test.YtjengglpbdgmnaaZ8Vr
import Derived.Test.YtjengglpbdgmnaaZ5Vr
import Derived.Test.YtjengglpbdgmnaaZ6Vr
import Derived.Test.YtjengglpbdgmnaaZ9Vr
import Derived.Test.YtjengglpbdgmnaaRows
import Derived.RowKit
namespace Go.Proofs.Ytjengglpbdgmnaa
open Go Go.RowKit V
set_option linter.unusedVariables false
set_option linter.unusedSimpArgs false
set_option maxRecDepth 100000
set_option maxHeartbeats 4000000 in
theorem spec_DrawValueRatio_c (ca : Option Addr) (bs : List Int) (cc : Nat) (w : World) (rcode : CellsAt ca (bs.map (Value.int .u8)) w) (hok : okBytes bs) :
  Calls Try.prog 85 #[.slice ca bs.length cc] w (Ret fun v w' => ∃ x : Option Addr × Nat × Nat × (Nat → Hd) × List Nd × Option Addr × Nat × Nat × (Nat → Hd) × List (List Int) × Option Addr × Nat × Nat × (Nat → Hd) × List (List Int) × Int × Option Addr × Nat × Nat × (Nat → Hd) × List (List Int) × Int × Option Addr × Nat × Nat × (Nat → Hd) × List (List Int), v = .tuple #[.agg #[.slice x.1 x.2.1 x.2.2.1, .slice x.2.2.2.2.2.1 x.2.2.2.2.2.2.1 x.2.2.2.2.2.2.2.1, .slice x.2.2.2.2.2.2.2.2.2.2.1 x.2.2.2.2.2.2.2.2.2.2.2.1 x.2.2.2.2.2.2.2.2.2.2.2.2.1], .agg #[.int .i64 x.2.2.2.2.2.2.2.2.2.2.2.2.2.2.2.1, .slice x.2.2.2.2.2.2.2.2.2.2.2.2.2.2.2.2.1 x.2.2.2.2.2.2.2.2.2.2.2.2.2.2.2.2.2.1 x.2.2.2.2.2.2.2.2.2.2.2.2.2.2.2.2.2.2.1], .agg #[.int .i64 x.2.2.2.2.2.2.2.2.2.2.2.2.2.2.2.2.2.2.2.2.2.1, .slice x.2.2.2.2.2.2.2.2.2.2.2.2.2.2.2.2.2.2.2.2.2.2.1 x.2.2.2.2.2.2.2.2.2.2.2.2.2.2.2.2.2.2.2.2.2.2.2.1 x.2.2.2.2.2.2.2.2.2.2.2.2.2.2.2.2.2.2.2.2.2.2.2.2.1]] ∧ (x.2.1 ≤ 250 ∧ ((1 ≤ x.2.2.2.2.2.2.1 ∧ x.2.2.2.2.2.2.1 ≤ 4) ∧ x.2.2.2.2.2.2.2.2.2.2.2.1 ≤ 4) ∧ ((-1 ≤ x.2.2.2.2.2.2.2.2.2.2.2.2.2.2.2.1 ∧ x.2.2.2.2.2.2.2.2.2.2.2.2.2.2.2.1 ≤ 2) ∧ x.2.2.2.2.2.2.2.2.2.2.2.2.2.2.2.2.2.1 ≤ 361) ∧ ((0 ≤ x.2.2.2.2.2.2.2.2.2.2.2.2.2.2.2.2.2.2.2.2.2.1 ∧ x.2.2.2.2.2.2.2.2.2.2.2.2.2.2.2.2.2.2.2.2.2.1 ≤ 1) ∧ x.2.2.2.2.2.2.2.2.2.2.2.2.2.2.2.2.2.2.2.2.2.2.2.1 ≤ 361)) ∧ Sep w none_ [RdR ndK x.1 x.2.1 x.2.2.2.1 x.2.2.2.2.1, RdR maK x.2.2.2.2.2.1 x.2.2.2.2.2.2.1 x.2.2.2.2.2.2.2.2.1 x.2.2.2.2.2.2.2.2.2.1, RdR maK x.2.2.2.2.2.2.2.2.2.2.1 x.2.2.2.2.2.2.2.2.2.2.2.1 x.2.2.2.2.2.2.2.2.2.2.2.2.2.1 x.2.2.2.2.2.2.2.2.2.2.2.2.2.2.1, OwnR maK 28 2 x.2.2.2.2.2.2.2.2.2.2.2.2.2.2.2.2.1 x.2.2.2.2.2.2.2.2.2.2.2.2.2.2.2.2.2.1 x.2.2.2.2.2.2.2.2.2.2.2.2.2.2.2.2.2.2.1 x.2.2.2.2.2.2.2.2.2.2.2.2.2.2.2.2.2.2.2.1 x.2.2.2.2.2.2.2.2.2.2.2.2.2.2.2.2.2.2.2.2.1, OwnR maK 28 2 x.2.2.2.2.2.2.2.2.2.2.2.2.2.2.2.2.2.2.2.2.2.2.1 x.2.2.2.2.2.2.2.2.2.2.2.2.2.2.2.2.2.2.2.2.2.2.2.1 x.2.2.2.2.2.2.2.2.2.2.2.2.2.2.2.2.2.2.2.2.2.2.2.2.1 x.2.2.2.2.2.2.2.2.2.2.2.2.2.2.2.2.2.2.2.2.2.2.2.2.2.1 x.2.2.2.2.2.2.2.2.2.2.2.2.2.2.2.2.2.2.2.2.2.2.2.2.2.2] w') := by
 have kcode : Kn w none_ [] (CellsAt ca (bs.map (Value.int .u8))) := fun w' hs => rcode.ext hs.upd
 refine fn (M := none_) (rs := [.cell 2 43, .cell 3 56, .cell 4 56]) Try.func85 rfl Try.ntmps85 rfl rfl (Sep.start _ _) ?_
 refine hSeq ?_
 refine hReg (sl 0 (sl 1 (sl 2 sz))) (by kernel_rfl) ?_
 refine alc Try.zeroValue43 rfl trv1 rfl rfl (fun bka1 hbka1 => ?_)
 refine alc Try.zeroValue56 rfl trv1 rfl rfl (fun bka2 hbka2 => ?_)
 refine alc Try.zeroValue56 rfl trv1 rfl rfl (fun bka3 hbka3 => ?_)
 refine rNil ?_
 refine qSeq rfl ?_
 refine hSeq ?_
 refine hReg (sq 0 (sl 1 (sl 2 (sq 3 (sq 4 (sq 5 (sl 6 (sl 7 (sl 8 sz))))))))) (by kernel_rfl) ?_
 refine mvS rfl rfl rfl ?_
 refine callN (α := Nat) (val := fun x => .pointer (some ⟨x, 0, none⟩)) (good := fun _ => True) (φ := fun x => srcP x ca bs cc) Try.call92 trv1 rfl rfl (fun w hs => (l01From_c ca bs cc w (kcode w (hs.sub (List.nil_sublist _))) hok).mono fun e w1 ⟨v, h0, bk, h1, h2, h3, h4⟩ => ⟨v, h0, bk, h1, trivial, h3, h4⟩) ?_
 rintro bks4 -
 refine callMK (α := Option Addr × Nat × Nat × (Nat → Hd) × List Nd × Option Addr × Nat × Nat × (Nat → Hd) × List (List Int) × Option Addr × Nat × Nat × (Nat → Hd) × List (List Int) × Int × Option Addr × Nat × Nat × (Nat → Hd) × List (List Int) × Int × Option Addr × Nat × Nat × (Nat → Hd) × List (List Int)) (Lf := [srcP bks4 ca bs cc]) (Lr := [blk bka3 56 [.int .i64 0, .slice none 0 0], blk bka2 56 [.int .i64 0, .slice none 0 0], blk bka1 43 [.slice none 0 0, .slice none 0 0, .slice none 0 0]]) (good := fun x => (x.2.1 ≤ 250 ∧ ((1 ≤ x.2.2.2.2.2.2.1 ∧ x.2.2.2.2.2.2.1 ≤ 4) ∧ x.2.2.2.2.2.2.2.2.2.2.2.1 ≤ 4)) ∧ ((-1 ≤ x.2.2.2.2.2.2.2.2.2.2.2.2.2.2.2.1 ∧ x.2.2.2.2.2.2.2.2.2.2.2.2.2.2.2.1 ≤ 2) ∧ x.2.2.2.2.2.2.2.2.2.2.2.2.2.2.2.2.2.1 ≤ 361) ∧ ((0 ≤ x.2.2.2.2.2.2.2.2.2.2.2.2.2.2.2.2.2.2.2.2.2.1 ∧ x.2.2.2.2.2.2.2.2.2.2.2.2.2.2.2.2.2.2.2.2.2.1 ≤ 1) ∧ x.2.2.2.2.2.2.2.2.2.2.2.2.2.2.2.2.2.2.2.2.2.2.2.1 ≤ 361)) (φs := fun x => [srcP bks4 ca bs cc, RdR ndK x.1 x.2.1 x.2.2.2.1 x.2.2.2.2.1, RdR maK x.2.2.2.2.2.1 x.2.2.2.2.2.2.1 x.2.2.2.2.2.2.2.2.1 x.2.2.2.2.2.2.2.2.2.1, RdR maK x.2.2.2.2.2.2.2.2.2.2.1 x.2.2.2.2.2.2.2.2.2.2.2.1 x.2.2.2.2.2.2.2.2.2.2.2.2.2.1 x.2.2.2.2.2.2.2.2.2.2.2.2.2.2.1, OwnR maK 28 2 x.2.2.2.2.2.2.2.2.2.2.2.2.2.2.2.2.1 x.2.2.2.2.2.2.2.2.2.2.2.2.2.2.2.2.2.1 x.2.2.2.2.2.2.2.2.2.2.2.2.2.2.2.2.2.2.1 x.2.2.2.2.2.2.2.2.2.2.2.2.2.2.2.2.2.2.2.1 x.2.2.2.2.2.2.2.2.2.2.2.2.2.2.2.2.2.2.2.2.1, OwnR maK 28 2 x.2.2.2.2.2.2.2.2.2.2.2.2.2.2.2.2.2.2.2.2.2.2.1 x.2.2.2.2.2.2.2.2.2.2.2.2.2.2.2.2.2.2.2.2.2.2.2.1 x.2.2.2.2.2.2.2.2.2.2.2.2.2.2.2.2.2.2.2.2.2.2.2.2.1 x.2.2.2.2.2.2.2.2.2.2.2.2.2.2.2.2.2.2.2.2.2.2.2.2.2.1 x.2.2.2.2.2.2.2.2.2.2.2.2.2.2.2.2.2.2.2.2.2.2.2.2.2.2]) (val := fun x => .tuple #[.agg #[.slice x.1 x.2.1 x.2.2.1, .slice x.2.2.2.2.2.1 x.2.2.2.2.2.2.1 x.2.2.2.2.2.2.2.1, .slice x.2.2.2.2.2.2.2.2.2.2.1 x.2.2.2.2.2.2.2.2.2.2.2.1 x.2.2.2.2.2.2.2.2.2.2.2.2.1], .agg #[.int .i64 x.2.2.2.2.2.2.2.2.2.2.2.2.2.2.2.1, .slice x.2.2.2.2.2.2.2.2.2.2.2.2.2.2.2.2.1 x.2.2.2.2.2.2.2.2.2.2.2.2.2.2.2.2.2.1 x.2.2.2.2.2.2.2.2.2.2.2.2.2.2.2.2.2.2.1], .agg #[.int .i64 x.2.2.2.2.2.2.2.2.2.2.2.2.2.2.2.2.2.2.2.2.2.1, .slice x.2.2.2.2.2.2.2.2.2.2.2.2.2.2.2.2.2.2.2.2.2.2.1 x.2.2.2.2.2.2.2.2.2.2.2.2.2.2.2.2.2.2.2.2.2.2.2.1 x.2.2.2.2.2.2.2.2.2.2.2.2.2.2.2.2.2.2.2.2.2.2.2.2.1]]) rfl Try.call141 trv1 rfl rfl (fun w M1 hs hk => spec_l23Draw_c bks4 ca bs cc  w M1 hs (hk _ kcode) hok ) ?_
 rintro ⟨ay1, ny1, cy1, Hy1, y1, ayw1, nyw1, cyw1, Hyw1, yw1, ayv1, nyv1, cyv1, Hyv1, yv1, pl1, ayp1, nyp1, cyp1, Hyp1, yp1, ql1, ayq1, nyq1, cyq1, Hyq1, yq1⟩ hr1
 try dsimp only at hr1
 refine rPieces (L' := [srcP bks4 ca bs cc, RdR ndK ay1 ny1 Hy1 y1, RdR maK ayw1 nyw1 Hyw1 yw1, RdR maK ayv1 nyv1 Hyv1 yv1, OwnR maK 28 2 ayp1 nyp1 cyp1 Hyp1 yp1, OwnR maK 28 2 ayq1 nyq1 cyq1 Hyq1 yq1, blk bka3 56 [.int .i64 0, .slice none 0 0], blk bka2 56 [.int .i64 0, .slice none 0 0], blk bka1 43 [.slice none 0 0, .slice none 0 0, .slice none 0 0]]) (fun _ h => h) ?_
 refine rKnow (fun w hs => (show RdR ndK ay1 ny1 Hy1 y1 w from hs.at_ 1 rfl).1) (fun lenn5 => ?_)
 refine rKnow (fun w hs => (show RdR maK ayw1 nyw1 Hyw1 yw1 w from hs.at_ 2 rfl).1) (fun lenn6 => ?_)
 refine rKnow (fun w hs => (show RdR maK ayv1 nyv1 Hyv1 yv1 w from hs.at_ 3 rfl).1) (fun lenn7 => ?_)
 refine rKnow (fun w hs => (show OwnR maK 28 2 ayp1 nyp1 cyp1 Hyp1 yp1 w from hs.at_ 4 rfl).1) (fun lenn8 => ?_)
 refine rKnow (fun w hs => (show OwnR maK 28 2 ayq1 nyq1 cyq1 Hyq1 yq1 w from hs.at_ 5 rfl).1) (fun lenn9 => ?_)
 refine ext rfl rfl rfl rfl ?_
 refine ext rfl rfl rfl rfl ?_
 refine ext rfl rfl rfl rfl ?_
 refine stAl (vs := [.slice ay1 ny1 cy1, .slice ayw1 nyw1 cyw1, .slice ayv1 nyv1 cyv1]) 8 rfl Try.sizeOf43 trv rfl rfl rfl rfl rfl (by simp [Value.oneCell']) rfl ?_
 refine stAl (vs := [.int .i64 pl1, .slice ayp1 nyp1 cyp1]) 7 rfl Try.sizeOf56 trv rfl rfl rfl rfl rfl (by simp [Value.oneCell']) rfl ?_
 refine stAl (vs := [.int .i64 ql1, .slice ayq1 nyq1 cyq1]) 6 rfl Try.sizeOf56 trv rfl rfl rfl rfl rfl (by simp [Value.oneCell']) rfl ?_
 refine rNil ?_
 refine qSeq rfl ?_
 refine hRet ?_
 exact fun w hs => ⟨[_, _, _], ⟨⟨_, rfl, run_load_agg Try.isAgg43 Try.sizeOf43 rfl (cBs 8 rfl w hs)⟩, ⟨⟨_, rfl, run_load_agg Try.isAgg56 Try.sizeOf56 rfl (cBs 7 rfl w hs)⟩, ⟨⟨_, rfl, run_load_agg Try.isAgg56 Try.sizeOf56 rfl (cBs 6 rfl w hs)⟩, trivial⟩⟩⟩, ⟨(ay1, ny1, cy1, Hy1, y1, ayw1, nyw1, cyw1, Hyw1, yw1, ayv1, nyv1, cyv1, Hyv1, yv1, pl1, ayp1, nyp1, cyp1, Hyp1, yp1, ql1, ayq1, nyq1, cyq1, Hyq1, yq1), rfl, ⟨by dsimp only; omega, ⟨⟨by dsimp only; omega, by dsimp only; omega⟩, by dsimp only; omega⟩, ⟨⟨by dsimp only; omega, by dsimp only; omega⟩, by dsimp only; omega⟩, ⟨⟨by dsimp only; omega, by dsimp only; omega⟩, by dsimp only; omega⟩⟩, hs.pick [1, 1, 1, 1, 1]⟩⟩
set_option maxHeartbeats 4000000 in
theorem spec_DrawDealNumber_c (ca : Option Addr) (bs : List Int) (cc : Nat) (w : World) (rcode : CellsAt ca (bs.map (Value.int .u8)) w) (hok : okBytes bs) :
  Calls Try.prog 88 #[.slice ca bs.length cc] w (Ret fun v w' => ∃ x : Option Addr × Nat × Nat × (Nat → Hd) × List Nd × Option Addr × Nat × Nat × (Nat → Hd) × List (List Int) × Option Addr × Nat × Nat × (Nat → Hd) × List (List Int) × Int × Option Addr × Nat × Nat × (Nat → Hd) × List (List Int) × Int × Option Addr × Nat × Nat × (Nat → Hd) × List (List Int) × Int × Int, v = .tuple #[.agg #[.slice x.1 x.2.1 x.2.2.1, .slice x.2.2.2.2.2.1 x.2.2.2.2.2.2.1 x.2.2.2.2.2.2.2.1, .slice x.2.2.2.2.2.2.2.2.2.2.1 x.2.2.2.2.2.2.2.2.2.2.2.1 x.2.2.2.2.2.2.2.2.2.2.2.2.1], .agg #[.int .i64 x.2.2.2.2.2.2.2.2.2.2.2.2.2.2.2.1, .slice x.2.2.2.2.2.2.2.2.2.2.2.2.2.2.2.2.1 x.2.2.2.2.2.2.2.2.2.2.2.2.2.2.2.2.2.1 x.2.2.2.2.2.2.2.2.2.2.2.2.2.2.2.2.2.2.1], .agg #[.int .i64 x.2.2.2.2.2.2.2.2.2.2.2.2.2.2.2.2.2.2.2.2.2.1, .slice x.2.2.2.2.2.2.2.2.2.2.2.2.2.2.2.2.2.2.2.2.2.2.1 x.2.2.2.2.2.2.2.2.2.2.2.2.2.2.2.2.2.2.2.2.2.2.2.1 x.2.2.2.2.2.2.2.2.2.2.2.2.2.2.2.2.2.2.2.2.2.2.2.2.1], .int .i64 x.2.2.2.2.2.2.2.2.2.2.2.2.2.2.2.2.2.2.2.2.2.2.2.2.2.2.2.1, .int .i64 x.2.2.2.2.2.2.2.2.2.2.2.2.2.2.2.2.2.2.2.2.2.2.2.2.2.2.2.2] ∧ (x.2.1 ≤ 250 ∧ ((1 ≤ x.2.2.2.2.2.2.1 ∧ x.2.2.2.2.2.2.1 ≤ 4) ∧ x.2.2.2.2.2.2.2.2.2.2.2.1 ≤ 4) ∧ ((-1 ≤ x.2.2.2.2.2.2.2.2.2.2.2.2.2.2.2.1 ∧ x.2.2.2.2.2.2.2.2.2.2.2.2.2.2.2.1 ≤ 2) ∧ x.2.2.2.2.2.2.2.2.2.2.2.2.2.2.2.2.2.1 ≤ 361) ∧ ((0 ≤ x.2.2.2.2.2.2.2.2.2.2.2.2.2.2.2.2.2.2.2.2.2.1 ∧ x.2.2.2.2.2.2.2.2.2.2.2.2.2.2.2.2.2.2.2.2.2.1 ≤ 1) ∧ x.2.2.2.2.2.2.2.2.2.2.2.2.2.2.2.2.2.2.2.2.2.2.2.1 ≤ 361) ∧ ((-1 ≤ x.2.2.2.2.2.2.2.2.2.2.2.2.2.2.2.2.2.2.2.2.2.2.2.2.2.2.2.1 ∧ x.2.2.2.2.2.2.2.2.2.2.2.2.2.2.2.2.2.2.2.2.2.2.2.2.2.2.2.1 ≤ 9) ∧ (-1 ≤ x.2.2.2.2.2.2.2.2.2.2.2.2.2.2.2.2.2.2.2.2.2.2.2.2.2.2.2.2 ∧ x.2.2.2.2.2.2.2.2.2.2.2.2.2.2.2.2.2.2.2.2.2.2.2.2.2.2.2.2 ≤ 9))) ∧ Sep w none_ [RdR ndK x.1 x.2.1 x.2.2.2.1 x.2.2.2.2.1, RdR maK x.2.2.2.2.2.1 x.2.2.2.2.2.2.1 x.2.2.2.2.2.2.2.2.1 x.2.2.2.2.2.2.2.2.2.1, RdR maK x.2.2.2.2.2.2.2.2.2.2.1 x.2.2.2.2.2.2.2.2.2.2.2.1 x.2.2.2.2.2.2.2.2.2.2.2.2.2.1 x.2.2.2.2.2.2.2.2.2.2.2.2.2.2.1, OwnR maK 28 2 x.2.2.2.2.2.2.2.2.2.2.2.2.2.2.2.2.1 x.2.2.2.2.2.2.2.2.2.2.2.2.2.2.2.2.2.1 x.2.2.2.2.2.2.2.2.2.2.2.2.2.2.2.2.2.2.1 x.2.2.2.2.2.2.2.2.2.2.2.2.2.2.2.2.2.2.2.1 x.2.2.2.2.2.2.2.2.2.2.2.2.2.2.2.2.2.2.2.2.1, OwnR maK 28 2 x.2.2.2.2.2.2.2.2.2.2.2.2.2.2.2.2.2.2.2.2.2.2.1 x.2.2.2.2.2.2.2.2.2.2.2.2.2.2.2.2.2.2.2.2.2.2.2.1 x.2.2.2.2.2.2.2.2.2.2.2.2.2.2.2.2.2.2.2.2.2.2.2.2.1 x.2.2.2.2.2.2.2.2.2.2.2.2.2.2.2.2.2.2.2.2.2.2.2.2.2.1 x.2.2.2.2.2.2.2.2.2.2.2.2.2.2.2.2.2.2.2.2.2.2.2.2.2.2.1] w') := by
 have kcode : Kn w none_ [] (CellsAt ca (bs.map (Value.int .u8))) := fun w' hs => rcode.ext hs.upd
 refine fn (M := none_) (rs := [.cell 2 43, .cell 3 56, .cell 4 56, .tmp 5, .tmp 6]) Try.func88 rfl Try.ntmps88 rfl rfl (Sep.start _ _) ?_
 refine hSeq ?_
 refine hReg (sl 0 (sl 1 (sl 2 (sq 3 (sq 4 sz))))) (by kernel_rfl) ?_
 refine alc Try.zeroValue43 rfl trv1 rfl rfl (fun bka1 hbka1 => ?_)
 refine alc Try.zeroValue56 rfl trv1 rfl rfl (fun bka2 hbka2 => ?_)
 refine alc Try.zeroValue56 rfl trv1 rfl rfl (fun bka3 hbka3 => ?_)
 refine asI rfl rfl rfl ?_
 refine asI rfl rfl rfl ?_
 refine rNil ?_
 refine qSeq rfl ?_
 refine hSeq ?_
 refine hReg (sq 0 (sl 1 (sq 2 sz))) (by kernel_rfl) ?_
 refine mvS rfl rfl rfl ?_
 refine callN (α := Nat) (val := fun x => .pointer (some ⟨x, 0, none⟩)) (good := fun _ => True) (φ := fun x => srcP x ca bs cc) Try.call92 trv1 rfl rfl (fun w hs => (l01From_c ca bs cc w (kcode w (hs.sub (List.nil_sublist _))) hok).mono fun e w1 ⟨v, h0, bk, h1, h2, h3, h4⟩ => ⟨v, h0, bk, h1, trivial, h3, h4⟩) ?_
 rintro bks4 -
 refine asn rfl rfl rfl ?_
 refine rNil ?_
 refine qSeq rfl ?_
 refine hSeq ?_
 refine hReg (sq 0 (sl 1 (sq 2 (sq 3 (sq 4 (sq 5 (sl 6 (sl 7 (sl 8 (sl 9 (sl 10 (sl 11 sz)))))))))))) (by kernel_rfl) ?_
 refine mvP rfl rfl rfl ?_
 refine callMK (α := Option Addr × Nat × Nat × (Nat → Hd) × List Nd × Option Addr × Nat × Nat × (Nat → Hd) × List (List Int) × Option Addr × Nat × Nat × (Nat → Hd) × List (List Int) × Int × Option Addr × Nat × Nat × (Nat → Hd) × List (List Int) × Int × Option Addr × Nat × Nat × (Nat → Hd) × List (List Int)) (Lf := [srcP bks4 ca bs cc]) (Lr := [blk bka3 56 [.int .i64 0, .slice none 0 0], blk bka2 56 [.int .i64 0, .slice none 0 0], blk bka1 43 [.slice none 0 0, .slice none 0 0, .slice none 0 0]]) (good := fun x => (x.2.1 ≤ 250 ∧ ((1 ≤ x.2.2.2.2.2.2.1 ∧ x.2.2.2.2.2.2.1 ≤ 4) ∧ x.2.2.2.2.2.2.2.2.2.2.2.1 ≤ 4)) ∧ ((-1 ≤ x.2.2.2.2.2.2.2.2.2.2.2.2.2.2.2.1 ∧ x.2.2.2.2.2.2.2.2.2.2.2.2.2.2.2.1 ≤ 2) ∧ x.2.2.2.2.2.2.2.2.2.2.2.2.2.2.2.2.2.1 ≤ 361) ∧ ((0 ≤ x.2.2.2.2.2.2.2.2.2.2.2.2.2.2.2.2.2.2.2.2.2.1 ∧ x.2.2.2.2.2.2.2.2.2.2.2.2.2.2.2.2.2.2.2.2.2.1 ≤ 1) ∧ x.2.2.2.2.2.2.2.2.2.2.2.2.2.2.2.2.2.2.2.2.2.2.2.1 ≤ 361)) (φs := fun x => [srcP bks4 ca bs cc, RdR ndK x.1 x.2.1 x.2.2.2.1 x.2.2.2.2.1, RdR maK x.2.2.2.2.2.1 x.2.2.2.2.2.2.1 x.2.2.2.2.2.2.2.2.1 x.2.2.2.2.2.2.2.2.2.1, RdR maK x.2.2.2.2.2.2.2.2.2.2.1 x.2.2.2.2.2.2.2.2.2.2.2.1 x.2.2.2.2.2.2.2.2.2.2.2.2.2.1 x.2.2.2.2.2.2.2.2.2.2.2.2.2.2.1, OwnR maK 28 2 x.2.2.2.2.2.2.2.2.2.2.2.2.2.2.2.2.1 x.2.2.2.2.2.2.2.2.2.2.2.2.2.2.2.2.2.1 x.2.2.2.2.2.2.2.2.2.2.2.2.2.2.2.2.2.2.1 x.2.2.2.2.2.2.2.2.2.2.2.2.2.2.2.2.2.2.2.1 x.2.2.2.2.2.2.2.2.2.2.2.2.2.2.2.2.2.2.2.2.1, OwnR maK 28 2 x.2.2.2.2.2.2.2.2.2.2.2.2.2.2.2.2.2.2.2.2.2.2.1 x.2.2.2.2.2.2.2.2.2.2.2.2.2.2.2.2.2.2.2.2.2.2.2.1 x.2.2.2.2.2.2.2.2.2.2.2.2.2.2.2.2.2.2.2.2.2.2.2.2.1 x.2.2.2.2.2.2.2.2.2.2.2.2.2.2.2.2.2.2.2.2.2.2.2.2.2.1 x.2.2.2.2.2.2.2.2.2.2.2.2.2.2.2.2.2.2.2.2.2.2.2.2.2.2]) (val := fun x => .tuple #[.agg #[.slice x.1 x.2.1 x.2.2.1, .slice x.2.2.2.2.2.1 x.2.2.2.2.2.2.1 x.2.2.2.2.2.2.2.1, .slice x.2.2.2.2.2.2.2.2.2.2.1 x.2.2.2.2.2.2.2.2.2.2.2.1 x.2.2.2.2.2.2.2.2.2.2.2.2.1], .agg #[.int .i64 x.2.2.2.2.2.2.2.2.2.2.2.2.2.2.2.1, .slice x.2.2.2.2.2.2.2.2.2.2.2.2.2.2.2.2.1 x.2.2.2.2.2.2.2.2.2.2.2.2.2.2.2.2.2.1 x.2.2.2.2.2.2.2.2.2.2.2.2.2.2.2.2.2.2.1], .agg #[.int .i64 x.2.2.2.2.2.2.2.2.2.2.2.2.2.2.2.2.2.2.2.2.2.1, .slice x.2.2.2.2.2.2.2.2.2.2.2.2.2.2.2.2.2.2.2.2.2.2.1 x.2.2.2.2.2.2.2.2.2.2.2.2.2.2.2.2.2.2.2.2.2.2.2.1 x.2.2.2.2.2.2.2.2.2.2.2.2.2.2.2.2.2.2.2.2.2.2.2.2.1]]) rfl Try.call141 trv1 rfl rfl (fun w M1 hs hk => spec_l23Draw_c bks4 ca bs cc  w M1 hs (hk _ kcode) hok ) ?_
 rintro ⟨ay1, ny1, cy1, Hy1, y1, ayw1, nyw1, cyw1, Hyw1, yw1, ayv1, nyv1, cyv1, Hyv1, yv1, pl1, ayp1, nyp1, cyp1, Hyp1, yp1, ql1, ayq1, nyq1, cyq1, Hyq1, yq1⟩ hr1
 try dsimp only at hr1
 refine rPieces (L' := [srcP bks4 ca bs cc, RdR ndK ay1 ny1 Hy1 y1, RdR maK ayw1 nyw1 Hyw1 yw1, RdR maK ayv1 nyv1 Hyv1 yv1, OwnR maK 28 2 ayp1 nyp1 cyp1 Hyp1 yp1, OwnR maK 28 2 ayq1 nyq1 cyq1 Hyq1 yq1, blk bka3 56 [.int .i64 0, .slice none 0 0], blk bka2 56 [.int .i64 0, .slice none 0 0], blk bka1 43 [.slice none 0 0, .slice none 0 0, .slice none 0 0]]) (fun _ h => h) ?_
 refine rKnow (fun w hs => (show RdR ndK ay1 ny1 Hy1 y1 w from hs.at_ 1 rfl).1) (fun lenn5 => ?_)
 refine rKnow (fun w hs => (show RdR maK ayw1 nyw1 Hyw1 yw1 w from hs.at_ 2 rfl).1) (fun lenn6 => ?_)
 refine rKnow (fun w hs => (show RdR maK ayv1 nyv1 Hyv1 yv1 w from hs.at_ 3 rfl).1) (fun lenn7 => ?_)
 refine rKnow (fun w hs => (show OwnR maK 28 2 ayp1 nyp1 cyp1 Hyp1 yp1 w from hs.at_ 4 rfl).1) (fun lenn8 => ?_)
 refine rKnow (fun w hs => (show OwnR maK 28 2 ayq1 nyq1 cyq1 Hyq1 yq1 w from hs.at_ 5 rfl).1) (fun lenn9 => ?_)
 refine mv rfl rfl rfl ?_
 refine ext rfl rfl rfl rfl ?_
 refine ext rfl rfl rfl rfl ?_
 refine ext rfl rfl rfl rfl ?_
 refine alc Try.zeroValue43 rfl trv1 rfl rfl (fun bka10 hbka10 => ?_)
 refine alc Try.zeroValue56 rfl trv1 rfl rfl (fun bka11 hbka11 => ?_)
 refine alc Try.zeroValue56 rfl trv1 rfl rfl (fun bka12 hbka12 => ?_)
 refine stAl (vs := [.slice ay1 ny1 cy1, .slice ayw1 nyw1 cyw1, .slice ayv1 nyv1 cyv1]) 2 rfl Try.sizeOf43 trv rfl rfl rfl rfl rfl (by simp [Value.oneCell']) rfl ?_
 refine stAl (vs := [.int .i64 pl1, .slice ayp1 nyp1 cyp1]) 1 rfl Try.sizeOf56 trv rfl rfl rfl rfl rfl (by simp [Value.oneCell']) rfl ?_
 refine stAl (vs := [.int .i64 ql1, .slice ayq1 nyq1 cyq1]) 0 rfl Try.sizeOf56 trv rfl rfl rfl rfl rfl (by simp [Value.oneCell']) rfl ?_
 refine rNil ?_
 refine qSeq rfl ?_
 refine hSeq ?_
 refine hReg (sq 0 (sl 1 (sq 2 (sq 3 sz)))) (by kernel_rfl) ?_
 refine fld fl43_1 rfl rfl rfl ?_
 refine ldl Try.isAgg41 (cB 2 rfl rfl) trv rfl rfl rfl ?_
 refine lenS Try.runUnderlying41 rfl rfl rfl ?_
 refine asI rfl rfl rfl ?_
 refine rNil ?_
 refine qSeq rfl ?_
 refine hSeq ?_
 refine hReg (sq 0 (sq 1 (sl 2 (sq 3 (sl 4 (sq 5 (sq 6 (sq 7 (sq 8 (sq 9 sz)))))))))) (by kernel_rfl) ?_
 refine mvP rfl rfl rfl ?_
 refine mvI rfl rfl rfl ?_
 refine rPieces (L' := [srcP bks4 ca bs cc, blk bka12 56 [.int .i64 ql1, .slice ayq1 nyq1 cyq1], blk bka11 56 [.int .i64 pl1, .slice ayp1 nyp1 cyp1], blk bka10 43 [.slice ay1 ny1 cy1, .slice ayw1 nyw1 cyw1, .slice ayv1 nyv1 cyv1], RdR ndK ay1 ny1 Hy1 y1, RdR maK ayw1 nyw1 Hyw1 yw1, RdR maK ayv1 nyv1 Hyv1 yv1, OwnR maK 28 2 ayp1 nyp1 cyp1 Hyp1 yp1, OwnR maK 28 2 ayq1 nyq1 cyq1 Hyq1 yq1, blk bka3 56 [.int .i64 0, .slice none 0 0], blk bka2 56 [.int .i64 0, .slice none 0 0], blk bka1 43 [.slice none 0 0, .slice none 0 0, .slice none 0 0]]) (fun _ h => h.perm (pull (i := 3) rfl)) ?_
 refine callMK (α := Int) (Lf := [srcP bks4 ca bs cc]) (Lr := [blk bka12 56 [.int .i64 ql1, .slice ayq1 nyq1 cyq1], blk bka11 56 [.int .i64 pl1, .slice ayp1 nyp1 cyp1], blk bka10 43 [.slice ay1 ny1 cy1, .slice ayw1 nyw1 cyw1, .slice ayv1 nyv1 cyv1], RdR ndK ay1 ny1 Hy1 y1, RdR maK ayw1 nyw1 Hyw1 yw1, RdR maK ayv1 nyv1 Hyv1 yv1, OwnR maK 28 2 ayp1 nyp1 cyp1 Hyp1 yp1, OwnR maK 28 2 ayq1 nyq1 cyq1 Hyq1 yq1, blk bka3 56 [.int .i64 0, .slice none 0 0], blk bka2 56 [.int .i64 0, .slice none 0 0], blk bka1 43 [.slice none 0 0, .slice none 0 0, .slice none 0 0]]) (good := fun x => 0 ≤ x ∧ (x < (nyw1 : Int) ∨ x = 0)) (φs := fun x => [srcP bks4 ca bs cc]) (val := fun x => .int .i64 x) rfl Try.call95 trv1 rfl rfl (fun w M1 hs hk => src_next bks4 ca bs cc (nyw1 : Int) w M1 hs (hk _ kcode) hok) ?_
 intro x2 hx2
 try dsimp only at hx2
 refine rPieces (L' := [srcP bks4 ca bs cc, blk bka12 56 [.int .i64 ql1, .slice ayq1 nyq1 cyq1], blk bka11 56 [.int .i64 pl1, .slice ayp1 nyp1 cyp1], blk bka10 43 [.slice ay1 ny1 cy1, .slice ayw1 nyw1 cyw1, .slice ayv1 nyv1 cyv1], RdR ndK ay1 ny1 Hy1 y1, RdR maK ayw1 nyw1 Hyw1 yw1, RdR maK ayv1 nyv1 Hyv1 yv1, OwnR maK 28 2 ayp1 nyp1 cyp1 Hyp1 yp1, OwnR maK 28 2 ayq1 nyq1 cyq1 Hyq1 yq1, blk bka3 56 [.int .i64 0, .slice none 0 0], blk bka2 56 [.int .i64 0, .slice none 0 0], blk bka1 43 [.slice none 0 0, .slice none 0 0, .slice none 0 0]]) (fun _ h => h) ?_
 refine mvP rfl rfl rfl ?_
 refine callMK (α := Int) (Lf := [srcP bks4 ca bs cc]) (Lr := [blk bka12 56 [.int .i64 ql1, .slice ayq1 nyq1 cyq1], blk bka11 56 [.int .i64 pl1, .slice ayp1 nyp1 cyp1], blk bka10 43 [.slice ay1 ny1 cy1, .slice ayw1 nyw1 cyw1, .slice ayv1 nyv1 cyv1], RdR ndK ay1 ny1 Hy1 y1, RdR maK ayw1 nyw1 Hyw1 yw1, RdR maK ayv1 nyv1 Hyv1 yv1, OwnR maK 28 2 ayp1 nyp1 cyp1 Hyp1 yp1, OwnR maK 28 2 ayq1 nyq1 cyq1 Hyq1 yq1, blk bka3 56 [.int .i64 0, .slice none 0 0], blk bka2 56 [.int .i64 0, .slice none 0 0], blk bka1 43 [.slice none 0 0, .slice none 0 0, .slice none 0 0]]) (good := fun x => 0 ≤ x ∧ (x < (20 : Int) ∨ x = 0)) (φs := fun x => [srcP bks4 ca bs cc]) (val := fun x => .int .i64 x) rfl Try.call95 trv1 rfl rfl (fun w M1 hs hk => src_next bks4 ca bs cc (20 : Int) w M1 hs (hk _ kcode) hok) ?_
 intro x3 hx3
 replace hx3 : 0 ≤ x3 ∧ x3 < (20 : Int) := by omega
 try dsimp only at hx3
 refine rPieces (L' := [srcP bks4 ca bs cc, blk bka12 56 [.int .i64 ql1, .slice ayq1 nyq1 cyq1], blk bka11 56 [.int .i64 pl1, .slice ayp1 nyp1 cyp1], blk bka10 43 [.slice ay1 ny1 cy1, .slice ayw1 nyw1 cyw1, .slice ayv1 nyv1 cyv1], RdR ndK ay1 ny1 Hy1 y1, RdR maK ayw1 nyw1 Hyw1 yw1, RdR maK ayv1 nyv1 Hyv1 yv1, OwnR maK 28 2 ayp1 nyp1 cyp1 Hyp1 yp1, OwnR maK 28 2 ayq1 nyq1 cyq1 Hyq1 yq1, blk bka3 56 [.int .i64 0, .slice none 0 0], blk bka2 56 [.int .i64 0, .slice none 0 0], blk bka1 43 [.slice none 0 0, .slice none 0 0, .slice none 0 0]]) (fun _ h => h) ?_
 refine quo rfl rfl rfl rfl (by omega) ?_
 refine mvI rfl rfl rfl ?_
 have hmq := Math.mul_bd (a := (x3 / 19)) (A := 1) (b := (nyw1 : Int)) (B := 4) (by omega) (by omega) (by omega) (by omega)
 refine mul rfl rfl rfl rfl (by omega) ?_
 refine add rfl rfl rfl rfl (by omega) ?_
 refine asI rfl rfl rfl ?_
 refine rNil ?_
 refine qSeq rfl ?_
 refine hSeq ?_
 refine hDraw (Ls := [blk bka12 56 [.int .i64 ql1, .slice ayq1 nyq1 cyq1], blk bka11 56 [.int .i64 pl1, .slice ayp1 nyp1 cyp1], blk bka10 43 [.slice ay1 ny1 cy1, .slice ayw1 nyw1 cyw1, .slice ayv1 nyv1 cyv1]]) (by kernel_rfl) (sq 0 (sq 1 (sq 2 (sq 3 (sq 4 (sq 5 (sq 7 (sl 6 (sl 8 (sq 9 (sq 10 (sl 11 (sl 12 (sl 13 (sq 14 (sq 15 sz)))))))))))))))) (by kernel_rfl) (.cons _ (.cons_cons _ (.cons_cons _ (.cons_cons _ (.cons _ (.cons _ (.cons _ (.cons _ (.cons _ (.cons _ (.cons _ (.cons _ .slnil)))))))))))) ?_
 refine ldAq Try.isAgg43 Try.sizeOf43 (cBs 2 rfl) rfl rfl rfl rfl ?_
 refine ldAq Try.isAgg56 Try.sizeOf56 (cBs 1 rfl) rfl rfl rfl rfl ?_
 refine ldAq Try.isAgg56 Try.sizeOf56 (cBs 0 rfl) rfl rfl rfl rfl ?_
 refine mvI rfl rfl rfl ?_
 refine mvP rfl rfl rfl ?_
 refine mvI rfl rfl rfl ?_
 refine mvP rfl rfl rfl ?_
 refine callMK (α := Int) (Lf := [srcP bks4 ca bs cc]) (Lr := [blk bka12 56 [.int .i64 ql1, .slice ayq1 nyq1 cyq1], blk bka11 56 [.int .i64 pl1, .slice ayp1 nyp1 cyp1], blk bka10 43 [.slice ay1 ny1 cy1, .slice ayw1 nyw1 cyw1, .slice ayv1 nyv1 cyv1], RdR ndK ay1 ny1 Hy1 y1, RdR maK ayw1 nyw1 Hyw1 yw1, RdR maK ayv1 nyv1 Hyv1 yv1, OwnR maK 28 2 ayp1 nyp1 cyp1 Hyp1 yp1, OwnR maK 28 2 ayq1 nyq1 cyq1 Hyq1 yq1, blk bka3 56 [.int .i64 0, .slice none 0 0], blk bka2 56 [.int .i64 0, .slice none 0 0], blk bka1 43 [.slice none 0 0, .slice none 0 0, .slice none 0 0]]) (good := fun x => 0 ≤ x ∧ (x < (nyw1 : Int) ∨ x = 0)) (φs := fun x => [srcP bks4 ca bs cc]) (val := fun x => .int .i64 x) rfl Try.call95 (by exact (fun _ _ h => h.pick [1, 1, 1])) rfl rfl (fun w M1 hs hk => src_next bks4 ca bs cc (nyw1 : Int) w M1 hs (hk _ kcode) hok) ?_
 intro x4 hx4
 try dsimp only at hx4
 refine rPieces (L' := [srcP bks4 ca bs cc, blk bka12 56 [.int .i64 ql1, .slice ayq1 nyq1 cyq1], blk bka11 56 [.int .i64 pl1, .slice ayp1 nyp1 cyp1], blk bka10 43 [.slice ay1 ny1 cy1, .slice ayw1 nyw1 cyw1, .slice ayv1 nyv1 cyv1], RdR ndK ay1 ny1 Hy1 y1, RdR maK ayw1 nyw1 Hyw1 yw1, RdR maK ayv1 nyv1 Hyv1 yv1, OwnR maK 28 2 ayp1 nyp1 cyp1 Hyp1 yp1, OwnR maK 28 2 ayq1 nyq1 cyq1 Hyq1 yq1, blk bka3 56 [.int .i64 0, .slice none 0 0], blk bka2 56 [.int .i64 0, .slice none 0 0], blk bka1 43 [.slice none 0 0, .slice none 0 0, .slice none 0 0]]) (fun _ h => h) ?_
 refine callMK (α := Int) (Lf := [srcP bks4 ca bs cc]) (Lr := [blk bka12 56 [.int .i64 ql1, .slice ayq1 nyq1 cyq1], blk bka11 56 [.int .i64 pl1, .slice ayp1 nyp1 cyp1], blk bka10 43 [.slice ay1 ny1 cy1, .slice ayw1 nyw1 cyw1, .slice ayv1 nyv1 cyv1], RdR ndK ay1 ny1 Hy1 y1, RdR maK ayw1 nyw1 Hyw1 yw1, RdR maK ayv1 nyv1 Hyv1 yv1, OwnR maK 28 2 ayp1 nyp1 cyp1 Hyp1 yp1, OwnR maK 28 2 ayq1 nyq1 cyq1 Hyq1 yq1, blk bka3 56 [.int .i64 0, .slice none 0 0], blk bka2 56 [.int .i64 0, .slice none 0 0], blk bka1 43 [.slice none 0 0, .slice none 0 0, .slice none 0 0]]) (good := fun x => 0 ≤ x ∧ (x < (20 : Int) ∨ x = 0)) (φs := fun x => [srcP bks4 ca bs cc]) (val := fun x => .int .i64 x) rfl Try.call95 (by exact (fun _ _ h => h.pick [1, 1, 1])) rfl rfl (fun w M1 hs hk => src_next bks4 ca bs cc (20 : Int) w M1 hs (hk _ kcode) hok) ?_
 intro x5 hx5
 replace hx5 : 0 ≤ x5 ∧ x5 < (20 : Int) := by omega
 try dsimp only at hx5
 refine rPieces (L' := [srcP bks4 ca bs cc, blk bka12 56 [.int .i64 ql1, .slice ayq1 nyq1 cyq1], blk bka11 56 [.int .i64 pl1, .slice ayp1 nyp1 cyp1], blk bka10 43 [.slice ay1 ny1 cy1, .slice ayw1 nyw1 cyw1, .slice ayv1 nyv1 cyv1], RdR ndK ay1 ny1 Hy1 y1, RdR maK ayw1 nyw1 Hyw1 yw1, RdR maK ayv1 nyv1 Hyv1 yv1, OwnR maK 28 2 ayp1 nyp1 cyp1 Hyp1 yp1, OwnR maK 28 2 ayq1 nyq1 cyq1 Hyq1 yq1, blk bka3 56 [.int .i64 0, .slice none 0 0], blk bka2 56 [.int .i64 0, .slice none 0 0], blk bka1 43 [.slice none 0 0, .slice none 0 0, .slice none 0 0]]) (fun _ h => h) ?_
 refine quo rfl rfl rfl rfl (by omega) ?_
 refine sub rfl rfl rfl rfl (by omega) ?_
 refine stAl (vs := [.slice ay1 ny1 cy1, .slice ayw1 nyw1 cyw1, .slice ayv1 nyv1 cyv1]) 11 rfl Try.sizeOf43 (fun _ h => h.pick [1, 1, 1]) rfl rfl rfl rfl rfl (by simp [Value.oneCell']) rfl ?_
 refine stAl (vs := [.int .i64 pl1, .slice ayp1 nyp1 cyp1]) 10 rfl Try.sizeOf56 (fun _ h => h.pick [1, 1, 1]) rfl rfl rfl rfl rfl (by simp [Value.oneCell']) rfl ?_
 refine stAl (vs := [.int .i64 ql1, .slice ayq1 nyq1 cyq1]) 9 rfl Try.sizeOf56 (fun _ h => h.pick [1, 1, 1]) rfl rfl rfl rfl rfl (by simp [Value.oneCell']) rfl ?_
 refine asI rfl rfl rfl ?_
 refine asI rfl rfl rfl ?_
 refine rNil ?_
 refine qSeq rfl ?_
 refine hRet ?_
 exact fun w hs => ⟨[_, _, _, .int .i64 ((x2 + ((x3 / 19) * (nyw1 : Int)))), .int .i64 ((x4 - (x5 / 19)))], ⟨⟨_, rfl, run_load_agg Try.isAgg43 Try.sizeOf43 rfl (cBs 11 rfl w hs)⟩, ⟨⟨_, rfl, run_load_agg Try.isAgg56 Try.sizeOf56 rfl (cBs 10 rfl w hs)⟩, ⟨⟨_, rfl, run_load_agg Try.isAgg56 Try.sizeOf56 rfl (cBs 9 rfl w hs)⟩, ⟨rfl, ⟨rfl, trivial⟩⟩⟩⟩⟩, ⟨(ay1, ny1, cy1, Hy1, y1, ayw1, nyw1, cyw1, Hyw1, yw1, ayv1, nyv1, cyv1, Hyv1, yv1, pl1, ayp1, nyp1, cyp1, Hyp1, yp1, ql1, ayq1, nyq1, cyq1, Hyq1, yq1, (x2 + ((x3 / 19) * (nyw1 : Int))), (x4 - (x5 / 19))), rfl, ⟨by dsimp only; omega, ⟨⟨by dsimp only; omega, by dsimp only; omega⟩, by dsimp only; omega⟩, ⟨⟨by dsimp only; omega, by dsimp only; omega⟩, by dsimp only; omega⟩, ⟨⟨by dsimp only; omega, by dsimp only; omega⟩, by dsimp only; omega⟩, ⟨by dsimp only; omega, by dsimp only; omega⟩, ⟨by dsimp only; omega, by dsimp only; omega⟩⟩, hs.pick [4, 4, 4, 4, 4]⟩⟩
end Go.Proofs.Ytjengglpbdgmnaa
/- Plain facts on ways in trees. No condition. -/
namespace Go.Proofs.Ytjengglpbdgmnaa.Math
open Go.Proofs.Ytjengglpbdgmnaa.V
set_option linter.unusedVariables false
set_option linter.unusedSimpArgs false
/-- The places that lead to a node. -/
inductive Way (z : List Nd) : Int → List Int → Prop
  | root : Way z 0 []
  | step {i : Nat} {n : Int} {l : List Int} : (i : Int) < n → i < z.length → n ∈ (z.getD i dN).ch → Way z (i : Int) l → Way z n (l ++ [indexOf (z.getD i dN).ch n])
noncomputable def wayOf (z : List Nd) (n : Int) : List Int := open Classical in if h : ∃ l, Way z n l then Classical.choose h else []
theorem kids_mem {z : List Nd} {i : Nat} {n : Int} (hi : i < z.length) (h : n ∈ (z.getD i dN).ch) : n ∈ kids z := by
  unfold kids; exact List.mem_flatMap.2 ⟨_, getD_mem dN hi, h⟩
theorem kids_app (a b : List Nd) : kids (a ++ b) = kids a ++ kids b := by unfold kids; exact List.flatMap_append
/-- Only one node leads to a node. -/
theorem one_parent {z : List Nd} (h1 : oneEach z = true) {n : Int} (hn : 1 ≤ n ∧ n < z.length) {i j : Nat} (hi : i < z.length) (hj : j < z.length) (h : n ∈ (z.getD i dN).ch) (h' : n ∈ (z.getD j dN).ch) : i = j := by
  have hc := oneEach_iff.1 h1 n.toNat (by omega) (by omega)
  rw [show ((n.toNat : Nat) : Int) = n from by omega] at hc
  have key : ∀ a b : Nat, a < b → b < z.length → n ∈ (z.getD a dN).ch → n ∈ (z.getD b dN).ch → False := by
    intro a b hab hb ha hb'
    have hs : kids z = kids (z.take b) ++ kids (z.drop b) := by rw [← kids_app, List.take_append_drop]
    have m1 : n ∈ kids (z.take b) := by
      refine kids_mem (i := a) (by rw [List.length_take]; omega) ?_
      have : (z.take b).getD a dN = z.getD a dN := by simp [List.getD, List.getElem?_take, hab]
      rw [this]; exact ha
    have m2 : n ∈ kids (z.drop b) := by
      refine kids_mem (i := 0) (by rw [List.length_drop]; omega) ?_
      have : (z.drop b).getD 0 dN = z.getD b dN := by simp [List.getD, List.getElem?_drop]
      rw [this]; exact hb'
    have c1 := List.count_pos_iff.2 m1
    have c2 := List.count_pos_iff.2 m2
    rw [hs, List.count_append] at hc
    omega
  rcases Nat.lt_trichotomy i j with hlt | he | hlt
  · exact (key i j hlt hj h h').elim
  · exact he
  · exact (key j i hlt hi h' h).elim
theorem Way.len {z : List Nd} {n : Int} {l : List Int} (h : Way z n l) : 0 ≤ n ∧ (l.length : Int) ≤ n := by
  induction h with
  | root => exact ⟨Int.le_refl _, Int.le_refl _⟩
  | step h1 h2 h3 h4 ih => rw [List.length_append, List.length_singleton]; omega
theorem Way.one {z : List Nd} (h1 : oneEach z = true) {n : Int} {l : List Int} (h : Way z n l) : n < z.length → ∀ l', Way z n l' → l = l' := by
  induction h with
  | root =>
    intro _ l' h'
    cases h' with
    | root => rfl
    | step ha hb hc hd => omega
  | @step i n l ha hb hc hd ih =>
    intro hn l' h'
    cases h' with
    | root => omega
    | @step j _ l2 ha' hb' hc' hd' =>
      have : i = j := one_parent h1 ⟨by omega, hn⟩ hb hb' hc hc'
      subst this
      rw [ih (by omega) l2 hd']
theorem indexOf_nmem {l : List Int} {v : Int} (h : ¬ 0 ≤ indexOf l v) : ¬ v ∈ l := by
  intro hm
  have hex : ∃ i : Nat, i < l.length ∧ l.getD i 0 = v := by
    obtain ⟨i, hi, he⟩ := List.getElem_of_mem hm
    exact ⟨i, hi, by simp [List.getD, List.getElem?_eq_getElem hi, he]⟩
  have : ∀ k : Nat, ∀ i, i = k → i < l.length → l.getD i 0 = v → 0 ≤ indexOf l v := by
    intro k
    induction k using Nat.strongRecOn with
    | _ k ih =>
      intro i hik hi hv
      subst hik
      by_cases hf : ∀ j, j < i → l.getD j 0 ≠ v
      · rw [indexOf_yes hi hv hf]; omega
      · obtain ⟨j, hf⟩ := Classical.not_forall.1 hf
        obtain ⟨hj, hjv⟩ := Classical.not_imp.1 hf
        replace hjv := Classical.not_not.1 hjv
        exact ih j hj j rfl (by omega) hjv
  obtain ⟨i, hi, hv⟩ := hex
  exact h (this i i rfl hi hv)
theorem indexOf_le {l : List Int} {v : Int} : -1 ≤ indexOf l v ∧ indexOf l v < l.length := by
  by_cases h : 0 ≤ indexOf l v
  · unfold indexOf at h ⊢
    split
    · rename_i hx; have := (Classical.choose_spec hx).1; omega
    · omega
  · have : indexOf l v = -1 := by
      refine indexOf_no fun j hj e => indexOf_nmem h (by rw [← e]; exact getD_mem 0 hj)
    omega
noncomputable def wayAt (z : List Nd) (n : Int) : List Int × Int := if isTree z = true then if 0 ≤ n ∧ n ≤ (z.length : Int) - 1 then (wayOf z n, 0) else ([], 2) else ([], 1)
/-- A list turned around up to a place. -/
def RevTo (z c : List Int) (i : Nat) : Prop := c.length = z.length ∧ ∀ k, k < z.length → c.getD k 0 = if k < i ∨ z.length ≤ k + i then z.getD (z.length - 1 - k) 0 else z.getD k 0
theorem getD_set {l : List Int} {i k : Nat} {v : Int} (h : k < l.length) : (l.set i v).getD k 0 = if i = k then v else l.getD k 0 := by
  simp only [List.getD, List.getElem?_set]
  split
  · rename_i he; subst he; simp [h]
  · rfl
end Go.Proofs.Ytjengglpbdgmnaa.Math
/- Plain facts on values of games. No condition. -/
namespace Go.Proofs.Ytjengglpbdgmnaa.Math
open Go.Proofs.Ytjengglpbdgmnaa.V
set_option linter.unusedVariables false
set_option linter.unusedSimpArgs false
theorem mapR_suc (f : Nat → Int) (k : Nat) : (mapR f (k + 1)).sum = (mapR f k).sum + f k := by
  rw [← mapR_snoc, List.sum_append]; simp
/-- How many nodes of a player stand ahead of a node. -/
def rank (z : List Nd) (p : Int) (i : Nat) : Nat := (nodesTo z p i).length
theorem nodesTo_app (z : List Nd) (p : Int) (k : Nat) : ∀ d, ∃ r, nodesTo z p (k + d) = nodesTo z p k ++ r
  | 0 => ⟨[], by simp⟩
  | d + 1 => by
    obtain ⟨r, hr⟩ := nodesTo_app z p k d
    by_cases h : (z.getD (k + d) dN).pl = p
    · exact ⟨r ++ [((k + d : Nat) : Int)], by rw [← Nat.add_assoc, nodesTo_yes h, hr, List.append_assoc]⟩
    · exact ⟨r, by rw [← Nat.add_assoc, nodesTo_no h, hr]⟩
theorem rank_node {z : List Nd} {p : Int} {i : Nat} (hi : i < z.length) (h : (z.getD i dN).pl = p) : rank z p i < (nodesOf z p).length ∧ (nodesOf z p).getD (rank z p i) 0 = (i : Int) := by
  obtain ⟨r, hr⟩ := nodesTo_app z p (i + 1) (z.length - (i + 1))
  rw [show i + 1 + (z.length - (i + 1)) = z.length from by omega, nodesTo_all rfl rfl, nodesTo_yes h] at hr
  rw [hr]; unfold rank
  refine ⟨by simp, ?_⟩
  simp [List.getD]
theorem nodes_lt (z : List Nd) (p : Int) {i j : Nat} (hij : i < j) (hj : j < (nodesOf z p).length) : (nodesOf z p).getD i 0 < (nodesOf z p).getD j 0 := by
  have hp : (nodesOf z p).Pairwise (· < ·) := by
    unfold nodesOf
    refine List.Pairwise.map _ (fun a b h => ?_) (List.Pairwise.filter _ List.pairwise_lt_range)
    exact Int.ofNat_lt.2 h
  have := List.pairwise_iff_getElem.1 hp i j (by omega) hj hij
  simpa [List.getD, List.getElem?_eq_getElem hj, List.getElem?_eq_getElem (show i < (nodesOf z p).length by omega)] using this
theorem nodes_inj (z : List Nd) (p : Int) {i j : Nat} (hi : i < (nodesOf z p).length) (hj : j < (nodesOf z p).length) (h : (nodesOf z p).getD i 0 = (nodesOf z p).getD j 0) : i = j := by
  rcases Nat.lt_trichotomy i j with hlt | he | hlt
  · have := nodes_lt z p hlt hj; omega
  · exact he
  · have := nodes_lt z p hlt hi; omega
theorem rank_is {z : List Nd} {p v : Int} {i : Nat} (hi : i < (nodesOf z p).length) (h : (nodesOf z p).getD i 0 = v) : rank z p v.toNat = i := by
  have hm := nodesOf_mem (getD_mem 0 hi)
  rw [h] at hm
  have hr := rank_node (z := z) (i := v.toNat) (by omega) hm.2
  exact nodes_inj z p hr.1 hi (by rw [hr.2, h]; omega)
/-- The first set of each node of a player. -/
def firstTo (z : List Nd) (k : Nat) (p : Int) : Nat → List Int
  | 0 => List.replicate z.length 0
  | i + 1 => (firstTo z k p i).set ((nodesOf z p).getD i 0).toNat ((i : Int) * (k : Int))
def firstOf (z : List Nd) (k : Nat) (p : Int) : List Int := firstTo z k p (nodesOf z p).length
theorem firstTo_len (z : List Nd) (k : Nat) (p : Int) : ∀ i, (firstTo z k p i).length = z.length
  | 0 => by unfold firstTo; rw [List.length_replicate]
  | i + 1 => by unfold firstTo; rw [List.length_set]; exact firstTo_len z k p i
theorem firstTo_at (z : List Nd) (k : Nat) (p : Int) : ∀ n i, n ≤ (nodesOf z p).length → i < n → (firstTo z k p n).getD ((nodesOf z p).getD i 0).toNat 0 = (i : Int) * (k : Int)
  | 0, i, _, h => absurd h (Nat.not_lt_zero _)
  | n + 1, i, hn, h => by
    have hm := (nodesOf_mem (getD_mem 0 (show i < (nodesOf z p).length by omega))).1
    have hm2 := (nodesOf_mem (getD_mem 0 (show n < (nodesOf z p).length by omega))).1
    unfold firstTo
    rw [getD_set (by rw [firstTo_len]; omega)]
    by_cases he : i = n
    · subst he; rw [if_pos rfl]
    · have hlt := nodes_lt z p (show i < n by omega) (by omega)
      rw [if_neg (by omega)]
      exact firstTo_at z k p n i (by omega) (by omega)
theorem firstOf_len (z : List Nd) (k : Nat) (p : Int) : (firstOf z k p).length = z.length := firstTo_len z k p _
theorem firstOf_at {z : List Nd} {k : Nat} {p : Int} {v : Nat} (hv : v < z.length) (h : (z.getD v dN).pl = p) : (firstOf z k p).getD v 0 = (rank z p v : Int) * (k : Int) := by
  have hr := rank_node hv h
  have := firstTo_at z k p _ _ (Nat.le_refl _) hr.1
  rw [hr.2, Int.toNat_natCast] at this
  exact this
/-- The parent of each node. -/
def putAll (P : List Int) (v : Int) (cs : List Int) : List Int := cs.foldl (fun P c => P.set c.toNat v) P
theorem putAll_step {P : List Int} {v : Int} {cs : List Int} {j : Nat} (h : j < cs.length) : (putAll P v (cs.take j)).set (cs.getD j 0).toNat v = putAll P v (cs.take (j + 1)) := by
  rw [take_step 0 h]; unfold putAll; rw [List.foldl_append]; rfl
def parTo (z : List Nd) : Nat → List Int
  | 0 => List.replicate z.length 0
  | i + 1 => putAll (parTo z i) (i : Int) (z.getD i dN).ch
def parOf (z : List Nd) : List Int := parTo z z.length
/-- The parts at a decision. -/
def choice (z : List Nd) (k : Nat) (ps qs : List (List Int)) (v a b : Int) : List Int :=
  if (z.getD v.toNat dN).pl = 0 then ps.getD (rank z 0 v.toNat * k + a.toNat) [] else qs.getD (rank z 1 v.toNat * k + b.toNat) []
theorem setsOf_cell (k : Nat) {a : Nat} (ha : a < k) : ∀ (xs : List Int) (r : Nat), r < xs.length → r * k + a < (setsOf xs k).length ∧ (setsOf xs k).getD (r * k + a) [] = [xs.getD r 0, (a : Int)]
  | [], r, h => absurd h (Nat.not_lt_zero _)
  | x :: xs, r, h => by
    have hs : setsOf (x :: xs) k = ((List.range k).map fun (c : Nat) => [x, (c : Int)]) ++ setsOf xs k := rfl
    have hl : ((List.range k).map fun (c : Nat) => [x, (c : Int)]).length = k := by simp
    cases r with
    | zero =>
      rw [hs, Nat.zero_mul, Nat.zero_add]
      refine ⟨by rw [List.length_append, hl]; omega, ?_⟩
      simp [List.getD, List.getElem?_append_left, ha]
    | succ r =>
      have ih := setsOf_cell k ha xs r (by simp at h; omega)
      rw [hs, show (r + 1) * k + a = k + (r * k + a) from by rw [Nat.succ_mul]; omega]
      refine ⟨by rw [List.length_append, hl]; omega, ?_⟩
      have : (((List.range k).map fun (c : Nat) => [x, (c : Int)]) ++ setsOf xs k).getD (k + (r * k + a)) [] = (setsOf xs k).getD (r * k + a) [] := by
        simp only [List.getD]
        rw [List.getElem?_append_right (by rw [hl]; omega), hl, show k + (r * k + a) - k = r * k + a from by omega]
      rw [this, ih.2]; rfl
theorem choice_at {z : List Nd} {k : Nat} {p : Int} {ps : List (List Int)} (hps : partsB z (sets z k p) ps = true) {v a : Nat} (hv : v < z.length) (hpl : (z.getD v dN).pl = p) (ha : a < k) :
    rank z p v * k + a < ps.length ∧ partB z [(v : Int), (a : Int)] (ps.getD (rank z p v * k + a) []) = true := by
  have hr := rank_node hv hpl
  have hc := setsOf_cell k ha (nodesOf z p) _ hr.1
  have hp := parts_at hps hc.1
  have hl := parts_len hps
  unfold sets at hp hl
  rw [hc.2, hr.2] at hp
  exact ⟨by omega, hp⟩
/-- Both strategies. -/
structure Pair (z : List Nd) (ws vs ps qs : List (List Int)) : Prop where
  g : isGame z ws vs = true
  p : partsB z (sets z ws.length 0) ps = true
  q : partsB z (sets z ws.length 1) qs = true
def isPair (z : List Nd) (ws vs : List (List Int)) (pl : Int) (ps : List (List Int)) (ql : Int) (qs : List (List Int)) : Bool := isGame z ws vs && (decide (pl = 0) && (decide (ql = 1) && (partsB z (sets z ws.length 0) ps && partsB z (sets z ws.length 1) qs)))
theorem isPair_ok {z : List Nd} {ws vs ps qs : List (List Int)} {pl ql : Int} (h : isPair z ws vs pl ps ql qs = true) : pl = 0 ∧ ql = 1 ∧ Pair z ws vs ps qs := by
  simp only [isPair, Bool.and_eq_true, decide_eq_true_eq] at h
  exact ⟨h.2.1, h.2.2.1, h.1, h.2.2.2.1, h.2.2.2.2⟩
section
variable {z : List Nd} {ws vs ps qs : List (List Int)} {k : Nat}
theorem choice_ok (h : Pair z ws vs ps qs) (hk : ws.length = k) {v a b : Int} (hv : 0 ≤ v ∧ v < z.length) (hpl : (z.getD v.toNat dN).pl ≠ 2) (ha : 0 ≤ a ∧ a < k) (hb : 0 ≤ b ∧ b < k) :
    (choice z k ps qs v a b).length = (z.getD v.toNat dN).ch.length ∧ (∀ x ∈ choice z k ps qs v a b, 0 ≤ x ∧ x ≤ 60) ∧ (choice z k ps qs v a b).sum = 60 := by
  have hw : ∀ (u : Int) (x : Int), 0 ≤ u → wide z [u, x] = (z.getD u.toNat dN).ch.length := fun u x _ => rfl
  have ho := ok_pl (allOk_iff.1 (isTree_ok (isGame_ok h.g).1).2.1 v.toNat (by omega))
  subst hk
  unfold choice
  split
  · rename_i h0
    have := choice_at h.p (v := v.toNat) (a := a.toNat) (by omega) h0 (by omega)
    obtain ⟨h1, h2⟩ := part_row this.2
    refine ⟨by rw [row_len h1]; exact hw _ _ (by omega), row_in h1, h2⟩
  · rename_i h0
    have := choice_at h.q (v := v.toNat) (a := b.toNat) (by omega) (show (z.getD v.toNat dN).pl = 1 by omega) (by omega)
    obtain ⟨h1, h2⟩ := part_row this.2
    refine ⟨by rw [row_len h1]; exact hw _ _ (by omega), row_in h1, h2⟩
/-- The value of a node. -/
def valF (z : List Nd) (vs : List (List Int)) (k : Nat) (ps qs : List (List Int)) (a b : Int) : Nat → Int → Int → Int
  | 0, _, _ => 0
  | f + 1, v, left => if (z.getD v.toNat dN).pl = 2 then payoffX (z.getD v.toNat dN) ((vs.getD a.toNat []).getD b.toNat 0) * p60 left.toNat
    else (mapR (fun i => (choice z k ps qs v a b).getD i 0 * valF z vs k ps qs a b f ((z.getD v.toNat dN).ch.getD i 0) (left - 1)) (z.getD v.toNat dN).ch.length).sum
def value (z : List Nd) (vs : List (List Int)) (k : Nat) (ps qs : List (List Int)) (a b v left : Int) : Int := valF z vs k ps qs a b z.length v left
def valTo (z : List Nd) (vs : List (List Int)) (k : Nat) (ps qs : List (List Int)) (a b v left : Int) (n : Nat) : Int := (mapR (fun i => (choice z k ps qs v a b).getD i 0 * value z vs k ps qs a b ((z.getD v.toNat dN).ch.getD i 0) (left - 1)) n).sum
theorem mapR_congr {f g : Nat → Int} {n : Nat} (h : ∀ i, i < n → f i = g i) : mapR f n = mapR g n := List.map_congr_left fun i hi => h i (List.mem_range.1 hi)
theorem valF_same {a b : Int} (hok : allOk z = true) : ∀ f f' (v left : Int), 0 ≤ v → v < z.length → z.length - v.toNat ≤ f → z.length - v.toNat ≤ f' → valF z vs k ps qs a b f v left = valF z vs k ps qs a b f' v left := by
  intro f
  induction f with
  | zero => intro f' v left h0 h1 h2 h3; omega
  | succ f ih =>
    intro f' v left h0 h1 h2 h3
    cases f' with
    | zero => omega
    | succ f' =>
      simp only [valF]
      split
      · rfl
      · congr 1
        refine mapR_congr fun i hi => ?_
        have := ok_kid (allOk_iff.1 hok v.toNat (by omega)) (getD_mem 0 hi)
        rw [ih f' _ _ (by omega) (by omega) (by omega) (by omega)]
theorem value_end {a b v left : Int} (hv : 0 ≤ v ∧ v < z.length) (h : (z.getD v.toNat dN).pl = 2) : value z vs k ps qs a b v left = payoffX (z.getD v.toNat dN) ((vs.getD a.toNat []).getD b.toNat 0) * p60 left.toNat := by
  unfold value
  cases hn : z.length with
  | zero => omega
  | succ f => simp only [valF, h, if_true]
theorem value_step {a b v left : Int} (hok : allOk z = true) (hv : 0 ≤ v ∧ v < z.length) (h : ¬ (z.getD v.toNat dN).pl = 2) : value z vs k ps qs a b v left = valTo z vs k ps qs a b v left (z.getD v.toNat dN).ch.length := by
  have h1 : value z vs k ps qs a b v left = valF z vs k ps qs a b (z.length + 1) v left := valF_same hok _ _ v left hv.1 hv.2 (by omega) (by omega)
  rw [h1]; unfold valTo; simp only [valF, h, if_false]; rfl
theorem valTo_s (a b v left : Int) (i : Nat) : valTo z vs k ps qs a b v left (i + 1) = valTo z vs k ps qs a b v left i + (choice z k ps qs v a b).getD i 0 * value z vs k ps qs a b ((z.getD v.toNat dN).ch.getD i 0) (left - 1) := mapR_suc _ _
theorem dmax_ge {l : List Int} : ∀ {c : Int}, c ∈ l → depth z c.toNat ≤ dmax z l := by
  have key : ∀ (l : List Int) (m : Int), m ≤ l.foldl (fun m c => max m (depth z c.toNat)) m ∧ ∀ c ∈ l, depth z c.toNat ≤ l.foldl (fun m c => max m (depth z c.toNat)) m := by
    intro l
    induction l with
    | nil => intro m; exact ⟨Int.le_refl _, fun c h => by cases h⟩
    | cons d l ih =>
      intro m
      have h := ih (max m (depth z d.toNat))
      refine ⟨?_, fun c hc => ?_⟩
      · show m ≤ l.foldl _ (max m (depth z d.toNat)); omega
      · show depth z c.toNat ≤ l.foldl _ (max m (depth z d.toNat))
        rcases List.mem_cons.1 hc with rfl | hc
        · omega
        · exact h.2 c hc
  exact fun {c} hc => (key l 0).2 c hc
theorem depth_kid (hok : allOk z = true) {v : Int} (hv : 0 ≤ v ∧ v < z.length) (h : ¬ (z.getD v.toNat dN).pl = 2) {c : Int} (hc : c ∈ (z.getD v.toNat dN).ch) : depth z c.toNat + 1 ≤ depth z v.toNat := by
  rw [depth_step hok (by omega) h]
  have := dmax_ge (z := z) hc
  omega
theorem dot_bd {f g : Nat → Int} {B : Int} {n : Nat} (hB : 0 ≤ B) (hf : ∀ i, i < n → 0 ≤ f i) (hg : ∀ i, i < n → -B ≤ g i ∧ g i ≤ B) : ∀ m, m ≤ n → -(B * (mapR f m).sum) ≤ (mapR (fun i => f i * g i) m).sum ∧ (mapR (fun i => f i * g i) m).sum ≤ B * (mapR f m).sum
  | 0, _ => by simp [mapR]
  | m + 1, hm => by
    have ih := dot_bd hB hf hg m (by omega)
    have h1 := hf m (by omega)
    have h2 := hg m (by omega)
    have h3 : f m * g m ≤ f m * B := Int.mul_le_mul_of_nonneg_left h2.2 h1
    have h4 : f m * -B ≤ f m * g m := Int.mul_le_mul_of_nonneg_left h2.1 h1
    have h5 : f m * -B = -(f m * B) := Int.mul_neg _ _
    have h6 : B * f m = f m * B := Int.mul_comm _ _
    rw [mapR_suc, mapR_suc, Int.mul_add]
    omega
theorem mapR_list (l : List Int) : ∀ m, m ≤ l.length → mapR (fun i => l.getD i 0) m = l.take m
  | 0, _ => rfl
  | m + 1, h => by rw [← mapR_snoc, mapR_list l m (by omega), take_step 0 (by omega)]
theorem takesum {l : List Int} (h : ∀ x ∈ l, 0 ≤ x) (m : Nat) : 0 ≤ (l.take m).sum ∧ (l.take m).sum ≤ l.sum := by
  have key : ∀ l : List Int, (∀ x ∈ l, 0 ≤ x) → 0 ≤ l.sum := by
    intro l
    induction l with
    | nil => intro _; exact Int.le_refl _
    | cons x l ih => intro h; rw [List.sum_cons]; have := h x (List.mem_cons_self ..); have := ih fun y hy => h y (List.mem_cons_of_mem _ hy); omega
  have h1 := key (l.take m) fun x hx => h x (List.mem_of_mem_take hx)
  have h2 := key (l.drop m) fun x hx => h x (List.mem_of_mem_drop hx)
  have h3 : l.sum = (l.take m).sum + (l.drop m).sum := by rw [← List.sum_append, List.take_append_drop]
  omega
theorem payoffX_bd {x : Nd} {w : Int} (h0 : 0 ≤ x.p0 ∧ x.p0 ≤ 100) (h1 : 0 ≤ x.p1 ∧ x.p1 ≤ 100) : -100 ≤ payoffX x w ∧ payoffX x w ≤ 100 := by
  unfold payoffX; (repeat' split) <;> omega
theorem value_bd (h : Pair z ws vs ps qs) (hk : ws.length = k) {a b : Int} (ha : 0 ≤ a ∧ a < k) (hb : 0 ≤ b ∧ b < k) : ∀ (f : Nat) (v left : Int), z.length - v.toNat ≤ f → 0 ≤ v → v < z.length → depth z v.toNat ≤ left → 0 ≤ left →
    (-(100 * p60 left.toNat) ≤ value z vs k ps qs a b v left ∧ value z vs k ps qs a b v left ≤ 100 * p60 left.toNat) ∧ (¬ (z.getD v.toNat dN).pl = 2 → 1 ≤ left ∧ ∀ m, m ≤ (z.getD v.toNat dN).ch.length → -(100 * p60 left.toNat) ≤ valTo z vs k ps qs a b v left m ∧ valTo z vs k ps qs a b v left m ≤ 100 * p60 left.toNat) := by
  have hT := isTree_ok (isGame_ok h.g).1
  intro f
  induction f with
  | zero => intro v left h1 h2 h3; omega
  | succ f ih =>
    intro v left hf h0 h1 hd hl
    have ho := ok_pl (allOk_iff.1 hT.2.1 v.toNat (by omega))
    have hp : 0 ≤ p60 left.toNat := by unfold p60; exact Int.le_of_lt (Int.pow_pos (by decide))
    by_cases h2 : (z.getD v.toNat dN).pl = 2
    · refine ⟨?_, fun hn => absurd h2 hn⟩
      rw [value_end ⟨h0, h1⟩ h2]
      have hx := payoffX_bd (w := (vs.getD a.toNat []).getD b.toNat 0) ho.2.1 ho.2.2.1
      have h3 := Int.mul_le_mul_of_nonneg_right hx.2 hp
      have h4 := Int.mul_le_mul_of_nonneg_right hx.1 hp
      have h5 : -100 * p60 left.toNat = -(100 * p60 left.toNat) := Int.neg_mul _ _
      omega
    · have hc := choice_ok h hk ⟨h0, h1⟩ h2 ha hb
      have h1l : 1 ≤ left := by
        have := depth_step hT.2.1 (i := v.toNat) (by omega) h2
        have := (dmax_le (ns := z) (B := 60) (by decide) (l := (z.getD v.toNat dN).ch) fun c hc => by
          have hck := ok_kid (allOk_iff.1 hT.2.1 v.toNat (by omega)) hc
          have := depth_bd' rfl hT.2.1 (i := c.toNat) (by omega); omega).1
        omega
      have hs : p60 left.toNat = p60 (left - 1).toNat * 60 := by rw [← p60_s]; congr 1; omega
      have hkid : ∀ i, i < (z.getD v.toNat dN).ch.length → -(100 * p60 (left - 1).toNat) ≤ value z vs k ps qs a b ((z.getD v.toNat dN).ch.getD i 0) (left - 1) ∧ value z vs k ps qs a b ((z.getD v.toNat dN).ch.getD i 0) (left - 1) ≤ 100 * p60 (left - 1).toNat := fun i hi => by
        have hm := getD_mem 0 hi
        have hck := ok_kid (allOk_iff.1 hT.2.1 v.toNat (by omega)) hm
        have hdk := depth_kid hT.2.1 ⟨h0, h1⟩ h2 hm
        exact (ih _ _ (by omega) (by omega) (by omega) (by omega) (by omega)).1
      have hall : ∀ m, m ≤ (z.getD v.toNat dN).ch.length → -(100 * p60 left.toNat) ≤ valTo z vs k ps qs a b v left m ∧ valTo z vs k ps qs a b v left m ≤ 100 * p60 left.toNat := fun m hm => by
        have hp' : 0 ≤ p60 (left - 1).toNat := by unfold p60; exact Int.le_of_lt (Int.pow_pos (by decide))
        have hb := dot_bd (f := fun i => (choice z k ps qs v a b).getD i 0) (g := fun i => value z vs k ps qs a b ((z.getD v.toNat dN).ch.getD i 0) (left - 1)) (B := 100 * p60 (left - 1).toNat) (n := (z.getD v.toNat dN).ch.length) (by omega) (fun i hi => (hc.2.1 _ (getD_mem 0 (by omega))).1) hkid m hm
        rw [mapR_list _ m (by omega)] at hb
        have ht := takesum (l := choice z k ps qs v a b) (fun x hx => (hc.2.1 x hx).1) m
        rw [hc.2.2] at ht
        have h7 : 100 * p60 (left - 1).toNat * ((choice z k ps qs v a b).take m).sum ≤ 100 * p60 (left - 1).toNat * 60 := Int.mul_le_mul_of_nonneg_left ht.2 (by omega)
        unfold valTo
        rw [hs]
        omega
      refine ⟨?_, fun _ => ⟨h1l, hall⟩⟩
      rw [value_step hT.2.1 ⟨h0, h1⟩ h2]
      exact hall _ (Nat.le_refl _)
/-- The number of a game. -/
def dealN (z : List Nd) (ws vs : List (List Int)) (k : Nat) (ps qs : List (List Int)) (a b : Nat) : Int := (ws.getD a []).getD b 0 * value z vs k ps qs (a : Int) (b : Int) 0 (depth z 0)
def numRow (z : List Nd) (ws vs : List (List Int)) (k : Nat) (ps qs : List (List Int)) (a m : Nat) : Int := (mapR (fun b => dealN z ws vs k ps qs a b) m).sum
def numTo (z : List Nd) (ws vs : List (List Int)) (k : Nat) (ps qs : List (List Int)) (i : Nat) : Int := (mapR (fun a => numRow z ws vs k ps qs a k) i).sum
theorem numRow_s (a m : Nat) : numRow z ws vs k ps qs a (m + 1) = numRow z ws vs k ps qs a m + dealN z ws vs k ps qs a m := mapR_suc _ _
theorem numTo_s (i : Nat) : numTo z ws vs k ps qs (i + 1) = numTo z ws vs k ps qs i + numRow z ws vs k ps qs i k := mapR_suc _ _
theorem dealN_0 {a b : Nat} (h : (ws.getD a []).getD b 0 = 0) : dealN z ws vs k ps qs a b = 0 := by unfold dealN; rw [h, Int.zero_mul]
theorem value_bd5 (h : Pair z ws vs ps qs) (hk : ws.length = k) {a b v left : Int} (ha : 0 ≤ a ∧ a < k) (hb : 0 ≤ b ∧ b < k) (hv : 0 ≤ v ∧ v < z.length) (hd : depth z v.toNat ≤ left) (hl : 0 ≤ left ∧ left ≤ 5) : -77760000000 ≤ value z vs k ps qs a b v left ∧ value z vs k ps qs a b v left ≤ 77760000000 := by
  have h1 := (value_bd h hk ha hb _ v left (Nat.le_refl _) hv.1 hv.2 hd hl.1).1
  have h2 := p60_5 (k := left.toNat) (by omega)
  omega
theorem dealN_bd (h : Pair z ws vs ps qs) (hk : ws.length = k) {a b : Nat} (ha : a < k) (hb : b < k) : -699840000000 ≤ dealN z ws vs k ps qs a b ∧ dealN z ws vs k ps qs a b ≤ 699840000000 := by
  have hG := isGame_ok h.g
  have hT := isTree_ok hG.1
  have h1 := value_bd5 h hk (a := (a : Int)) (b := (b : Int)) (v := 0) (left := depth z 0) (by omega) (by omega) (by omega) (Int.le_refl _) hT.2.2.2
  subst hk
  have h2 := row_at (mat_row hG.2.2.1 ha) hb
  have h3 := Int.mul_le_mul_of_nonneg_left h1.2 h2.1
  have h4 := Int.mul_le_mul_of_nonneg_left h1.1 h2.1
  unfold dealN
  omega
theorem numRow_bd (h : Pair z ws vs ps qs) (hk : ws.length = k) {a : Nat} (ha : a < k) : ∀ m, m ≤ k → -(699840000000 * m) ≤ numRow z ws vs k ps qs a m ∧ numRow z ws vs k ps qs a m ≤ 699840000000 * m
  | 0, _ => by show _ ≤ (0 : Int) ∧ (0 : Int) ≤ _; omega
  | m + 1, hm => by
    have h1 := numRow_bd h hk ha m (by omega)
    have h2 := dealN_bd h hk ha (show m < k by omega)
    rw [numRow_s]; omega
theorem numTo_bd (h : Pair z ws vs ps qs) (hk : ws.length = k) : ∀ i, i ≤ k → -(4199040000000 * i) ≤ numTo z ws vs k ps qs i ∧ numTo z ws vs k ps qs i ≤ 4199040000000 * i
  | 0, _ => by show _ ≤ (0 : Int) ∧ (0 : Int) ≤ _; omega
  | i + 1, hi => by
    have h1 := numTo_bd h hk i (by omega)
    have h2 := numRow_bd h hk (show i < k by omega) k (Nat.le_refl _)
    have h3 := (isGame_ok h.g).2.1
    rw [numTo_s]; omega
/-- What a way is reached with. -/
def reW (z : List Nd) (k : Nat) (ps qs : List (List Int)) (a b : Int) : List Int → Int → Int → Int
  | [], _, p => p
  | w :: l, v, p => reW z k ps qs a b l ((z.getD v.toNat dN).ch.getD w.toNat 0) (p * (choice z k ps qs v a b).getD w.toNat 0)
/-- Places that lead from a node to a node. -/
def Leads (z : List Nd) : List Int → Int → Int → Prop
  | [], v, n => v = n
  | w :: l, v, n => ((0 ≤ v ∧ v < z.length) ∧ (0 ≤ w ∧ w < (z.getD v.toNat dN).ch.length)) ∧ Leads z l ((z.getD v.toNat dN).ch.getD w.toNat 0) n
theorem Leads.app {n m w : Int} (hn : 0 ≤ n ∧ n < z.length) (hw : 0 ≤ w ∧ w < (z.getD n.toNat dN).ch.length) (hm : (z.getD n.toNat dN).ch.getD w.toNat 0 = m) : ∀ {l : List Int} {v : Int}, Leads z l v n → Leads z (l ++ [w]) v m
  | [], v, h => by cases h; exact ⟨⟨hn, hw⟩, hm⟩
  | x :: l, v, h => ⟨h.1, Leads.app hn hw hm h.2⟩
theorem indexOf_at {l : List Int} {v : Int} (h : v ∈ l) : (0 ≤ indexOf l v ∧ indexOf l v < l.length) ∧ l.getD (indexOf l v).toNat 0 = v := by
  have h0 : 0 ≤ indexOf l v := by
    rcases Int.lt_or_le (indexOf l v) 0 with h1 | h1
    · exact absurd h (indexOf_nmem (by omega))
    · exact h1
  have hle := indexOf_le (l := l) (v := v)
  refine ⟨⟨h0, hle.2⟩, ?_⟩
  obtain ⟨j, hj, hv⟩ := mem_getD 0 h
  have key : ∀ n j, j = n → j < l.length → l.getD j 0 = v → l.getD (indexOf l v).toNat 0 = v := by
    intro n
    induction n using Nat.strongRecOn with
    | _ n ih =>
      intro j hjn hj hv
      by_cases hf : ∀ i, i < j → l.getD i 0 ≠ v
      · rw [indexOf_yes hj hv hf, Int.toNat_natCast]; exact hv
      · obtain ⟨i, hf⟩ := Classical.not_forall.1 hf
        obtain ⟨hi, hiv⟩ := Classical.not_imp.1 hf
        exact ih i (by omega) i rfl (by omega) (Classical.not_not.1 hiv)
  exact key j j rfl hj hv
theorem Way.leads (hok : allOk z = true) {n : Int} {l : List Int} (h : Way z n l) : n < z.length → Leads z l 0 n := by
  induction h with
  | root => intro _; rfl
  | @step i n l ha hb hc hd ih =>
    intro hn
    have hx := indexOf_at hc
    refine Leads.app (n := (i : Int)) (by omega) ?_ ?_ (ih (by omega))
    · rw [Int.toNat_natCast]; exact hx.1
    · rw [Int.toNat_natCast]; exact hx.2
/-- One deal, and all, that reach a node. -/
noncomputable def reN (z : List Nd) (ws : List (List Int)) (k : Nat) (ps qs : List (List Int)) (n : Int) (a b : Nat) : Int := reW z k ps qs (a : Int) (b : Int) (wayOf z n) 0 ((ws.getD a []).getD b 0) * p60 (depth z 0 - ((wayOf z n).length : Int)).toNat
noncomputable def reRow (z : List Nd) (ws : List (List Int)) (k : Nat) (ps qs : List (List Int)) (n : Int) (a m : Nat) : Int := (mapR (fun b => reN z ws k ps qs n a b) m).sum
noncomputable def reTo (z : List Nd) (ws : List (List Int)) (k : Nat) (ps qs : List (List Int)) (n : Int) (i : Nat) : Int := (mapR (fun a => reRow z ws k ps qs n a k) i).sum
end
end Go.Proofs.Ytjengglpbdgmnaa.Math
/- Plain facts on strategies that are read, and on ways that are walked. No condition. -/
namespace Go.Proofs.Ytjengglpbdgmnaa.Math
open Go Go.Proofs.Ytjengglpbdgmnaa.V
set_option linter.unusedVariables false
set_option linter.unusedSimpArgs false
theorem two {w0 : World} {M : Nat → Prop} {L : List (World → Prop)} {φ ψ χ : World → Prop} (h : Kn w0 M L φ) (h' : Kn w0 M L ψ) (hi : ∀ w, φ w → ψ w → χ w) : Kn w0 M L χ := fun w hs => hi w (h w hs) (h' w hs)
theorem firstTo_0 {z : List Nd} {k n : Nat} {p : Int} (h : z.length = n) : firstTo z k p 0 = List.replicate n 0 := by subst h; rfl
theorem firstTo_s (z : List Nd) (k : Nat) (p : Int) (i : Nat) : (firstTo z k p i).set ((nodesOf z p).getD i 0).toNat ((i : Int) * (k : Int)) = firstTo z k p (i + 1) := rfl
theorem firstTo_e {z : List Nd} {k i : Nat} {p : Int} (h : (nodesOf z p).length = i) : firstTo z k p i = firstOf z k p := by subst h; rfl
theorem parTo_0 {z : List Nd} {n : Nat} (h : z.length = n) : parTo z 0 = List.replicate n 0 := by subst h; rfl
theorem putAll_nil (P : List Int) (v : Int) : putAll P v [] = P := rfl
theorem parTo_s {z : List Nd} {i j : Nat} (h : (z.getD i dN).ch.length ≤ j) : putAll (parTo z i) (i : Int) ((z.getD i dN).ch.take j) = parTo z (i + 1) := by rw [List.take_of_length_le h]; rfl
theorem parTo_e {z : List Nd} {i : Nat} (h : z.length = i) : parTo z i = parOf z := by subst h; rfl
theorem firstOf_nat {z : List Nd} {k : Nat} {p v : Int} {f : List Int} (hf : f = firstOf z k p) (hv : 0 ≤ v ∧ v < z.length) (h : (z.getD v.toNat dN).pl = p) : f.getD v.toNat 0 = ((rank z p v.toNat * k : Nat) : Int) := by
  subst hf; rw [firstOf_at (by omega) h, Int.natCast_mul]
def chA (z : List Nd) (k : Nat) (Hp Hq : Nat → Hd) (v a b : Int) : Hd := if (z.getD v.toNat dN).pl = 0 then Hp (rank z 0 v.toNat * k + a.toNat) else Hq (rank z 1 v.toNat * k + b.toNat)
section
variable {z : List Nd} {ws vs ps qs : List (List Int)} {k : Nat} {Hp Hq : Nat → Hd} {v a b : Int}
theorem chA_0 (h : (z.getD v.toNat dN).pl = 0) : chA z k Hp Hq v a b = Hp (rank z 0 v.toNat * k + a.toNat) := if_pos h
theorem chA_1 (h : (z.getD v.toNat dN).pl = 1) : chA z k Hp Hq v a b = Hq (rank z 1 v.toNat * k + b.toNat) := if_neg (by rw [h]; decide)
theorem choice_0 (h : (z.getD v.toNat dN).pl = 0) : choice z k ps qs v a b = ps.getD (rank z 0 v.toNat * k + a.toNat) [] := if_pos h
theorem choice_1 (h : (z.getD v.toNat dN).pl = 1) : choice z k ps qs v a b = qs.getD (rank z 1 v.toNat * k + b.toNat) [] := if_neg (by rw [h]; decide)
theorem choice_ix (h : Pair z ws vs ps qs) (hk : ws.length = k) (hv : 0 ≤ v ∧ v < z.length) (hpl : (z.getD v.toNat dN).pl ≠ 2) (ha : 0 ≤ a ∧ a < k) (hb : 0 ≤ b ∧ b < k) :
    ((z.getD v.toNat dN).pl = 0 → rank z 0 v.toNat * k + a.toNat < ps.length) ∧ ((z.getD v.toNat dN).pl = 1 → rank z 1 v.toNat * k + b.toNat < qs.length) := by
  subst hk
  exact ⟨fun h0 => (choice_at h.p (v := v.toNat) (a := a.toNat) (by omega) h0 (by omega)).1, fun h1 => (choice_at h.q (v := v.toNat) (a := b.toNat) (by omega) h1 (by omega)).1⟩
theorem choice_rd (h : Pair z ws vs ps qs) (hk : ws.length = k) (hv : 0 ≤ v ∧ v < z.length) (hpl : (z.getD v.toNat dN).pl ≠ 2) (ha : 0 ≤ a ∧ a < k) (hb : 0 ≤ b ∧ b < k) {ap aq : Option Addr} {np nq : Nat} {w : World} (h1 : RdR maK ap np Hp ps w) (h2 : RdR maK aq nq Hq qs w) :
    RdI (chA z k Hp Hq v a b).1 (choice z k ps qs v a b).length (choice z k ps qs v a b) w := by
  have hi := choice_ix h hk hv hpl ha hb
  have ho := ok_pl (allOk_iff.1 (isTree_ok (isGame_ok h.g).1).2.1 v.toNat (by omega))
  rcases (show (z.getD v.toNat dN).pl = 0 ∨ (z.getD v.toNat dN).pl = 1 by omega) with h0 | h0
  · rw [chA_0 h0, choice_0 h0]; exact h1.kidM (nth [] (hi.1 h0))
  · rw [chA_1 h0, choice_1 h0]; exact h2.kidM (nth [] (hi.2 h0))
theorem pair_len (h : Pair z ws vs ps qs) (hk : ws.length = k) : ps.length ≤ 360 ∧ qs.length ≤ 360 := by
  have h1 := (isGame_ok h.g).2.1
  have h2 := (isTree_ok (isGame_ok h.g).1).1
  have h3 := parts_len h.p
  have h4 := parts_len h.q
  have h5 := sets_len (z := z) (p := 0) (show ws.length ≤ 6 by omega)
  have h6 := sets_len (z := z) (p := 1) (show ws.length ≤ 6 by omega)
  omega
end
theorem pair_is (z : List Nd) (ws vs ps qs : List (List Int)) (pl ql : Int) : isPair z ws vs pl ps ql qs = (isStrat z ws vs pl ps && (isStrat z ws vs ql qs && (decide (pl = 0) && decide (ql = 1)))) := by
  unfold isPair isStrat
  by_cases h0 : pl = 0
  · by_cases h1 : ql = 1
    · subst h0; subst h1
      generalize isGame z ws vs = g; generalize partsB z (sets z ws.length 0) ps = p; generalize partsB z (sets z ws.length 1) qs = q
      revert g p q; decide
    · simp [h1]
  · simp [h0]
theorem pair_in {z : List Nd} {ws vs ps qs : List (List Int)} {pl ql : Int} {k : Nat} (hk : ws.length = k) : isPair z ws vs pl ps ql qs = (isGame z ws vs && (decide (pl = 0) && (decide (ql = 1) && (partsB z (sets z k pl) ps && partsB z (sets z k ql) qs)))) := by
  subst hk; unfold isPair
  by_cases h0 : pl = 0
  · by_cases h1 : ql = 1
    · subst h0; subst h1; rfl
    · simp [h1]
  · simp [h0]
/-- The answers. -/
noncomputable def reachAt (z : List Nd) (ws vs : List (List Int)) (pl : Int) (ps : List (List Int)) (ql : Int) (qs : List (List Int)) (n : Int) : Int × Int :=
  if isPair z ws vs pl ps ql qs = true then if 0 ≤ n ∧ n ≤ (z.length : Int) - 1 then (reTo z ws ws.length ps qs n ws.length, 0) else (0, 2) else (0, 1)
section
variable {z : List Nd} {ws vs ps qs : List (List Int)} {pl ql n : Int} {k m : Nat}
/-- Showdowns. -/
noncomputable def showTo (z : List Nd) (ws : List (List Int)) (k : Nat) (ps qs : List (List Int)) (i : Nat) : Int := (mapR (fun i => if (z.getD ((nodesOf z 2).getD i 0).toNat dN).fo < 0 then reTo z ws k ps qs ((nodesOf z 2).getD i 0) k else 0) i).sum
noncomputable def showAt (z : List Nd) (ws vs : List (List Int)) (pl : Int) (ps : List (List Int)) (ql : Int) (qs : List (List Int)) : Int × Int :=
  if isPair z ws vs pl ps ql qs = true then (showTo z ws ws.length ps qs (nodesOf z 2).length, 0) else (0, 1)
end
end Go.Proofs.Ytjengglpbdgmnaa.Math
/- Plain arithmetic on numbers, ratios and odds. No condition. -/
set_option linter.unusedVariables false
namespace Go.Proofs.Ytjengglpbdgmnaa.Math
theorem mod_lt {p q : Int} (hp : 0 ≤ p) (hq : 0 < q) : (p % q).toNat < q.toNat := by
 have h1 := Int.emod_nonneg p (show q ≠ 0 by omega)
 have h2 := Int.emod_lt_of_pos p hq
 omega
def gcdI (a b : Int) : Int := (Nat.gcd a.toNat b.toNat : Int)
theorem gcd_step {p q : Int} (hp : 0 ≤ p) (hq : 0 < q) : gcdI q (p % q) = gcdI p q := by
 unfold gcdI
 have : (p % q).toNat = p.toNat % q.toNat := by
  rw [Int.toNat_emod hp (by omega)]
 rw [this, Nat.gcd_comm, ← Nat.gcd_rec, Nat.gcd_comm]
theorem gcd_end {p q : Int} (hp : 0 ≤ p) (hq : q = 0) : p = gcdI p q := by
 unfold gcdI; subst hq; simp; omega
theorem gcdI_pos (a : Int) {b : Int} (hb : 1 ≤ b) : 1 ≤ gcdI a b := by
 unfold gcdI
 have := Nat.gcd_pos_of_pos_right a.toNat (show 0 < b.toNat by omega)
 omega
/-- A valid ratio. -/
def isRatio (n d : Int) : Bool := decide (-1000000000 ≤ n ∧ n ≤ 1000000000) && (decide (1 ≤ d ∧ d ≤ 1000000000) && decide (gcdI n.natAbs d = 1))
/-- The ratio of two integers, the second at least 1, and a code. -/
def reduced (num den : Int) : (Int × Int) × Int :=
 if isRatio (num.tdiv (gcdI num.natAbs den)) (den / gcdI num.natAbs den) then ((num.tdiv (gcdI num.natAbs den), den / gcdI num.natAbs den), 0) else ((0, 0), 3)
theorem isRatio_bd {n d : Int} (h : isRatio n d = true) : (-1000000000 ≤ n ∧ n ≤ 1000000000) ∧ (1 ≤ d ∧ d ≤ 1000000000) := by
 simp only [isRatio, Bool.and_eq_true, decide_eq_true_eq] at h
 exact ⟨h.1, h.2.1⟩
theorem prod_bd {x y : Int} (hx : -1000000000 ≤ x ∧ x ≤ 1000000000) (hy : -1000000000 ≤ y ∧ y ≤ 1000000000) : -1000000000000000000 ≤ x * y ∧ x * y ≤ 1000000000000000000 := by
 have h1 : x.natAbs ≤ 1000000000 := by omega
 have h2 : y.natAbs ≤ 1000000000 := by omega
 have h3 : (x * y).natAbs ≤ 1000000000 * 1000000000 := by rw [Int.natAbs_mul]; exact Nat.mul_le_mul h1 h2
 omega
def addR (a b : Int × Int) : (Int × Int) × Int := if isRatio a.1 a.2 = true ∧ isRatio b.1 b.2 = true then reduced (a.1 * b.2 + b.1 * a.2) (a.2 * b.2) else ((0, 0), 1)
def subR (a b : Int × Int) : (Int × Int) × Int := if isRatio a.1 a.2 = true ∧ isRatio b.1 b.2 = true then reduced (a.1 * b.2 - b.1 * a.2) (a.2 * b.2) else ((0, 0), 1)
def mulR (a b : Int × Int) : (Int × Int) × Int := if isRatio a.1 a.2 = true ∧ isRatio b.1 b.2 = true then reduced (a.1 * b.1) (a.2 * b.2) else ((0, 0), 1)
/-- A share. -/
def isShare (n d : Int) : Bool := isRatio n d && decide (0 ≤ n ∧ n ≤ d)
/-- A quotient of numbers of chips, and a code. -/
def quot (num den : Int) : (Int × Int) × Int := if den = 0 then ((0, 0), 5) else reduced num den
def quotR (a b num den : Int) : (Int × Int) × Int := if (0 ≤ a ∧ a ≤ 1000000) ∧ (0 ≤ b ∧ b ≤ 1000000) then quot num den else ((0, 0), 2)
/-- Several operations, of which the first error is kept. -/
def stp (f : Int × Int → Int × Int → (Int × Int) × Int) (c : Int) (a b : Int × Int) : (Int × Int) × Int := if c ≠ 0 then ((0, 1), c) else f a b
def fin (r : (Int × Int) × Int) : (Int × Int) × Int := if r.2 ≠ 0 then ((0, 0), r.2) else (r.1, 0)
def bnd (r : (Int × Int) × Int) (f : Int × Int → (Int × Int) × Int) : (Int × Int) × Int := if r.2 ≠ 0 then ((0, 0), r.2) else f r.1
def callW (pot call : Int) (e : Int × Int) : (Int × Int) × Int := bnd (mulR e (pot + call, 1)) fun x => subR x (call, 1)
def callS (pot call : Int) (e : Int × Int) : (Int × Int) × Int :=
 fin (stp addR (stp mulR 0 e (pot + call, 1)).2 (stp mulR 0 e (pot + call, 1)).1 (-call, 1))
/-- What a call wins, and a code. -/
def callV (pot call : Int) (e : Int × Int) : (Int × Int) × Int :=
 if isShare e.1 e.2 = true then (if (0 ≤ pot ∧ pot ≤ 1000000) ∧ (0 ≤ call ∧ call ≤ 1000000) then callW pot call e else ((0, 0), 2)) else ((0, 0), 1)
def betW (pot bet : Int) (f e : Int × Int) : (Int × Int) × Int :=
 bnd (mulR e (pot + 2 * bet, 1)) fun won => bnd (subR won (bet, 1)) fun called => bnd (subR (1, 1) f) fun calls => bnd (mulR calls called) fun first => bnd (mulR f (pot, 1)) fun second => addR first second
def betS (pot bet : Int) (f e : Int × Int) : (Int × Int) × Int :=
 let won := stp mulR 0 e (pot + 2 * bet, 1)
 let called := stp addR won.2 won.1 (-bet, 1)
 let stay := stp addR called.2 (1, 1) (-f.1, f.2)
 let part := stp mulR stay.2 stay.1 called.1
 let wn := stp mulR part.2 f (pot, 1)
 fin (stp addR wn.2 wn.1 part.1)
/-- What a bet wins, and a code. -/
def betV (pot bet : Int) (f e : Int × Int) : (Int × Int) × Int :=
 if isShare f.1 f.2 = true ∧ isShare e.1 e.2 = true then (if (0 ≤ pot ∧ pot ≤ 1000000) ∧ (0 ≤ bet ∧ bet ≤ 1000000) then betW pot bet f e else ((0, 0), 2)) else ((0, 0), 1)
/-- What is left of a stack behind some streets. -/
def left : Nat → Int → Int → Int → Int
 | 0, _, s, _ => s
 | k + 1, p, s, b => left k (p + 2 * min s ((b * p + 99) / 100)) (s - min s ((b * p + 99) / 100)) b
def inGeo (pot stack streets : Int) : Prop := (1 ≤ pot ∧ pot ≤ 10000) ∧ (1 ≤ stack ∧ stack ≤ 10000) ∧ (1 ≤ streets ∧ streets ≤ 4)
/-- The least bet by which the whole stack goes in. -/
def isGeo (pot stack streets n : Int) : Prop := 0 ≤ n ∧ n ≤ 1000000 ∧ left streets.toNat pot stack n = 0 ∧ ∀ b, 0 ≤ b → b < n → left streets.toNat pot stack b ≠ 0
def Geo (pot stack streets : Int) (x : Int × Int) : Prop := (inGeo pot stack streets ∧ isGeo pot stack streets x.1 ∧ x.2 = 0) ∨ (¬ inGeo pot stack streets ∧ x = (0, 2))
end Go.Proofs.Ytjengglpbdgmnaa.Math
/- Plain facts on the answers of values and mixed strategies. No condition. -/
namespace Go.Proofs.Ytjengglpbdgmnaa.Math
open Go Go.Proofs.Ytjengglpbdgmnaa.V
set_option linter.unusedVariables false
set_option linter.unusedSimpArgs false
def dealAt (z : List Nd) (ws vs : List (List Int)) (pl : Int) (ps : List (List Int)) (ql : Int) (qs : List (List Int)) (a b : Int) : Int × Int :=
 if isPair z ws vs pl ps ql qs = true then if (0 ≤ a ∧ a ≤ (ws.length : Int) - 1) ∧ (0 ≤ b ∧ b ≤ (ws.length : Int) - 1) then (value z vs ws.length ps qs a b 0 (depth z 0), 0) else (0, 2) else (0, 1)
def gameAt (z : List Nd) (ws vs : List (List Int)) (pl : Int) (ps : List (List Int)) (ql : Int) (qs : List (List Int)) : Int × Int × Int :=
 if isPair z ws vs pl ps ql qs = true then (numTo z ws vs ws.length ps qs ws.length, unit z ws, 0) else (0, 0, 1)
noncomputable def endsTo (z : List Nd) (ws : List (List Int)) (k : Nat) (ps qs : List (List Int)) (i : Nat) : List Int := mapR (fun i => reTo z ws k ps qs ((nodesOf z 2).getD i 0) k) i
noncomputable def endsAt (z : List Nd) (ws vs : List (List Int)) (pl : Int) (ps : List (List Int)) (ql : Int) (qs : List (List Int)) : List Int × Int :=
 if isPair z ws vs pl ps ql qs = true then (endsTo z ws ws.length ps qs (nodesOf z 2).length, 0) else ([], 1)
def ratioAt (z : List Nd) (ws vs : List (List Int)) (pl : Int) (ps : List (List Int)) (ql : Int) (qs : List (List Int)) : (Int × Int) × Int :=
 if isPair z ws vs pl ps ql qs = true then reduced (numTo z ws vs ws.length ps qs ws.length) (unit z ws) else ((0, 0), 1)
section
variable {z : List Nd} {ws vs ps qs : List (List Int)} {pl ql a b n : Int} {k m : Nat}
theorem dealAt_1 (h : isPair z ws vs pl ps ql qs = false) : dealAt z ws vs pl ps ql qs a b = (0, 1) := if_neg (by rw [h]; decide)
theorem dealAt_2 (hk : ws.length = k) (h : isPair z ws vs pl ps ql qs = true) (hn : ¬ ((0 ≤ a ∧ a ≤ (k : Int) - 1) ∧ (0 ≤ b ∧ b ≤ (k : Int) - 1))) : dealAt z ws vs pl ps ql qs a b = (0, 2) := by subst hk; unfold dealAt; rw [if_pos h, if_neg hn]
theorem dealAt_0 (hk : ws.length = k) (h : isPair z ws vs pl ps ql qs = true) (ha : 0 ≤ a ∧ a ≤ (k : Int) - 1) (hb : 0 ≤ b ∧ b ≤ (k : Int) - 1) : dealAt z ws vs pl ps ql qs a b = (value z vs k ps qs a b 0 (depth z 0), 0) := by subst hk; unfold dealAt; rw [if_pos h, if_pos ⟨ha, hb⟩]
theorem gameAt_1 (h : isPair z ws vs pl ps ql qs = false) : gameAt z ws vs pl ps ql qs = (0, 0, 1) := if_neg (by rw [h]; decide)
theorem gameAt_0 (hk : ws.length = k) (h : isPair z ws vs pl ps ql qs = true) : gameAt z ws vs pl ps ql qs = (numTo z ws vs k ps qs k, unit z ws, 0) := by subst hk; exact if_pos h
theorem ratioAt_1 (h : isPair z ws vs pl ps ql qs = false) : ratioAt z ws vs pl ps ql qs = ((0, 0), 1) := if_neg (by rw [h]; decide)
theorem ratioAt_0 (hk : ws.length = k) (h : isPair z ws vs pl ps ql qs = true) : ratioAt z ws vs pl ps ql qs = reduced (numTo z ws vs k ps qs k) (unit z ws) := by subst hk; exact if_pos h
theorem unit_bd (h : isGame z ws vs = true) : 1 ≤ unit z ws ∧ unit z ws ≤ 251942400000 := by
 have hG := isGame_ok h
 have hT := isTree_ok hG.1
 have h1 := total_le hG.2.1.2 hG.2.2.1
 have h2 := p60_5 (k := (depth z 0).toNat) (by omega)
 have h3 := mul_bd h1.1 h1.2 (by omega) h2.2
 have h4 : 1 * 1 ≤ total ws * p60 (depth z 0).toNat := Int.mul_le_mul (by omega) h2.1 (by decide) h1.1
 unfold unit; omega
/-- Mixed strategies. -/
def mixRow (n : Int) (r s : List Int) (j : Nat) : List Int := mapR (fun j => n * r.getD j 0 + (60 - n) * s.getD j 0) j
noncomputable def mixTo (n : Int) (ps qs : List (List Int)) (i : Nat) : List (List Int) := mapR (fun i => partsOf (mixRow n (ps.getD i []) (qs.getD i []) (ps.getD i []).length)) i
end
noncomputable def mixAt (z : List Nd) (ws vs : List (List Int)) (pl : Int) (ps : List (List Int)) (ql : Int) (qs : List (List Int)) (n : Int) : (Int × List (List Int)) × Int :=
 if isStrat z ws vs pl ps = true ∧ isStrat z ws vs ql qs = true then if 0 ≤ n ∧ n ≤ 60 then if pl = ql then ((pl, mixTo n ps qs ps.length), 0) else ((0, []), 5) else ((0, []), 2) else ((0, []), 1)
section
variable {z : List Nd} {ws vs ps qs : List (List Int)} {pl ql n : Int} {k m : Nat}
end
end Go.Proofs.Ytjengglpbdgmnaa.Math
/- Plain facts on mirrored games. No condition. -/
namespace Go.Proofs.Ytjengglpbdgmnaa.Math
open Go.Proofs.Ytjengglpbdgmnaa.V
set_option linter.unusedVariables false
set_option linter.unusedSimpArgs false
def swap (n : Int) : Int := if n = 0 ∨ n = 1 then 1 - n else n
def mirN (x : Nd) : Nd := ⟨swap x.pl, x.p1, x.p0, swap x.fo, x.ch⟩
def mirWc (ws : List (List Int)) (a b : Nat) : Int := (ws.getD b []).getD a 0
def mirVc (vs : List (List Int)) (a b : Nat) : Int := -(vs.getD b []).getD a 0
def mirWs (ws : List (List Int)) (k i : Nat) : List (List Int) := mapR (fun a => mapR (mirWc ws a) k) i
def mirVs (vs : List (List Int)) (k i : Nat) : List (List Int) := mapR (fun a => mapR (mirVc vs a) k) i
def cardF (ws : List (List Int)) (p : Int) (c b : Nat) : Int := if p = 0 then (ws.getD c []).getD b 0 else (ws.getD b []).getD c 0
def cardSum (ws : List (List Int)) (p : Int) (c k : Nat) : Int := (mapR (cardF ws p c) k).sum
def mirAt (z : List Nd) (ws vs : List (List Int)) : G3 × Int := if isGame z ws vs = true then ((z.map mirN, mirWs ws ws.length ws.length, mirVs vs ws.length ws.length), 0) else (([], [], []), 1)
end Go.Proofs.Ytjengglpbdgmnaa.Math
/- Contracts of ways. Their conditions stand in each. -/
namespace Go.Proofs.Ytjengglpbdgmnaa
open Go Go.RowKit V
set_option linter.unusedVariables false
set_option linter.unusedSimpArgs false
set_option maxRecDepth 100000
end Go.Proofs.Ytjengglpbdgmnaa
