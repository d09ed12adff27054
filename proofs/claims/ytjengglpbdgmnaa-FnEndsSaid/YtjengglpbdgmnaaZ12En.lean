/- Contracts of games and strategies that laws draw. Their conditions stand in each. -/
import Derived.Test.YtjengglpbdgmnaaZ11En
import Derived.Test.YtjengglpbdgmnaaZ1En
import Derived.Test.YtjengglpbdgmnaaZ2En
import Derived.Test.YtjengglpbdgmnaaZ3En
import Derived.Test.YtjengglpbdgmnaaZ10En
import Derived.Test.YtjengglpbdgmnaaZ4En
import Derived.Test.YtjengglpbdgmnaaZ7En
import Derived.Test.YtjengglpbdgmnaaZ8En
import Derived.Test.YtjengglpbdgmnaaZ5En
import Derived.Test.YtjengglpbdgmnaaZ6En
import Derived.Test.YtjengglpbdgmnaaZ9En
import Derived.Test.YtjengglpbdgmnaaRows
import Derived.RowKit
namespace Go.Proofs.Ytjengglpbdgmnaa
open Go Go.RowKit V
set_option linter.unusedVariables false
set_option linter.unusedSimpArgs false
set_option maxRecDepth 100000
set_option maxHeartbeats 4000000 in
theorem spec_DrawEndNumbers_c (ca : Option Addr) (bs : List Int) (cc : Nat) (w : World) (rcode : CellsAt ca (bs.map (Value.int .u8)) w) (hok : okBytes bs) :
  Calls Try.prog 69 #[.slice ca bs.length cc] w (Ret fun v w' => ∃ x : Option Addr × Nat × Nat × (Nat → Hd) × List Nd × Option Addr × Nat × Nat × (Nat → Hd) × List (List Int) × Option Addr × Nat × Nat × (Nat → Hd) × List (List Int) × Int × Option Addr × Nat × Nat × (Nat → Hd) × List (List Int) × Int × Option Addr × Nat × Nat × (Nat → Hd) × List (List Int), v = .tuple #[.agg #[.slice x.1 x.2.1 x.2.2.1, .slice x.2.2.2.2.2.1 x.2.2.2.2.2.2.1 x.2.2.2.2.2.2.2.1, .slice x.2.2.2.2.2.2.2.2.2.2.1 x.2.2.2.2.2.2.2.2.2.2.2.1 x.2.2.2.2.2.2.2.2.2.2.2.2.1], .agg #[.int .i64 x.2.2.2.2.2.2.2.2.2.2.2.2.2.2.2.1, .slice x.2.2.2.2.2.2.2.2.2.2.2.2.2.2.2.2.1 x.2.2.2.2.2.2.2.2.2.2.2.2.2.2.2.2.2.1 x.2.2.2.2.2.2.2.2.2.2.2.2.2.2.2.2.2.2.1], .agg #[.int .i64 x.2.2.2.2.2.2.2.2.2.2.2.2.2.2.2.2.2.2.2.2.2.1, .slice x.2.2.2.2.2.2.2.2.2.2.2.2.2.2.2.2.2.2.2.2.2.2.1 x.2.2.2.2.2.2.2.2.2.2.2.2.2.2.2.2.2.2.2.2.2.2.2.1 x.2.2.2.2.2.2.2.2.2.2.2.2.2.2.2.2.2.2.2.2.2.2.2.2.1]] ∧ (x.2.1 ≤ 250 ∧ ((1 ≤ x.2.2.2.2.2.2.1 ∧ x.2.2.2.2.2.2.1 ≤ 4) ∧ x.2.2.2.2.2.2.2.2.2.2.2.1 ≤ 4) ∧ ((-1 ≤ x.2.2.2.2.2.2.2.2.2.2.2.2.2.2.2.1 ∧ x.2.2.2.2.2.2.2.2.2.2.2.2.2.2.2.1 ≤ 2) ∧ x.2.2.2.2.2.2.2.2.2.2.2.2.2.2.2.2.2.1 ≤ 361) ∧ ((0 ≤ x.2.2.2.2.2.2.2.2.2.2.2.2.2.2.2.2.2.2.2.2.2.1 ∧ x.2.2.2.2.2.2.2.2.2.2.2.2.2.2.2.2.2.2.2.2.2.1 ≤ 1) ∧ x.2.2.2.2.2.2.2.2.2.2.2.2.2.2.2.2.2.2.2.2.2.2.2.1 ≤ 361)) ∧ Sep w none_ [RdR ndK x.1 x.2.1 x.2.2.2.1 x.2.2.2.2.1, RdR maK x.2.2.2.2.2.1 x.2.2.2.2.2.2.1 x.2.2.2.2.2.2.2.2.1 x.2.2.2.2.2.2.2.2.2.1, RdR maK x.2.2.2.2.2.2.2.2.2.2.1 x.2.2.2.2.2.2.2.2.2.2.2.1 x.2.2.2.2.2.2.2.2.2.2.2.2.2.1 x.2.2.2.2.2.2.2.2.2.2.2.2.2.2.1, OwnR maK 28 2 x.2.2.2.2.2.2.2.2.2.2.2.2.2.2.2.2.1 x.2.2.2.2.2.2.2.2.2.2.2.2.2.2.2.2.2.1 x.2.2.2.2.2.2.2.2.2.2.2.2.2.2.2.2.2.2.1 x.2.2.2.2.2.2.2.2.2.2.2.2.2.2.2.2.2.2.2.1 x.2.2.2.2.2.2.2.2.2.2.2.2.2.2.2.2.2.2.2.2.1, OwnR maK 28 2 x.2.2.2.2.2.2.2.2.2.2.2.2.2.2.2.2.2.2.2.2.2.2.1 x.2.2.2.2.2.2.2.2.2.2.2.2.2.2.2.2.2.2.2.2.2.2.2.1 x.2.2.2.2.2.2.2.2.2.2.2.2.2.2.2.2.2.2.2.2.2.2.2.2.1 x.2.2.2.2.2.2.2.2.2.2.2.2.2.2.2.2.2.2.2.2.2.2.2.2.2.1 x.2.2.2.2.2.2.2.2.2.2.2.2.2.2.2.2.2.2.2.2.2.2.2.2.2.2] w') := by
 have kcode : Kn w none_ [] (CellsAt ca (bs.map (Value.int .u8))) := fun w' hs => rcode.ext hs.upd
 refine fn (M := none_) (rs := [.cell 2 43, .cell 3 56, .cell 4 56]) Try.func69 rfl Try.ntmps69 rfl rfl (Sep.start _ _) ?_
 refine hSeq ?_
 refine hReg (sl 0 (sl 1 (sl 2 sz))) (by kernel_rfl) ?_
 refine alc Try.zeroValue43 rfl trv1 rfl rfl (fun bka1 hbka1 => ?_)
 refine alc Try.zeroValue56 rfl trv1 rfl rfl (fun bka2 hbka2 => ?_)
 refine alc Try.zeroValue56 rfl trv1 rfl rfl (fun bka3 hbka3 => ?_)
 refine rNil ?_
 refine qSeq rfl ?_
 refine hSeq ?_
 refine hReg (sq 0 (sl 1 (sl 2 (sq 3 (sq 4 (sq 5 (sl 6 (sl 7 (sl 8 sz))))))))) (by kernel_rfl) ?_
 refine mvS rfl rfl rfl ?_
 refine callN (α := Nat) (val := fun x => .pointer (some ⟨x, 0, none⟩)) (good := fun _ => True) (φ := fun x => srcP x ca bs cc) Try.call92 trv1 rfl rfl (fun w hs => (l01From_c ca bs cc w (kcode w (hs.sub (List.nil_sublist _))) hok).mono fun e w1 ⟨v, h0, bk, h1, h2, h3, h4⟩ => ⟨v, h0, bk, h1, trivial, h3, h4⟩) ?_
 rintro bks4 -
 refine callMK (α := Option Addr × Nat × Nat × (Nat → Hd) × List Nd × Option Addr × Nat × Nat × (Nat → Hd) × List (List Int) × Option Addr × Nat × Nat × (Nat → Hd) × List (List Int) × Int × Option Addr × Nat × Nat × (Nat → Hd) × List (List Int) × Int × Option Addr × Nat × Nat × (Nat → Hd) × List (List Int)) (Lf := [srcP bks4 ca bs cc]) (Lr := [blk bka3 56 [.int .i64 0, .slice none 0 0], blk bka2 56 [.int .i64 0, .slice none 0 0], blk bka1 43 [.slice none 0 0, .slice none 0 0, .slice none 0 0]]) (good := fun x => (x.2.1 ≤ 250 ∧ ((1 ≤ x.2.2.2.2.2.2.1 ∧ x.2.2.2.2.2.2.1 ≤ 4) ∧ x.2.2.2.2.2.2.2.2.2.2.2.1 ≤ 4)) ∧ ((-1 ≤ x.2.2.2.2.2.2.2.2.2.2.2.2.2.2.2.1 ∧ x.2.2.2.2.2.2.2.2.2.2.2.2.2.2.2.1 ≤ 2) ∧ x.2.2.2.2.2.2.2.2.2.2.2.2.2.2.2.2.2.1 ≤ 361) ∧ ((0 ≤ x.2.2.2.2.2.2.2.2.2.2.2.2.2.2.2.2.2.2.2.2.2.1 ∧ x.2.2.2.2.2.2.2.2.2.2.2.2.2.2.2.2.2.2.2.2.2.1 ≤ 1) ∧ x.2.2.2.2.2.2.2.2.2.2.2.2.2.2.2.2.2.2.2.2.2.2.2.1 ≤ 361)) (φs := fun x => [srcP bks4 ca bs cc, RdR ndK x.1 x.2.1 x.2.2.2.1 x.2.2.2.2.1, RdR maK x.2.2.2.2.2.1 x.2.2.2.2.2.2.1 x.2.2.2.2.2.2.2.2.1 x.2.2.2.2.2.2.2.2.2.1, RdR maK x.2.2.2.2.2.2.2.2.2.2.1 x.2.2.2.2.2.2.2.2.2.2.2.1 x.2.2.2.2.2.2.2.2.2.2.2.2.2.1 x.2.2.2.2.2.2.2.2.2.2.2.2.2.2.1, OwnR maK 28 2 x.2.2.2.2.2.2.2.2.2.2.2.2.2.2.2.2.1 x.2.2.2.2.2.2.2.2.2.2.2.2.2.2.2.2.2.1 x.2.2.2.2.2.2.2.2.2.2.2.2.2.2.2.2.2.2.1 x.2.2.2.2.2.2.2.2.2.2.2.2.2.2.2.2.2.2.2.1 x.2.2.2.2.2.2.2.2.2.2.2.2.2.2.2.2.2.2.2.2.1, OwnR maK 28 2 x.2.2.2.2.2.2.2.2.2.2.2.2.2.2.2.2.2.2.2.2.2.2.1 x.2.2.2.2.2.2.2.2.2.2.2.2.2.2.2.2.2.2.2.2.2.2.2.1 x.2.2.2.2.2.2.2.2.2.2.2.2.2.2.2.2.2.2.2.2.2.2.2.2.1 x.2.2.2.2.2.2.2.2.2.2.2.2.2.2.2.2.2.2.2.2.2.2.2.2.2.1 x.2.2.2.2.2.2.2.2.2.2.2.2.2.2.2.2.2.2.2.2.2.2.2.2.2.2]) (val := fun x => .tuple #[.agg #[.slice x.1 x.2.1 x.2.2.1, .slice x.2.2.2.2.2.1 x.2.2.2.2.2.2.1 x.2.2.2.2.2.2.2.1, .slice x.2.2.2.2.2.2.2.2.2.2.1 x.2.2.2.2.2.2.2.2.2.2.2.1 x.2.2.2.2.2.2.2.2.2.2.2.2.1], .agg #[.int .i64 x.2.2.2.2.2.2.2.2.2.2.2.2.2.2.2.1, .slice x.2.2.2.2.2.2.2.2.2.2.2.2.2.2.2.2.1 x.2.2.2.2.2.2.2.2.2.2.2.2.2.2.2.2.2.1 x.2.2.2.2.2.2.2.2.2.2.2.2.2.2.2.2.2.2.1], .agg #[.int .i64 x.2.2.2.2.2.2.2.2.2.2.2.2.2.2.2.2.2.2.2.2.2.1, .slice x.2.2.2.2.2.2.2.2.2.2.2.2.2.2.2.2.2.2.2.2.2.2.1 x.2.2.2.2.2.2.2.2.2.2.2.2.2.2.2.2.2.2.2.2.2.2.2.1 x.2.2.2.2.2.2.2.2.2.2.2.2.2.2.2.2.2.2.2.2.2.2.2.2.1]]) rfl Try.call141 trv1 rfl rfl (fun w M1 hs hk => spec_l23Draw_c bks4 ca bs cc  w M1 hs (hk _ kcode) hok ) ?_
 rintro ⟨ay1, ny1, cy1, Hy1, y1, ayw1, nyw1, cyw1, Hyw1, yw1, ayv1, nyv1, cyv1, Hyv1, yv1, pl1, ayp1, nyp1, cyp1, Hyp1, yp1, ql1, ayq1, nyq1, cyq1, Hyq1, yq1⟩ hr1
 try dsimp only at hr1
 refine rPieces (L' := [srcP bks4 ca bs cc, RdR ndK ay1 ny1 Hy1 y1, RdR maK ayw1 nyw1 Hyw1 yw1, RdR maK ayv1 nyv1 Hyv1 yv1, OwnR maK 28 2 ayp1 nyp1 cyp1 Hyp1 yp1, OwnR maK 28 2 ayq1 nyq1 cyq1 Hyq1 yq1, blk bka3 56 [.int .i64 0, .slice none 0 0], blk bka2 56 [.int .i64 0, .slice none 0 0], blk bka1 43 [.slice none 0 0, .slice none 0 0, .slice none 0 0]]) (fun _ h => h) ?_
 refine rKnow (fun w hs => (show RdR ndK ay1 ny1 Hy1 y1 w from hs.at_ 1 rfl).1) (fun lenn5 => ?_)
 refine rKnow (fun w hs => (show RdR maK ayw1 nyw1 Hyw1 yw1 w from hs.at_ 2 rfl).1) (fun lenn6 => ?_)
 refine rKnow (fun w hs => (show RdR maK ayv1 nyv1 Hyv1 yv1 w from hs.at_ 3 rfl).1) (fun lenn7 => ?_)
 refine rKnow (fun w hs => (show OwnR maK 28 2 ayp1 nyp1 cyp1 Hyp1 yp1 w from hs.at_ 4 rfl).1) (fun lenn8 => ?_)
 refine rKnow (fun w hs => (show OwnR maK 28 2 ayq1 nyq1 cyq1 Hyq1 yq1 w from hs.at_ 5 rfl).1) (fun lenn9 => ?_)
 refine ext rfl rfl rfl rfl ?_
 refine ext rfl rfl rfl rfl ?_
 refine ext rfl rfl rfl rfl ?_
 refine stAl (vs := [.slice ay1 ny1 cy1, .slice ayw1 nyw1 cyw1, .slice ayv1 nyv1 cyv1]) 8 rfl Try.sizeOf43 trv rfl rfl rfl rfl rfl (by simp [Value.oneCell']) rfl ?_
 refine stAl (vs := [.int .i64 pl1, .slice ayp1 nyp1 cyp1]) 7 rfl Try.sizeOf56 trv rfl rfl rfl rfl rfl (by simp [Value.oneCell']) rfl ?_
 refine stAl (vs := [.int .i64 ql1, .slice ayq1 nyq1 cyq1]) 6 rfl Try.sizeOf56 trv rfl rfl rfl rfl rfl (by simp [Value.oneCell']) rfl ?_
 refine rNil ?_
 refine qSeq rfl ?_
 refine hRet ?_
 exact fun w hs => ⟨[_, _, _], ⟨⟨_, rfl, run_load_agg Try.isAgg43 Try.sizeOf43 rfl (cBs 8 rfl w hs)⟩, ⟨⟨_, rfl, run_load_agg Try.isAgg56 Try.sizeOf56 rfl (cBs 7 rfl w hs)⟩, ⟨⟨_, rfl, run_load_agg Try.isAgg56 Try.sizeOf56 rfl (cBs 6 rfl w hs)⟩, trivial⟩⟩⟩, ⟨(ay1, ny1, cy1, Hy1, y1, ayw1, nyw1, cyw1, Hyw1, yw1, ayv1, nyv1, cyv1, Hyv1, yv1, pl1, ayp1, nyp1, cyp1, Hyp1, yp1, ql1, ayq1, nyq1, cyq1, Hyq1, yq1), rfl, ⟨by dsimp only; omega, ⟨⟨by dsimp only; omega, by dsimp only; omega⟩, by dsimp only; omega⟩, ⟨⟨by dsimp only; omega, by dsimp only; omega⟩, by dsimp only; omega⟩, ⟨⟨by dsimp only; omega, by dsimp only; omega⟩, by dsimp only; omega⟩⟩, hs.pick [1, 1, 1, 1, 1]⟩⟩
set_option maxHeartbeats 4000000 in
theorem spec_DrawReachNumber_c (ca : Option Addr) (bs : List Int) (cc : Nat) (w : World) (rcode : CellsAt ca (bs.map (Value.int .u8)) w) (hok : okBytes bs) :
  Calls Try.prog 74 #[.slice ca bs.length cc] w (Ret fun v w' => ∃ x : Option Addr × Nat × Nat × (Nat → Hd) × List Nd × Option Addr × Nat × Nat × (Nat → Hd) × List (List Int) × Option Addr × Nat × Nat × (Nat → Hd) × List (List Int) × Int × Option Addr × Nat × Nat × (Nat → Hd) × List (List Int) × Int × Option Addr × Nat × Nat × (Nat → Hd) × List (List Int) × Int, v = .tuple #[.agg #[.slice x.1 x.2.1 x.2.2.1, .slice x.2.2.2.2.2.1 x.2.2.2.2.2.2.1 x.2.2.2.2.2.2.2.1, .slice x.2.2.2.2.2.2.2.2.2.2.1 x.2.2.2.2.2.2.2.2.2.2.2.1 x.2.2.2.2.2.2.2.2.2.2.2.2.1], .agg #[.int .i64 x.2.2.2.2.2.2.2.2.2.2.2.2.2.2.2.1, .slice x.2.2.2.2.2.2.2.2.2.2.2.2.2.2.2.2.1 x.2.2.2.2.2.2.2.2.2.2.2.2.2.2.2.2.2.1 x.2.2.2.2.2.2.2.2.2.2.2.2.2.2.2.2.2.2.1], .agg #[.int .i64 x.2.2.2.2.2.2.2.2.2.2.2.2.2.2.2.2.2.2.2.2.2.1, .slice x.2.2.2.2.2.2.2.2.2.2.2.2.2.2.2.2.2.2.2.2.2.2.1 x.2.2.2.2.2.2.2.2.2.2.2.2.2.2.2.2.2.2.2.2.2.2.2.1 x.2.2.2.2.2.2.2.2.2.2.2.2.2.2.2.2.2.2.2.2.2.2.2.2.1], .int .i64 x.2.2.2.2.2.2.2.2.2.2.2.2.2.2.2.2.2.2.2.2.2.2.2.2.2.2.2] ∧ (x.2.1 ≤ 250 ∧ ((1 ≤ x.2.2.2.2.2.2.1 ∧ x.2.2.2.2.2.2.1 ≤ 4) ∧ x.2.2.2.2.2.2.2.2.2.2.2.1 ≤ 4) ∧ ((-1 ≤ x.2.2.2.2.2.2.2.2.2.2.2.2.2.2.2.1 ∧ x.2.2.2.2.2.2.2.2.2.2.2.2.2.2.2.1 ≤ 2) ∧ x.2.2.2.2.2.2.2.2.2.2.2.2.2.2.2.2.2.1 ≤ 361) ∧ ((0 ≤ x.2.2.2.2.2.2.2.2.2.2.2.2.2.2.2.2.2.2.2.2.2.1 ∧ x.2.2.2.2.2.2.2.2.2.2.2.2.2.2.2.2.2.2.2.2.2.1 ≤ 1) ∧ x.2.2.2.2.2.2.2.2.2.2.2.2.2.2.2.2.2.2.2.2.2.2.2.1 ≤ 361) ∧ (-1 ≤ x.2.2.2.2.2.2.2.2.2.2.2.2.2.2.2.2.2.2.2.2.2.2.2.2.2.2.2 ∧ x.2.2.2.2.2.2.2.2.2.2.2.2.2.2.2.2.2.2.2.2.2.2.2.2.2.2.2 ≤ 300)) ∧ Sep w none_ [RdR ndK x.1 x.2.1 x.2.2.2.1 x.2.2.2.2.1, RdR maK x.2.2.2.2.2.1 x.2.2.2.2.2.2.1 x.2.2.2.2.2.2.2.2.1 x.2.2.2.2.2.2.2.2.2.1, RdR maK x.2.2.2.2.2.2.2.2.2.2.1 x.2.2.2.2.2.2.2.2.2.2.2.1 x.2.2.2.2.2.2.2.2.2.2.2.2.2.1 x.2.2.2.2.2.2.2.2.2.2.2.2.2.2.1, OwnR maK 28 2 x.2.2.2.2.2.2.2.2.2.2.2.2.2.2.2.2.1 x.2.2.2.2.2.2.2.2.2.2.2.2.2.2.2.2.2.1 x.2.2.2.2.2.2.2.2.2.2.2.2.2.2.2.2.2.2.1 x.2.2.2.2.2.2.2.2.2.2.2.2.2.2.2.2.2.2.2.1 x.2.2.2.2.2.2.2.2.2.2.2.2.2.2.2.2.2.2.2.2.1, OwnR maK 28 2 x.2.2.2.2.2.2.2.2.2.2.2.2.2.2.2.2.2.2.2.2.2.2.1 x.2.2.2.2.2.2.2.2.2.2.2.2.2.2.2.2.2.2.2.2.2.2.2.1 x.2.2.2.2.2.2.2.2.2.2.2.2.2.2.2.2.2.2.2.2.2.2.2.2.1 x.2.2.2.2.2.2.2.2.2.2.2.2.2.2.2.2.2.2.2.2.2.2.2.2.2.1 x.2.2.2.2.2.2.2.2.2.2.2.2.2.2.2.2.2.2.2.2.2.2.2.2.2.2.1] w') := by
 have kcode : Kn w none_ [] (CellsAt ca (bs.map (Value.int .u8))) := fun w' hs => rcode.ext hs.upd
 refine fn (M := none_) (rs := [.cell 2 43, .cell 3 56, .cell 4 56, .tmp 5]) Try.func74 rfl Try.ntmps74 rfl rfl (Sep.start _ _) ?_
 refine hSeq ?_
 refine hReg (sl 0 (sl 1 (sl 2 (sq 3 sz)))) (by kernel_rfl) ?_
 refine alc Try.zeroValue43 rfl trv1 rfl rfl (fun bka1 hbka1 => ?_)
 refine alc Try.zeroValue56 rfl trv1 rfl rfl (fun bka2 hbka2 => ?_)
 refine alc Try.zeroValue56 rfl trv1 rfl rfl (fun bka3 hbka3 => ?_)
 refine asI rfl rfl rfl ?_
 refine rNil ?_
 refine qSeq rfl ?_
 refine hSeq ?_
 refine hReg (sq 0 (sl 1 (sq 2 sz))) (by kernel_rfl) ?_
 refine mvS rfl rfl rfl ?_
 refine callN (α := Nat) (val := fun x => .pointer (some ⟨x, 0, none⟩)) (good := fun _ => True) (φ := fun x => srcP x ca bs cc) Try.call92 trv1 rfl rfl (fun w hs => (l01From_c ca bs cc w (kcode w (hs.sub (List.nil_sublist _))) hok).mono fun e w1 ⟨v, h0, bk, h1, h2, h3, h4⟩ => ⟨v, h0, bk, h1, trivial, h3, h4⟩) ?_
 rintro bks4 -
 refine asn rfl rfl rfl ?_
 refine rNil ?_
 refine qSeq rfl ?_
 refine hSeq ?_
 refine hReg (sq 0 (sl 1 (sq 2 (sq 3 (sq 4 (sq 5 (sl 6 (sl 7 (sl 8 (sl 9 (sl 10 (sl 11 sz)))))))))))) (by kernel_rfl) ?_
 refine mvP rfl rfl rfl ?_
 refine callMK (α := Option Addr × Nat × Nat × (Nat → Hd) × List Nd × Option Addr × Nat × Nat × (Nat → Hd) × List (List Int) × Option Addr × Nat × Nat × (Nat → Hd) × List (List Int) × Int × Option Addr × Nat × Nat × (Nat → Hd) × List (List Int) × Int × Option Addr × Nat × Nat × (Nat → Hd) × List (List Int)) (Lf := [srcP bks4 ca bs cc]) (Lr := [blk bka3 56 [.int .i64 0, .slice none 0 0], blk bka2 56 [.int .i64 0, .slice none 0 0], blk bka1 43 [.slice none 0 0, .slice none 0 0, .slice none 0 0]]) (good := fun x => (x.2.1 ≤ 250 ∧ ((1 ≤ x.2.2.2.2.2.2.1 ∧ x.2.2.2.2.2.2.1 ≤ 4) ∧ x.2.2.2.2.2.2.2.2.2.2.2.1 ≤ 4)) ∧ ((-1 ≤ x.2.2.2.2.2.2.2.2.2.2.2.2.2.2.2.1 ∧ x.2.2.2.2.2.2.2.2.2.2.2.2.2.2.2.1 ≤ 2) ∧ x.2.2.2.2.2.2.2.2.2.2.2.2.2.2.2.2.2.1 ≤ 361) ∧ ((0 ≤ x.2.2.2.2.2.2.2.2.2.2.2.2.2.2.2.2.2.2.2.2.2.1 ∧ x.2.2.2.2.2.2.2.2.2.2.2.2.2.2.2.2.2.2.2.2.2.1 ≤ 1) ∧ x.2.2.2.2.2.2.2.2.2.2.2.2.2.2.2.2.2.2.2.2.2.2.2.1 ≤ 361)) (φs := fun x => [srcP bks4 ca bs cc, RdR ndK x.1 x.2.1 x.2.2.2.1 x.2.2.2.2.1, RdR maK x.2.2.2.2.2.1 x.2.2.2.2.2.2.1 x.2.2.2.2.2.2.2.2.1 x.2.2.2.2.2.2.2.2.2.1, RdR maK x.2.2.2.2.2.2.2.2.2.2.1 x.2.2.2.2.2.2.2.2.2.2.2.1 x.2.2.2.2.2.2.2.2.2.2.2.2.2.1 x.2.2.2.2.2.2.2.2.2.2.2.2.2.2.1, OwnR maK 28 2 x.2.2.2.2.2.2.2.2.2.2.2.2.2.2.2.2.1 x.2.2.2.2.2.2.2.2.2.2.2.2.2.2.2.2.2.1 x.2.2.2.2.2.2.2.2.2.2.2.2.2.2.2.2.2.2.1 x.2.2.2.2.2.2.2.2.2.2.2.2.2.2.2.2.2.2.2.1 x.2.2.2.2.2.2.2.2.2.2.2.2.2.2.2.2.2.2.2.2.1, OwnR maK 28 2 x.2.2.2.2.2.2.2.2.2.2.2.2.2.2.2.2.2.2.2.2.2.2.1 x.2.2.2.2.2.2.2.2.2.2.2.2.2.2.2.2.2.2.2.2.2.2.2.1 x.2.2.2.2.2.2.2.2.2.2.2.2.2.2.2.2.2.2.2.2.2.2.2.2.1 x.2.2.2.2.2.2.2.2.2.2.2.2.2.2.2.2.2.2.2.2.2.2.2.2.2.1 x.2.2.2.2.2.2.2.2.2.2.2.2.2.2.2.2.2.2.2.2.2.2.2.2.2.2]) (val := fun x => .tuple #[.agg #[.slice x.1 x.2.1 x.2.2.1, .slice x.2.2.2.2.2.1 x.2.2.2.2.2.2.1 x.2.2.2.2.2.2.2.1, .slice x.2.2.2.2.2.2.2.2.2.2.1 x.2.2.2.2.2.2.2.2.2.2.2.1 x.2.2.2.2.2.2.2.2.2.2.2.2.1], .agg #[.int .i64 x.2.2.2.2.2.2.2.2.2.2.2.2.2.2.2.1, .slice x.2.2.2.2.2.2.2.2.2.2.2.2.2.2.2.2.1 x.2.2.2.2.2.2.2.2.2.2.2.2.2.2.2.2.2.1 x.2.2.2.2.2.2.2.2.2.2.2.2.2.2.2.2.2.2.1], .agg #[.int .i64 x.2.2.2.2.2.2.2.2.2.2.2.2.2.2.2.2.2.2.2.2.2.1, .slice x.2.2.2.2.2.2.2.2.2.2.2.2.2.2.2.2.2.2.2.2.2.2.1 x.2.2.2.2.2.2.2.2.2.2.2.2.2.2.2.2.2.2.2.2.2.2.2.1 x.2.2.2.2.2.2.2.2.2.2.2.2.2.2.2.2.2.2.2.2.2.2.2.2.1]]) rfl Try.call141 trv1 rfl rfl (fun w M1 hs hk => spec_l23Draw_c bks4 ca bs cc  w M1 hs (hk _ kcode) hok ) ?_
 rintro ⟨ay1, ny1, cy1, Hy1, y1, ayw1, nyw1, cyw1, Hyw1, yw1, ayv1, nyv1, cyv1, Hyv1, yv1, pl1, ayp1, nyp1, cyp1, Hyp1, yp1, ql1, ayq1, nyq1, cyq1, Hyq1, yq1⟩ hr1
 try dsimp only at hr1
 refine rPieces (L' := [srcP bks4 ca bs cc, RdR ndK ay1 ny1 Hy1 y1, RdR maK ayw1 nyw1 Hyw1 yw1, RdR maK ayv1 nyv1 Hyv1 yv1, OwnR maK 28 2 ayp1 nyp1 cyp1 Hyp1 yp1, OwnR maK 28 2 ayq1 nyq1 cyq1 Hyq1 yq1, blk bka3 56 [.int .i64 0, .slice none 0 0], blk bka2 56 [.int .i64 0, .slice none 0 0], blk bka1 43 [.slice none 0 0, .slice none 0 0, .slice none 0 0]]) (fun _ h => h) ?_
 refine rKnow (fun w hs => (show RdR ndK ay1 ny1 Hy1 y1 w from hs.at_ 1 rfl).1) (fun lenn5 => ?_)
 refine rKnow (fun w hs => (show RdR maK ayw1 nyw1 Hyw1 yw1 w from hs.at_ 2 rfl).1) (fun lenn6 => ?_)
 refine rKnow (fun w hs => (show RdR maK ayv1 nyv1 Hyv1 yv1 w from hs.at_ 3 rfl).1) (fun lenn7 => ?_)
 refine rKnow (fun w hs => (show OwnR maK 28 2 ayp1 nyp1 cyp1 Hyp1 yp1 w from hs.at_ 4 rfl).1) (fun lenn8 => ?_)
 refine rKnow (fun w hs => (show OwnR maK 28 2 ayq1 nyq1 cyq1 Hyq1 yq1 w from hs.at_ 5 rfl).1) (fun lenn9 => ?_)
 refine mv rfl rfl rfl ?_
 refine ext rfl rfl rfl rfl ?_
 refine ext rfl rfl rfl rfl ?_
 refine ext rfl rfl rfl rfl ?_
 refine alc Try.zeroValue43 rfl trv1 rfl rfl (fun bka10 hbka10 => ?_)
 refine alc Try.zeroValue56 rfl trv1 rfl rfl (fun bka11 hbka11 => ?_)
 refine alc Try.zeroValue56 rfl trv1 rfl rfl (fun bka12 hbka12 => ?_)
 refine stAl (vs := [.slice ay1 ny1 cy1, .slice ayw1 nyw1 cyw1, .slice ayv1 nyv1 cyv1]) 2 rfl Try.sizeOf43 trv rfl rfl rfl rfl rfl (by simp [Value.oneCell']) rfl ?_
 refine stAl (vs := [.int .i64 pl1, .slice ayp1 nyp1 cyp1]) 1 rfl Try.sizeOf56 trv rfl rfl rfl rfl rfl (by simp [Value.oneCell']) rfl ?_
 refine stAl (vs := [.int .i64 ql1, .slice ayq1 nyq1 cyq1]) 0 rfl Try.sizeOf56 trv rfl rfl rfl rfl rfl (by simp [Value.oneCell']) rfl ?_
 refine rNil ?_
 refine qSeq rfl ?_
 refine hSeq ?_
 refine hDraw (Ls := [blk bka12 56 [.int .i64 ql1, .slice ayq1 nyq1 cyq1], blk bka11 56 [.int .i64 pl1, .slice ayp1 nyp1 cyp1], blk bka10 43 [.slice ay1 ny1 cy1, .slice ayw1 nyw1 cyw1, .slice ayv1 nyv1 cyv1]]) (by kernel_rfl) (sq 0 (sq 1 (sq 2 (sq 3 (sq 4 (sq 5 (sq 6 (sq 7 (sq 8 (sq 10 (sl 9 (sl 11 (sq 12 (sq 13 (sl 14 (sl 15 (sl 16 (sq 17 sz)))))))))))))))))) (by kernel_rfl) (.cons_cons _ (.cons_cons _ (.cons_cons _ (.cons _ (.cons _ (.cons _ (.cons _ (.cons _ (.cons _ (.cons _ (.cons _ (.cons _ .slnil)))))))))))) ?_
 refine ldAq Try.isAgg43 Try.sizeOf43 (cBs 2 rfl) rfl rfl rfl rfl ?_
 refine ldAq Try.isAgg56 Try.sizeOf56 (cBs 1 rfl) rfl rfl rfl rfl ?_
 refine ldAq Try.isAgg56 Try.sizeOf56 (cBs 0 rfl) rfl rfl rfl rfl ?_
 refine mvP rfl rfl rfl ?_
 refine fld fl43_0 rfl rfl rfl ?_
 refine fld fl26_0 rfl rfl rfl ?_
 refine ldq Try.isAgg24 (cB 2 rfl rfl) rfl rfl rfl ?_
 refine lenS Try.runUnderlying24 rfl rfl rfl ?_
 refine add rfl rfl rfl rfl (by omega) ?_
 refine mvP rfl rfl rfl ?_
 refine rPieces (L' := [srcP bks4 ca bs cc, blk bka12 56 [.int .i64 ql1, .slice ayq1 nyq1 cyq1], blk bka11 56 [.int .i64 pl1, .slice ayp1 nyp1 cyp1], blk bka10 43 [.slice ay1 ny1 cy1, .slice ayw1 nyw1 cyw1, .slice ayv1 nyv1 cyv1], RdR ndK ay1 ny1 Hy1 y1, RdR maK ayw1 nyw1 Hyw1 yw1, RdR maK ayv1 nyv1 Hyv1 yv1, OwnR maK 28 2 ayp1 nyp1 cyp1 Hyp1 yp1, OwnR maK 28 2 ayq1 nyq1 cyq1 Hyq1 yq1, blk bka3 56 [.int .i64 0, .slice none 0 0], blk bka2 56 [.int .i64 0, .slice none 0 0], blk bka1 43 [.slice none 0 0, .slice none 0 0, .slice none 0 0]]) (fun _ h => h.perm (pull (i := 3) rfl)) ?_
 refine callMK (α := Int) (Lf := [srcP bks4 ca bs cc]) (Lr := [blk bka12 56 [.int .i64 ql1, .slice ayq1 nyq1 cyq1], blk bka11 56 [.int .i64 pl1, .slice ayp1 nyp1 cyp1], blk bka10 43 [.slice ay1 ny1 cy1, .slice ayw1 nyw1 cyw1, .slice ayv1 nyv1 cyv1], RdR ndK ay1 ny1 Hy1 y1, RdR maK ayw1 nyw1 Hyw1 yw1, RdR maK ayv1 nyv1 Hyv1 yv1, OwnR maK 28 2 ayp1 nyp1 cyp1 Hyp1 yp1, OwnR maK 28 2 ayq1 nyq1 cyq1 Hyq1 yq1, blk bka3 56 [.int .i64 0, .slice none 0 0], blk bka2 56 [.int .i64 0, .slice none 0 0], blk bka1 43 [.slice none 0 0, .slice none 0 0, .slice none 0 0]]) (good := fun x => 0 ≤ x ∧ (x < (((ny1 : Int) + 1)) ∨ x = 0)) (φs := fun x => [srcP bks4 ca bs cc]) (val := fun x => .int .i64 x) rfl Try.call95 (by exact (fun _ _ h => h.pick [1, 1, 1])) rfl rfl (fun w M1 hs hk => src_next bks4 ca bs cc (((ny1 : Int) + 1)) w M1 hs (hk _ kcode) hok) ?_
 intro x2 hx2
 try dsimp only at hx2
 refine rPieces (L' := [srcP bks4 ca bs cc, blk bka12 56 [.int .i64 ql1, .slice ayq1 nyq1 cyq1], blk bka11 56 [.int .i64 pl1, .slice ayp1 nyp1 cyp1], blk bka10 43 [.slice ay1 ny1 cy1, .slice ayw1 nyw1 cyw1, .slice ayv1 nyv1 cyv1], RdR ndK ay1 ny1 Hy1 y1, RdR maK ayw1 nyw1 Hyw1 yw1, RdR maK ayv1 nyv1 Hyv1 yv1, OwnR maK 28 2 ayp1 nyp1 cyp1 Hyp1 yp1, OwnR maK 28 2 ayq1 nyq1 cyq1 Hyq1 yq1, blk bka3 56 [.int .i64 0, .slice none 0 0], blk bka2 56 [.int .i64 0, .slice none 0 0], blk bka1 43 [.slice none 0 0, .slice none 0 0, .slice none 0 0]]) (fun _ h => h) ?_
 refine callMK (α := Int) (Lf := [srcP bks4 ca bs cc]) (Lr := [blk bka12 56 [.int .i64 ql1, .slice ayq1 nyq1 cyq1], blk bka11 56 [.int .i64 pl1, .slice ayp1 nyp1 cyp1], blk bka10 43 [.slice ay1 ny1 cy1, .slice ayw1 nyw1 cyw1, .slice ayv1 nyv1 cyv1], RdR ndK ay1 ny1 Hy1 y1, RdR maK ayw1 nyw1 Hyw1 yw1, RdR maK ayv1 nyv1 Hyv1 yv1, OwnR maK 28 2 ayp1 nyp1 cyp1 Hyp1 yp1, OwnR maK 28 2 ayq1 nyq1 cyq1 Hyq1 yq1, blk bka3 56 [.int .i64 0, .slice none 0 0], blk bka2 56 [.int .i64 0, .slice none 0 0], blk bka1 43 [.slice none 0 0, .slice none 0 0, .slice none 0 0]]) (good := fun x => 0 ≤ x ∧ (x < (20 : Int) ∨ x = 0)) (φs := fun x => [srcP bks4 ca bs cc]) (val := fun x => .int .i64 x) rfl Try.call95 (by exact (fun _ _ h => h.pick [1, 1, 1])) rfl rfl (fun w M1 hs hk => src_next bks4 ca bs cc (20 : Int) w M1 hs (hk _ kcode) hok) ?_
 intro x3 hx3
 replace hx3 : 0 ≤ x3 ∧ x3 < (20 : Int) := by omega
 try dsimp only at hx3
 refine rPieces (L' := [srcP bks4 ca bs cc, blk bka12 56 [.int .i64 ql1, .slice ayq1 nyq1 cyq1], blk bka11 56 [.int .i64 pl1, .slice ayp1 nyp1 cyp1], blk bka10 43 [.slice ay1 ny1 cy1, .slice ayw1 nyw1 cyw1, .slice ayv1 nyv1 cyv1], RdR ndK ay1 ny1 Hy1 y1, RdR maK ayw1 nyw1 Hyw1 yw1, RdR maK ayv1 nyv1 Hyv1 yv1, OwnR maK 28 2 ayp1 nyp1 cyp1 Hyp1 yp1, OwnR maK 28 2 ayq1 nyq1 cyq1 Hyq1 yq1, blk bka3 56 [.int .i64 0, .slice none 0 0], blk bka2 56 [.int .i64 0, .slice none 0 0], blk bka1 43 [.slice none 0 0, .slice none 0 0, .slice none 0 0]]) (fun _ h => h) ?_
 refine quo rfl rfl rfl rfl (by omega) ?_
 refine sub rfl rfl rfl rfl (by omega) ?_
 refine stAl (vs := [.slice ay1 ny1 cy1, .slice ayw1 nyw1 cyw1, .slice ayv1 nyv1 cyv1]) 11 rfl Try.sizeOf43 (fun _ h => h.pick [1, 1, 1]) rfl rfl rfl rfl rfl (by simp [Value.oneCell']) rfl ?_
 refine stAl (vs := [.int .i64 pl1, .slice ayp1 nyp1 cyp1]) 10 rfl Try.sizeOf56 (fun _ h => h.pick [1, 1, 1]) rfl rfl rfl rfl rfl (by simp [Value.oneCell']) rfl ?_
 refine stAl (vs := [.int .i64 ql1, .slice ayq1 nyq1 cyq1]) 9 rfl Try.sizeOf56 (fun _ h => h.pick [1, 1, 1]) rfl rfl rfl rfl rfl (by simp [Value.oneCell']) rfl ?_
 refine asI rfl rfl rfl ?_
 refine rNil ?_
 refine qSeq rfl ?_
 refine hRet ?_
 exact fun w hs => ⟨[_, _, _, .int .i64 ((x2 - (x3 / 19)))], ⟨⟨_, rfl, run_load_agg Try.isAgg43 Try.sizeOf43 rfl (cBs 11 rfl w hs)⟩, ⟨⟨_, rfl, run_load_agg Try.isAgg56 Try.sizeOf56 rfl (cBs 10 rfl w hs)⟩, ⟨⟨_, rfl, run_load_agg Try.isAgg56 Try.sizeOf56 rfl (cBs 9 rfl w hs)⟩, ⟨rfl, trivial⟩⟩⟩⟩, ⟨(ay1, ny1, cy1, Hy1, y1, ayw1, nyw1, cyw1, Hyw1, yw1, ayv1, nyv1, cyv1, Hyv1, yv1, pl1, ayp1, nyp1, cyp1, Hyp1, yp1, ql1, ayq1, nyq1, cyq1, Hyq1, yq1, (x2 - (x3 / 19))), rfl, ⟨by dsimp only; omega, ⟨⟨by dsimp only; omega, by dsimp only; omega⟩, by dsimp only; omega⟩, ⟨⟨by dsimp only; omega, by dsimp only; omega⟩, by dsimp only; omega⟩, ⟨⟨by dsimp only; omega, by dsimp only; omega⟩, by dsimp only; omega⟩, ⟨by dsimp only; omega, by dsimp only; omega⟩⟩, hs.pick [4, 4, 4, 4, 4]⟩⟩
end Go.Proofs.Ytjengglpbdgmnaa
/- Plain facts on ways in trees. No condition. -/
namespace Go.Proofs.Ytjengglpbdgmnaa.Math
open Go.Proofs.Ytjengglpbdgmnaa.V
set_option linter.unusedVariables false
set_option linter.unusedSimpArgs false
/-- The places that lead to a node. -/
inductive Way (z : List Nd) : Int → List Int → Prop
  | root : Way z 0 []
  | step {i : Nat} {n : Int} {l : List Int} : (i : Int) < n → i < z.length → n ∈ (z.getD i dN).ch → Way z (i : Int) l → Way z n (l ++ [indexOf (z.getD i dN).ch n])
noncomputable def wayOf (z : List Nd) (n : Int) : List Int := open Classical in if h : ∃ l, Way z n l then Classical.choose h else []
theorem kids_mem {z : List Nd} {i : Nat} {n : Int} (hi : i < z.length) (h : n ∈ (z.getD i dN).ch) : n ∈ kids z := by
  unfold kids; exact List.mem_flatMap.2 ⟨_, getD_mem dN hi, h⟩
theorem kids_app (a b : List Nd) : kids (a ++ b) = kids a ++ kids b := by unfold kids; exact List.flatMap_append
/-- Only one node leads to a node. -/
theorem one_parent {z : List Nd} (h1 : oneEach z = true) {n : Int} (hn : 1 ≤ n ∧ n < z.length) {i j : Nat} (hi : i < z.length) (hj : j < z.length) (h : n ∈ (z.getD i dN).ch) (h' : n ∈ (z.getD j dN).ch) : i = j := by
  have hc := oneEach_iff.1 h1 n.toNat (by omega) (by omega)
  rw [show ((n.toNat : Nat) : Int) = n from by omega] at hc
  have key : ∀ a b : Nat, a < b → b < z.length → n ∈ (z.getD a dN).ch → n ∈ (z.getD b dN).ch → False := by
    intro a b hab hb ha hb'
    have hs : kids z = kids (z.take b) ++ kids (z.drop b) := by rw [← kids_app, List.take_append_drop]
    have m1 : n ∈ kids (z.take b) := by
      refine kids_mem (i := a) (by rw [List.length_take]; omega) ?_
      have : (z.take b).getD a dN = z.getD a dN := by simp [List.getD, List.getElem?_take, hab]
      rw [this]; exact ha
    have m2 : n ∈ kids (z.drop b) := by
      refine kids_mem (i := 0) (by rw [List.length_drop]; omega) ?_
      have : (z.drop b).getD 0 dN = z.getD b dN := by simp [List.getD, List.getElem?_drop]
      rw [this]; exact hb'
    have c1 := List.count_pos_iff.2 m1
    have c2 := List.count_pos_iff.2 m2
    rw [hs, List.count_append] at hc
    omega
  rcases Nat.lt_trichotomy i j with hlt | he | hlt
  · exact (key i j hlt hj h h').elim
  · exact he
  · exact (key j i hlt hi h' h).elim
theorem parent_ex {z : List Nd} (hok : allOk z = true) (h1 : oneEach z = true) {n : Int} (hn : 1 ≤ n ∧ n < z.length) : ∃ i : Nat, (i : Int) < n ∧ i < z.length ∧ n ∈ (z.getD i dN).ch := by
  have hc := oneEach_iff.1 h1 n.toNat (by omega) (by omega)
  rw [show ((n.toNat : Nat) : Int) = n from by omega] at hc
  have hm : n ∈ kids z := List.count_pos_iff.1 (by omega)
  unfold kids at hm
  obtain ⟨x, hx, hnx⟩ := List.mem_flatMap.1 hm
  obtain ⟨i, hi, hxi⟩ := List.getElem_of_mem hx
  have hg : z.getD i dN = x := by simp [List.getD, List.getElem?_eq_getElem hi, hxi]
  rw [← hg] at hnx
  have := ok_kid (allOk_iff.1 hok i hi) hnx
  exact ⟨i, by omega, hi, hnx⟩
theorem Way.len {z : List Nd} {n : Int} {l : List Int} (h : Way z n l) : 0 ≤ n ∧ (l.length : Int) ≤ n := by
  induction h with
  | root => exact ⟨Int.le_refl _, Int.le_refl _⟩
  | step h1 h2 h3 h4 ih => rw [List.length_append, List.length_singleton]; omega
theorem Way.one {z : List Nd} (h1 : oneEach z = true) {n : Int} {l : List Int} (h : Way z n l) : n < z.length → ∀ l', Way z n l' → l = l' := by
  induction h with
  | root =>
    intro _ l' h'
    cases h' with
    | root => rfl
    | step ha hb hc hd => omega
  | @step i n l ha hb hc hd ih =>
    intro hn l' h'
    cases h' with
    | root => omega
    | @step j _ l2 ha' hb' hc' hd' =>
      have : i = j := one_parent h1 ⟨by omega, hn⟩ hb hb' hc hc'
      subst this
      rw [ih (by omega) l2 hd']
theorem wayOf_eq {z : List Nd} (h1 : oneEach z = true) {n : Int} (hn : n < z.length) {l : List Int} (h : Way z n l) : l = wayOf z n := by
  have hex : ∃ l, Way z n l := ⟨l, h⟩
  unfold wayOf; rw [dif_pos hex]
  exact h.one h1 hn _ (Classical.choose_spec hex)
theorem wayOf_ex {z : List Nd} (hok : allOk z = true) (h1 : oneEach z = true) : ∀ (k : Nat) (n : Int), n.toNat = k → 0 ≤ n → n < z.length → ∃ l, Way z n l := by
  intro k
  induction k using Nat.strongRecOn with
  | _ k ih =>
    intro n hk h0 hn
    by_cases hz : n = 0
    · subst hz; exact ⟨[], .root⟩
    · obtain ⟨i, hi1, hi2, hi3⟩ := parent_ex hok h1 ⟨by omega, hn⟩
      obtain ⟨l, hl⟩ := ih i (by omega) (i : Int) (by omega) (by omega) (by omega)
      exact ⟨_, .step hi1 hi2 hi3 hl⟩
theorem wayOf_way {z : List Nd} (hok : allOk z = true) (h1 : oneEach z = true) {n : Int} (h0 : 0 ≤ n) (hn : n < z.length) : Way z n (wayOf z n) := by
  obtain ⟨l, hl⟩ := wayOf_ex hok h1 _ n rfl h0 hn
  rw [← wayOf_eq h1 hn hl]; exact hl
theorem indexOf_mem {l : List Int} {v : Int} (h : 0 ≤ indexOf l v) : v ∈ l := by
  refine Classical.byContradiction fun hn => ?_
  rw [indexOf_no (fun j hj e => hn (by rw [← e]; exact getD_mem 0 hj))] at h
  omega
theorem indexOf_nmem {l : List Int} {v : Int} (h : ¬ 0 ≤ indexOf l v) : ¬ v ∈ l := by
  intro hm
  have hex : ∃ i : Nat, i < l.length ∧ l.getD i 0 = v := by
    obtain ⟨i, hi, he⟩ := List.getElem_of_mem hm
    exact ⟨i, hi, by simp [List.getD, List.getElem?_eq_getElem hi, he]⟩
  have : ∀ k : Nat, ∀ i, i = k → i < l.length → l.getD i 0 = v → 0 ≤ indexOf l v := by
    intro k
    induction k using Nat.strongRecOn with
    | _ k ih =>
      intro i hik hi hv
      subst hik
      by_cases hf : ∀ j, j < i → l.getD j 0 ≠ v
      · rw [indexOf_yes hi hv hf]; omega
      · obtain ⟨j, hf⟩ := Classical.not_forall.1 hf
        obtain ⟨hj, hjv⟩ := Classical.not_imp.1 hf
        replace hjv := Classical.not_not.1 hjv
        exact ih j hj j rfl (by omega) hjv
  obtain ⟨i, hi, hv⟩ := hex
  exact h (this i i rfl hi hv)
theorem indexOf_le {l : List Int} {v : Int} : -1 ≤ indexOf l v ∧ indexOf l v < l.length := by
  by_cases h : 0 ≤ indexOf l v
  · unfold indexOf at h ⊢
    split
    · rename_i hx; have := (Classical.choose_spec hx).1; omega
    · omega
  · have : indexOf l v = -1 := by
      refine indexOf_no fun j hj e => indexOf_nmem h (by rw [← e]; exact getD_mem 0 hj)
    omega
noncomputable def wayAt (z : List Nd) (n : Int) : List Int × Int := if isTree z = true then if 0 ≤ n ∧ n ≤ (z.length : Int) - 1 then (wayOf z n, 0) else ([], 2) else ([], 1)
theorem wayAt_len (z : List Nd) (n : Int) : (wayAt z n).1.length ≤ 60 := by
  unfold wayAt; split
  · rename_i h; have ht := isTree_ok h
    split
    · have := (wayOf_way ht.2.1 ht.2.2.1 (n := n) (by omega) (by omega)).len
      dsimp only; omega
    · exact Nat.zero_le _
  · exact Nat.zero_le _
/-- A list turned around up to a place. -/
def RevTo (z c : List Int) (i : Nat) : Prop := c.length = z.length ∧ ∀ k, k < z.length → c.getD k 0 = if k < i ∨ z.length ≤ k + i then z.getD (z.length - 1 - k) 0 else z.getD k 0
theorem getD_set {l : List Int} {i k : Nat} {v : Int} (h : k < l.length) : (l.set i v).getD k 0 = if i = k then v else l.getD k 0 := by
  simp only [List.getD, List.getElem?_set]
  split
  · rename_i he; subst he; simp [h]
  · rfl
theorem way_up {z : List Nd} {i n : Int} {l : List Int} (h0 : 0 ≤ i) (h1 : i < n) (h2 : i < z.length) (h3 : 0 ≤ indexOf (z.getD i.toNat dN).ch n) (hl : Way z i l) : Way z n (l ++ [indexOf (z.getD i.toNat dN).ch n]) :=
  .step (i := i.toNat) (by omega) (by omega) (indexOf_mem h3) (by rw [show ((i.toNat : Nat) : Int) = i from by omega]; exact hl)
theorem way_found {z : List Nd} (ht : isTree z = true) {i k : Nat} {u : Int} (hi : (i : Int) < u) (hu : u < z.length) (hk : k < (z.getD i dN).ch.length) (hv : (z.getD i dN).ch.getD k 0 = u) (hf : ∀ q, q < k → (z.getD i dN).ch.getD q 0 ≠ u) : wayOf z (i : Int) ++ [(k : Int)] = wayOf z u := by
  have h := isTree_ok ht
  refine wayOf_eq h.2.2.1 hu ?_
  rw [← indexOf_yes hk hv hf]
  exact .step hi (by omega) (by rw [← hv]; exact getD_mem 0 hk) (wayOf_way h.2.1 h.2.2.1 (by omega) (by omega))
theorem wayOf_0 {z : List Nd} (ht : isTree z = true) : wayOf z 0 = [] := by
  have h := isTree_ok ht
  exact (wayOf_eq h.2.2.1 (by omega) .root).symm
theorem no_way {z : List Nd} (ht : isTree z = true) {i : Nat} {u : Int} (hi : u ≤ i) (hu : 1 ≤ u ∧ u < z.length) (hal : ∀ j, j < i → ¬ u ∈ (z.getD j dN).ch) : False := by
  have h := isTree_ok ht
  obtain ⟨j, hj1, hj2, hj3⟩ := parent_ex h.2.1 h.2.2.1 hu
  exact hal j (by omega) hj3
theorem not_kid {l : List Int} {u : Int} (h : ∀ q, q < l.length → l.getD q 0 ≠ u) : ¬ u ∈ l := fun hm => by
  obtain ⟨i, hi, he⟩ := List.getElem_of_mem hm
  exact h i hi (by simp [List.getD, List.getElem?_eq_getElem hi, he])
theorem wayAt_yes {z : List Nd} {n : Nat} {u : Int} (hl : z.length = n) (h : isTree z = true) (hu : 0 ≤ u ∧ u ≤ (n : Int) - 1) : wayAt z u = (wayOf z u, 0) := by
  subst hl; unfold wayAt; rw [if_pos h, if_pos hu]
end Go.Proofs.Ytjengglpbdgmnaa.Math
/- Plain facts on values of games. No condition. -/
namespace Go.Proofs.Ytjengglpbdgmnaa.Math
open Go.Proofs.Ytjengglpbdgmnaa.V
set_option linter.unusedVariables false
set_option linter.unusedSimpArgs false
theorem mapR_suc (f : Nat → Int) (k : Nat) : (mapR f (k + 1)).sum = (mapR f k).sum + f k := by
  rw [← mapR_snoc, List.sum_append]; simp
/-- How many nodes of a player stand ahead of a node. -/
def rank (z : List Nd) (p : Int) (i : Nat) : Nat := (nodesTo z p i).length
theorem nodesTo_app (z : List Nd) (p : Int) (k : Nat) : ∀ d, ∃ r, nodesTo z p (k + d) = nodesTo z p k ++ r
  | 0 => ⟨[], by simp⟩
  | d + 1 => by
    obtain ⟨r, hr⟩ := nodesTo_app z p k d
    by_cases h : (z.getD (k + d) dN).pl = p
    · exact ⟨r ++ [((k + d : Nat) : Int)], by rw [← Nat.add_assoc, nodesTo_yes h, hr, List.append_assoc]⟩
    · exact ⟨r, by rw [← Nat.add_assoc, nodesTo_no h, hr]⟩
theorem rank_node {z : List Nd} {p : Int} {i : Nat} (hi : i < z.length) (h : (z.getD i dN).pl = p) : rank z p i < (nodesOf z p).length ∧ (nodesOf z p).getD (rank z p i) 0 = (i : Int) := by
  obtain ⟨r, hr⟩ := nodesTo_app z p (i + 1) (z.length - (i + 1))
  rw [show i + 1 + (z.length - (i + 1)) = z.length from by omega, nodesTo_all rfl rfl, nodesTo_yes h] at hr
  rw [hr]; unfold rank
  refine ⟨by simp, ?_⟩
  simp [List.getD]
theorem nodes_lt (z : List Nd) (p : Int) {i j : Nat} (hij : i < j) (hj : j < (nodesOf z p).length) : (nodesOf z p).getD i 0 < (nodesOf z p).getD j 0 := by
  have hp : (nodesOf z p).Pairwise (· < ·) := by
    unfold nodesOf
    refine List.Pairwise.map _ (fun a b h => ?_) (List.Pairwise.filter _ List.pairwise_lt_range)
    exact Int.ofNat_lt.2 h
  have := List.pairwise_iff_getElem.1 hp i j (by omega) hj hij
  simpa [List.getD, List.getElem?_eq_getElem hj, List.getElem?_eq_getElem (show i < (nodesOf z p).length by omega)] using this
theorem nodes_inj (z : List Nd) (p : Int) {i j : Nat} (hi : i < (nodesOf z p).length) (hj : j < (nodesOf z p).length) (h : (nodesOf z p).getD i 0 = (nodesOf z p).getD j 0) : i = j := by
  rcases Nat.lt_trichotomy i j with hlt | he | hlt
  · have := nodes_lt z p hlt hj; omega
  · exact he
  · have := nodes_lt z p hlt hi; omega
theorem rank_is {z : List Nd} {p v : Int} {i : Nat} (hi : i < (nodesOf z p).length) (h : (nodesOf z p).getD i 0 = v) : rank z p v.toNat = i := by
  have hm := nodesOf_mem (getD_mem 0 hi)
  rw [h] at hm
  have hr := rank_node (z := z) (i := v.toNat) (by omega) hm.2
  exact nodes_inj z p hr.1 hi (by rw [hr.2, h]; omega)
/-- The first set of each node of a player. -/
def firstTo (z : List Nd) (k : Nat) (p : Int) : Nat → List Int
  | 0 => List.replicate z.length 0
  | i + 1 => (firstTo z k p i).set ((nodesOf z p).getD i 0).toNat ((i : Int) * (k : Int))
def firstOf (z : List Nd) (k : Nat) (p : Int) : List Int := firstTo z k p (nodesOf z p).length
theorem firstTo_len (z : List Nd) (k : Nat) (p : Int) : ∀ i, (firstTo z k p i).length = z.length
  | 0 => by unfold firstTo; rw [List.length_replicate]
  | i + 1 => by unfold firstTo; rw [List.length_set]; exact firstTo_len z k p i
theorem firstTo_at (z : List Nd) (k : Nat) (p : Int) : ∀ n i, n ≤ (nodesOf z p).length → i < n → (firstTo z k p n).getD ((nodesOf z p).getD i 0).toNat 0 = (i : Int) * (k : Int)
  | 0, i, _, h => absurd h (Nat.not_lt_zero _)
  | n + 1, i, hn, h => by
    have hm := (nodesOf_mem (getD_mem 0 (show i < (nodesOf z p).length by omega))).1
    have hm2 := (nodesOf_mem (getD_mem 0 (show n < (nodesOf z p).length by omega))).1
    unfold firstTo
    rw [getD_set (by rw [firstTo_len]; omega)]
    by_cases he : i = n
    · subst he; rw [if_pos rfl]
    · have hlt := nodes_lt z p (show i < n by omega) (by omega)
      rw [if_neg (by omega)]
      exact firstTo_at z k p n i (by omega) (by omega)
theorem firstOf_len (z : List Nd) (k : Nat) (p : Int) : (firstOf z k p).length = z.length := firstTo_len z k p _
theorem firstOf_at {z : List Nd} {k : Nat} {p : Int} {v : Nat} (hv : v < z.length) (h : (z.getD v dN).pl = p) : (firstOf z k p).getD v 0 = (rank z p v : Int) * (k : Int) := by
  have hr := rank_node hv h
  have := firstTo_at z k p _ _ (Nat.le_refl _) hr.1
  rw [hr.2, Int.toNat_natCast] at this
  exact this
/-- The parent of each node. -/
def putAll (P : List Int) (v : Int) (cs : List Int) : List Int := cs.foldl (fun P c => P.set c.toNat v) P
theorem putAll_len (v : Int) : ∀ (cs P : List Int), (putAll P v cs).length = P.length
  | [], P => rfl
  | c :: cs, P => by show (putAll (P.set c.toNat v) v cs).length = _; rw [putAll_len v cs, List.length_set]
theorem putAll_step {P : List Int} {v : Int} {cs : List Int} {j : Nat} (h : j < cs.length) : (putAll P v (cs.take j)).set (cs.getD j 0).toNat v = putAll P v (cs.take (j + 1)) := by
  rw [take_step 0 h]; unfold putAll; rw [List.foldl_append]; rfl
theorem putAll_in {v : Int} {c : Int} : ∀ (cs P : List Int), c ∈ cs → c.toNat < P.length → (putAll P v cs).getD c.toNat 0 = v
  | [], P, h, _ => by cases h
  | d :: cs, P, h, hl => by
    show (putAll (P.set d.toNat v) v cs).getD c.toNat 0 = v
    by_cases hc : c ∈ cs
    · exact putAll_in cs _ hc (by rw [List.length_set]; exact hl)
    · have hd : c = d := by rcases List.mem_cons.1 h with h | h; exact h; exact absurd h hc
      subst hd
      have key : ∀ (cs P : List Int), P.getD c.toNat 0 = v → c.toNat < P.length → (putAll P v cs).getD c.toNat 0 = v := by
        intro cs
        induction cs with
        | nil => intro P h _; exact h
        | cons e cs ih =>
          intro P h hl
          refine ih (P.set e.toNat v) ?_ (by rw [List.length_set]; exact hl)
          rw [getD_set hl]; split
          · rfl
          · exact h
      exact key cs _ (by rw [getD_set hl, if_pos rfl]) (by rw [List.length_set]; exact hl)
theorem putAll_out {v : Int} {c : Nat} : ∀ (cs P : List Int), (∀ d ∈ cs, d.toNat ≠ c) → c < P.length → (putAll P v cs).getD c 0 = P.getD c 0
  | [], P, _, _ => rfl
  | d :: cs, P, h, hl => by
    show (putAll (P.set d.toNat v) v cs).getD c 0 = _
    rw [putAll_out cs _ (fun e he => h e (List.mem_cons_of_mem _ he)) (by rw [List.length_set]; exact hl), getD_set hl, if_neg (h d (List.mem_cons_self ..))]
def parTo (z : List Nd) : Nat → List Int
  | 0 => List.replicate z.length 0
  | i + 1 => putAll (parTo z i) (i : Int) (z.getD i dN).ch
theorem parTo_len (z : List Nd) : ∀ i, (parTo z i).length = z.length
  | 0 => by unfold parTo; rw [List.length_replicate]
  | i + 1 => by unfold parTo; rw [putAll_len]; exact parTo_len z i
def parOf (z : List Nd) : List Int := parTo z z.length
theorem parOf_len (z : List Nd) : (parOf z).length = z.length := parTo_len z _
theorem parTo_at {z : List Nd} (hok : allOk z = true) (h1 : oneEach z = true) {i : Nat} {c : Int} (hi : i < z.length) (hc : c ∈ (z.getD i dN).ch) : ∀ n, n ≤ z.length → i < n → (parTo z n).getD c.toNat 0 = (i : Int)
  | 0, _, h => absurd h (Nat.not_lt_zero _)
  | n + 1, hn, h => by
    have hk := ok_kid (allOk_iff.1 hok i hi) hc
    unfold parTo
    by_cases he : i = n
    · subst he; exact putAll_in _ _ hc (by rw [parTo_len]; omega)
    · rw [putAll_out _ _ (fun d hd hdc => ?_) (by rw [parTo_len]; omega)]
      · exact parTo_at hok h1 hi hc n (by omega) (by omega)
      · have hk2 := ok_kid (allOk_iff.1 hok n (by omega)) hd
        have hdc' : d = c := by omega
        subst hdc'
        exact he (one_parent h1 (by omega) hi (by omega) hc hd)
theorem parOf_at {z : List Nd} (ht : isTree z = true) {i : Nat} {c : Int} (hi : i < z.length) (hc : c ∈ (z.getD i dN).ch) : (parOf z).getD c.toNat 0 = (i : Int) :=
  parTo_at (isTree_ok ht).2.1 (isTree_ok ht).2.2.1 hi hc _ (Nat.le_refl _) hi
/-- The parent of a node that is not the root. -/
theorem parOf_up {z : List Nd} (ht : isTree z = true) {c : Int} (hc : 1 ≤ c ∧ c < z.length) : (0 ≤ (parOf z).getD c.toNat 0 ∧ (parOf z).getD c.toNat 0 < c) ∧ c ∈ (z.getD ((parOf z).getD c.toNat 0).toNat dN).ch := by
  obtain ⟨i, h1, h2, h3⟩ := parent_ex (isTree_ok ht).2.1 (isTree_ok ht).2.2.1 hc
  rw [parOf_at ht h2 h3, Int.toNat_natCast]
  exact ⟨by omega, h3⟩
/-- The parts at a decision. -/
def choice (z : List Nd) (k : Nat) (ps qs : List (List Int)) (v a b : Int) : List Int :=
  if (z.getD v.toNat dN).pl = 0 then ps.getD (rank z 0 v.toNat * k + a.toNat) [] else qs.getD (rank z 1 v.toNat * k + b.toNat) []
theorem setsOf_cell (k : Nat) {a : Nat} (ha : a < k) : ∀ (xs : List Int) (r : Nat), r < xs.length → r * k + a < (setsOf xs k).length ∧ (setsOf xs k).getD (r * k + a) [] = [xs.getD r 0, (a : Int)]
  | [], r, h => absurd h (Nat.not_lt_zero _)
  | x :: xs, r, h => by
    have hs : setsOf (x :: xs) k = ((List.range k).map fun (c : Nat) => [x, (c : Int)]) ++ setsOf xs k := rfl
    have hl : ((List.range k).map fun (c : Nat) => [x, (c : Int)]).length = k := by simp
    cases r with
    | zero =>
      rw [hs, Nat.zero_mul, Nat.zero_add]
      refine ⟨by rw [List.length_append, hl]; omega, ?_⟩
      simp [List.getD, List.getElem?_append_left, ha]
    | succ r =>
      have ih := setsOf_cell k ha xs r (by simp at h; omega)
      rw [hs, show (r + 1) * k + a = k + (r * k + a) from by rw [Nat.succ_mul]; omega]
      refine ⟨by rw [List.length_append, hl]; omega, ?_⟩
      have : (((List.range k).map fun (c : Nat) => [x, (c : Int)]) ++ setsOf xs k).getD (k + (r * k + a)) [] = (setsOf xs k).getD (r * k + a) [] := by
        simp only [List.getD]
        rw [List.getElem?_append_right (by rw [hl]; omega), hl, show k + (r * k + a) - k = r * k + a from by omega]
      rw [this, ih.2]; rfl
theorem choice_at {z : List Nd} {k : Nat} {p : Int} {ps : List (List Int)} (hps : partsB z (sets z k p) ps = true) {v a : Nat} (hv : v < z.length) (hpl : (z.getD v dN).pl = p) (ha : a < k) :
    rank z p v * k + a < ps.length ∧ partB z [(v : Int), (a : Int)] (ps.getD (rank z p v * k + a) []) = true := by
  have hr := rank_node hv hpl
  have hc := setsOf_cell k ha (nodesOf z p) _ hr.1
  have hp := parts_at hps hc.1
  have hl := parts_len hps
  unfold sets at hp hl
  rw [hc.2, hr.2] at hp
  exact ⟨by omega, hp⟩
/-- Both strategies. -/
structure Pair (z : List Nd) (ws vs ps qs : List (List Int)) : Prop where
  g : isGame z ws vs = true
  p : partsB z (sets z ws.length 0) ps = true
  q : partsB z (sets z ws.length 1) qs = true
def isPair (z : List Nd) (ws vs : List (List Int)) (pl : Int) (ps : List (List Int)) (ql : Int) (qs : List (List Int)) : Bool := isGame z ws vs && (decide (pl = 0) && (decide (ql = 1) && (partsB z (sets z ws.length 0) ps && partsB z (sets z ws.length 1) qs)))
theorem isPair_ok {z : List Nd} {ws vs ps qs : List (List Int)} {pl ql : Int} (h : isPair z ws vs pl ps ql qs = true) : pl = 0 ∧ ql = 1 ∧ Pair z ws vs ps qs := by
  simp only [isPair, Bool.and_eq_true, decide_eq_true_eq] at h
  exact ⟨h.2.1, h.2.2.1, h.1, h.2.2.2.1, h.2.2.2.2⟩
section
variable {z : List Nd} {ws vs ps qs : List (List Int)} {k : Nat}
theorem choice_ok (h : Pair z ws vs ps qs) (hk : ws.length = k) {v a b : Int} (hv : 0 ≤ v ∧ v < z.length) (hpl : (z.getD v.toNat dN).pl ≠ 2) (ha : 0 ≤ a ∧ a < k) (hb : 0 ≤ b ∧ b < k) :
    (choice z k ps qs v a b).length = (z.getD v.toNat dN).ch.length ∧ (∀ x ∈ choice z k ps qs v a b, 0 ≤ x ∧ x ≤ 60) ∧ (choice z k ps qs v a b).sum = 60 := by
  have hw : ∀ (u : Int) (x : Int), 0 ≤ u → wide z [u, x] = (z.getD u.toNat dN).ch.length := fun u x _ => rfl
  have ho := ok_pl (allOk_iff.1 (isTree_ok (isGame_ok h.g).1).2.1 v.toNat (by omega))
  subst hk
  unfold choice
  split
  · rename_i h0
    have := choice_at h.p (v := v.toNat) (a := a.toNat) (by omega) h0 (by omega)
    obtain ⟨h1, h2⟩ := part_row this.2
    refine ⟨by rw [row_len h1]; exact hw _ _ (by omega), row_in h1, h2⟩
  · rename_i h0
    have := choice_at h.q (v := v.toNat) (a := b.toNat) (by omega) (show (z.getD v.toNat dN).pl = 1 by omega) (by omega)
    obtain ⟨h1, h2⟩ := part_row this.2
    refine ⟨by rw [row_len h1]; exact hw _ _ (by omega), row_in h1, h2⟩
/-- The value of a node. -/
def valF (z : List Nd) (vs : List (List Int)) (k : Nat) (ps qs : List (List Int)) (a b : Int) : Nat → Int → Int → Int
  | 0, _, _ => 0
  | f + 1, v, left => if (z.getD v.toNat dN).pl = 2 then payoffX (z.getD v.toNat dN) ((vs.getD a.toNat []).getD b.toNat 0) * p60 left.toNat
    else (mapR (fun i => (choice z k ps qs v a b).getD i 0 * valF z vs k ps qs a b f ((z.getD v.toNat dN).ch.getD i 0) (left - 1)) (z.getD v.toNat dN).ch.length).sum
def value (z : List Nd) (vs : List (List Int)) (k : Nat) (ps qs : List (List Int)) (a b v left : Int) : Int := valF z vs k ps qs a b z.length v left
def valTo (z : List Nd) (vs : List (List Int)) (k : Nat) (ps qs : List (List Int)) (a b v left : Int) (n : Nat) : Int := (mapR (fun i => (choice z k ps qs v a b).getD i 0 * value z vs k ps qs a b ((z.getD v.toNat dN).ch.getD i 0) (left - 1)) n).sum
theorem mapR_congr {f g : Nat → Int} {n : Nat} (h : ∀ i, i < n → f i = g i) : mapR f n = mapR g n := List.map_congr_left fun i hi => h i (List.mem_range.1 hi)
theorem dmax_ge {l : List Int} : ∀ {c : Int}, c ∈ l → depth z c.toNat ≤ dmax z l := by
  have key : ∀ (l : List Int) (m : Int), m ≤ l.foldl (fun m c => max m (depth z c.toNat)) m ∧ ∀ c ∈ l, depth z c.toNat ≤ l.foldl (fun m c => max m (depth z c.toNat)) m := by
    intro l
    induction l with
    | nil => intro m; exact ⟨Int.le_refl _, fun c h => by cases h⟩
    | cons d l ih =>
      intro m
      have h := ih (max m (depth z d.toNat))
      refine ⟨?_, fun c hc => ?_⟩
      · show m ≤ l.foldl _ (max m (depth z d.toNat)); omega
      · show depth z c.toNat ≤ l.foldl _ (max m (depth z d.toNat))
        rcases List.mem_cons.1 hc with rfl | hc
        · omega
        · exact h.2 c hc
  exact fun {c} hc => (key l 0).2 c hc
theorem depth_kid (hok : allOk z = true) {v : Int} (hv : 0 ≤ v ∧ v < z.length) (h : ¬ (z.getD v.toNat dN).pl = 2) {c : Int} (hc : c ∈ (z.getD v.toNat dN).ch) : depth z c.toNat + 1 ≤ depth z v.toNat := by
  rw [depth_step hok (by omega) h]
  have := dmax_ge (z := z) hc
  omega
theorem mapR_list (l : List Int) : ∀ m, m ≤ l.length → mapR (fun i => l.getD i 0) m = l.take m
  | 0, _ => rfl
  | m + 1, h => by rw [← mapR_snoc, mapR_list l m (by omega), take_step 0 (by omega)]
/-- The number of a game. -/
def dealN (z : List Nd) (ws vs : List (List Int)) (k : Nat) (ps qs : List (List Int)) (a b : Nat) : Int := (ws.getD a []).getD b 0 * value z vs k ps qs (a : Int) (b : Int) 0 (depth z 0)
def numRow (z : List Nd) (ws vs : List (List Int)) (k : Nat) (ps qs : List (List Int)) (a m : Nat) : Int := (mapR (fun b => dealN z ws vs k ps qs a b) m).sum
def numTo (z : List Nd) (ws vs : List (List Int)) (k : Nat) (ps qs : List (List Int)) (i : Nat) : Int := (mapR (fun a => numRow z ws vs k ps qs a k) i).sum
/-- What a way is reached with. -/
def reW (z : List Nd) (k : Nat) (ps qs : List (List Int)) (a b : Int) : List Int → Int → Int → Int
  | [], _, p => p
  | w :: l, v, p => reW z k ps qs a b l ((z.getD v.toNat dN).ch.getD w.toNat 0) (p * (choice z k ps qs v a b).getD w.toNat 0)
theorem reW_mul (a b : Int) : ∀ (l : List Int) (v p c : Int), reW z k ps qs a b l v (p * c) = reW z k ps qs a b l v p * c
  | [], _, _, _ => rfl
  | w :: l, v, p, c => by
    unfold reW
    rw [show p * c * (choice z k ps qs v a b).getD w.toNat 0 = p * (choice z k ps qs v a b).getD w.toNat 0 * c from by rw [Int.mul_assoc, Int.mul_comm c, ← Int.mul_assoc]]
    exact reW_mul a b l _ _ c
theorem reW_0 (a b : Int) : ∀ (l : List Int) (v : Int), reW z k ps qs a b l v 0 = 0
  | [], _ => rfl
  | w :: l, v => by unfold reW; rw [Int.zero_mul]; exact reW_0 a b l _
/-- Places that lead from a node to a node. -/
def Leads (z : List Nd) : List Int → Int → Int → Prop
  | [], v, n => v = n
  | w :: l, v, n => ((0 ≤ v ∧ v < z.length) ∧ (0 ≤ w ∧ w < (z.getD v.toNat dN).ch.length)) ∧ Leads z l ((z.getD v.toNat dN).ch.getD w.toNat 0) n
theorem Leads.app {n m w : Int} (hn : 0 ≤ n ∧ n < z.length) (hw : 0 ≤ w ∧ w < (z.getD n.toNat dN).ch.length) (hm : (z.getD n.toNat dN).ch.getD w.toNat 0 = m) : ∀ {l : List Int} {v : Int}, Leads z l v n → Leads z (l ++ [w]) v m
  | [], v, h => by cases h; exact ⟨⟨hn, hw⟩, hm⟩
  | x :: l, v, h => ⟨h.1, Leads.app hn hw hm h.2⟩
theorem indexOf_at {l : List Int} {v : Int} (h : v ∈ l) : (0 ≤ indexOf l v ∧ indexOf l v < l.length) ∧ l.getD (indexOf l v).toNat 0 = v := by
  have h0 : 0 ≤ indexOf l v := by
    rcases Int.lt_or_le (indexOf l v) 0 with h1 | h1
    · exact absurd h (indexOf_nmem (by omega))
    · exact h1
  have hle := indexOf_le (l := l) (v := v)
  refine ⟨⟨h0, hle.2⟩, ?_⟩
  obtain ⟨j, hj, hv⟩ := mem_getD 0 h
  have key : ∀ n j, j = n → j < l.length → l.getD j 0 = v → l.getD (indexOf l v).toNat 0 = v := by
    intro n
    induction n using Nat.strongRecOn with
    | _ n ih =>
      intro j hjn hj hv
      by_cases hf : ∀ i, i < j → l.getD i 0 ≠ v
      · rw [indexOf_yes hj hv hf, Int.toNat_natCast]; exact hv
      · obtain ⟨i, hf⟩ := Classical.not_forall.1 hf
        obtain ⟨hi, hiv⟩ := Classical.not_imp.1 hf
        exact ih i (by omega) i rfl (by omega) (Classical.not_not.1 hiv)
  exact key j j rfl hj hv
theorem Way.leads (hok : allOk z = true) {n : Int} {l : List Int} (h : Way z n l) : n < z.length → Leads z l 0 n := by
  induction h with
  | root => intro _; rfl
  | @step i n l ha hb hc hd ih =>
    intro hn
    have hx := indexOf_at hc
    refine Leads.app (n := (i : Int)) (by omega) ?_ ?_ (ih (by omega))
    · rw [Int.toNat_natCast]; exact hx.1
    · rw [Int.toNat_natCast]; exact hx.2
theorem kid_pl (hok : allOk z = true) {v : Int} (hv : 0 ≤ v ∧ v < z.length) {w : Int} (hw : 0 ≤ w ∧ w < (z.getD v.toNat dN).ch.length) : (z.getD v.toNat dN).pl ≠ 2 ∧ (v + 1 ≤ (z.getD v.toNat dN).ch.getD w.toNat 0 ∧ (z.getD v.toNat dN).ch.getD w.toNat 0 < z.length) := by
  have ho := ok_pl (allOk_iff.1 hok v.toNat (by omega))
  have hk := ok_kid (allOk_iff.1 hok v.toNat (by omega)) (getD_mem 0 (show w.toNat < (z.getD v.toNat dN).ch.length by omega))
  exact ⟨fun h => by have := ho.2.2.2.2.2.1 h; omega, by omega⟩
theorem leads_depth (hok : allOk z = true) {n : Int} : ∀ {l : List Int} {v : Int}, Leads z l v n → (0 ≤ v ∧ v < z.length) → (l.length : Int) ≤ depth z v.toNat ∧ (0 ≤ n ∧ n < z.length)
  | [], v, h, hv => by have h' : v = n := h; rw [← h']; have := depth_bd' rfl hok (i := v.toNat) (by omega); exact ⟨by simp; omega, hv⟩
  | w :: l, v, h, hv => by
    have hw : 0 ≤ w ∧ w < (z.getD v.toNat dN).ch.length := h.1.2
    have hk := kid_pl hok hv hw
    have ih := leads_depth hok h.2 (by omega)
    have hd := depth_kid hok hv hk.1 (getD_mem 0 (show w.toNat < (z.getD v.toNat dN).ch.length by omega))
    rw [List.length_cons]
    exact ⟨by omega, ih.2⟩
theorem reW_bd (h : Pair z ws vs ps qs) (hk : ws.length = k) {a b : Int} (ha : 0 ≤ a ∧ a < k) (hb : 0 ≤ b ∧ b < k) {n : Int} : ∀ {l : List Int} {v p : Int}, Leads z l v n → 0 ≤ p → 0 ≤ reW z k ps qs a b l v p ∧ reW z k ps qs a b l v p ≤ p * p60 l.length
  | [], v, p, _, hp => ⟨hp, by show p ≤ p * 1; omega⟩
  | w :: l, v, p, hl, hp => by
    have hw : 0 ≤ w ∧ w < (z.getD v.toNat dN).ch.length := hl.1.2
    have hk2 := kid_pl (isTree_ok (isGame_ok h.g).1).2.1 hl.1.1 hl.1.2
    have hc := choice_ok h hk hl.1.1 hk2.1 ha hb
    have hm := hc.2.1 _ (getD_mem 0 (show w.toNat < (choice z k ps qs v a b).length by rw [hc.1]; omega))
    have ih := reW_bd h hk ha hb hl.2 (Int.mul_nonneg hp hm.1)
    refine ⟨ih.1, Int.le_trans ih.2 ?_⟩
    have hp6 : 0 ≤ p60 l.length := by unfold p60; exact Int.le_of_lt (Int.pow_pos (by decide))
    have h1 : p * (choice z k ps qs v a b).getD w.toNat 0 ≤ p * 60 := Int.mul_le_mul_of_nonneg_left hm.2 hp
    have h2 := Int.mul_le_mul_of_nonneg_right h1 hp6
    rw [List.length_cons, p60_s]
    have h3 : p * 60 * p60 l.length = p * (p60 l.length * 60) := by rw [Int.mul_assoc, Int.mul_comm 60]
    omega
/-- One deal, and all, that reach a node. -/
noncomputable def reN (z : List Nd) (ws : List (List Int)) (k : Nat) (ps qs : List (List Int)) (n : Int) (a b : Nat) : Int := reW z k ps qs (a : Int) (b : Int) (wayOf z n) 0 ((ws.getD a []).getD b 0) * p60 (depth z 0 - ((wayOf z n).length : Int)).toNat
noncomputable def reRow (z : List Nd) (ws : List (List Int)) (k : Nat) (ps qs : List (List Int)) (n : Int) (a m : Nat) : Int := (mapR (fun b => reN z ws k ps qs n a b) m).sum
noncomputable def reTo (z : List Nd) (ws : List (List Int)) (k : Nat) (ps qs : List (List Int)) (n : Int) (i : Nat) : Int := (mapR (fun a => reRow z ws k ps qs n a k) i).sum
theorem reRow_s (n : Int) (a m : Nat) : reRow z ws k ps qs n a (m + 1) = reRow z ws k ps qs n a m + reN z ws k ps qs n a m := mapR_suc _ _
theorem reTo_s (n : Int) (i : Nat) : reTo z ws k ps qs n (i + 1) = reTo z ws k ps qs n i + reRow z ws k ps qs n i k := mapR_suc _ _
theorem way_leads (ht : isTree z = true) {n : Int} (hn : 0 ≤ n ∧ n < z.length) : Leads z (wayOf z n) 0 n ∧ ((wayOf z n).length : Int) ≤ depth z 0 := by
  have hT := isTree_ok ht
  have h1 := (wayOf_way hT.2.1 hT.2.2.1 hn.1 hn.2).leads hT.2.1 hn.2
  exact ⟨h1, (leads_depth hT.2.1 h1 (by omega)).1⟩
theorem mul60 {c d : Int} (hd : 0 ≤ d) {e : Nat} (hc : 0 ≤ c ∧ c ≤ 9 * p60 e) (he : (e : Int) ≤ d) (hd5 : d ≤ 5) : 0 ≤ c * p60 (d - (e : Int)).toNat ∧ c * p60 (d - (e : Int)).toNat ≤ 6998400000 := by
  have h1 : 0 ≤ p60 (d - (e : Int)).toNat := by unfold p60; exact Int.le_of_lt (Int.pow_pos (by decide))
  refine ⟨Int.mul_nonneg hc.1 h1, ?_⟩
  have h2 := Int.mul_le_mul_of_nonneg_right hc.2 h1
  have h3 : p60 e * p60 (d - (e : Int)).toNat = p60 d.toNat := by
    unfold p60; rw [← Int.pow_add]; congr 1; omega
  rw [Int.mul_assoc, h3] at h2
  have := p60_5 (k := d.toNat) (by omega)
  omega
theorem reN_bd (h : Pair z ws vs ps qs) (hk : ws.length = k) {n : Int} (hn : 0 ≤ n ∧ n < z.length) {a b : Nat} (ha : a < k) (hb : b < k) : 0 ≤ reN z ws k ps qs n a b ∧ reN z ws k ps qs n a b ≤ 6998400000 := by
  have hG := isGame_ok h.g
  have hT := isTree_ok hG.1
  have hl := way_leads hG.1 hn
  have hw : 0 ≤ (ws.getD a []).getD b 0 ∧ (ws.getD a []).getD b 0 ≤ 9 := by subst hk; exact row_at (mat_row hG.2.2.1 ha) hb
  have h1 := reW_bd h hk (a := (a : Int)) (b := (b : Int)) (by omega) (by omega) hl.1 hw.1
  have hp6 : 0 ≤ p60 (wayOf z n).length := by unfold p60; exact Int.le_of_lt (Int.pow_pos (by decide))
  have h2 := Int.mul_le_mul_of_nonneg_right hw.2 hp6
  exact mul60 hT.2.2.2.1 ⟨h1.1, Int.le_trans h1.2 h2⟩ hl.2 hT.2.2.2.2
theorem reRow_bd (h : Pair z ws vs ps qs) (hk : ws.length = k) {n : Int} (hn : 0 ≤ n ∧ n < z.length) {a : Nat} (ha : a < k) : ∀ m, m ≤ k → 0 ≤ reRow z ws k ps qs n a m ∧ reRow z ws k ps qs n a m ≤ 6998400000 * m
  | 0, _ => by show (0 : Int) ≤ (0 : Int) ∧ (0 : Int) ≤ _; omega
  | m + 1, hm => by
    have h1 := reRow_bd h hk hn ha m (by omega)
    have h2 := reN_bd h hk hn ha (show m < k by omega)
    rw [reRow_s]; omega
theorem reTo_bd (h : Pair z ws vs ps qs) (hk : ws.length = k) {n : Int} (hn : 0 ≤ n ∧ n < z.length) : ∀ i, i ≤ k → 0 ≤ reTo z ws k ps qs n i ∧ reTo z ws k ps qs n i ≤ 41990400000 * i
  | 0, _ => by show (0 : Int) ≤ (0 : Int) ∧ (0 : Int) ≤ _; omega
  | i + 1, hi => by
    have h1 := reTo_bd h hk hn i (by omega)
    have h2 := reRow_bd h hk hn (show i < k by omega) k (Nat.le_refl _)
    have h3 := (isGame_ok h.g).2.1
    rw [reTo_s]; omega
end
end Go.Proofs.Ytjengglpbdgmnaa.Math
/- Plain facts on strategies that are read, and on ways that are walked. No condition. -/
namespace Go.Proofs.Ytjengglpbdgmnaa.Math
open Go Go.Proofs.Ytjengglpbdgmnaa.V
set_option linter.unusedVariables false
set_option linter.unusedSimpArgs false
theorem two {w0 : World} {M : Nat → Prop} {L : List (World → Prop)} {φ ψ χ : World → Prop} (h : Kn w0 M L φ) (h' : Kn w0 M L ψ) (hi : ∀ w, φ w → ψ w → χ w) : Kn w0 M L χ := fun w hs => hi w (h w hs) (h' w hs)
theorem firstTo_0 {z : List Nd} {k n : Nat} {p : Int} (h : z.length = n) : firstTo z k p 0 = List.replicate n 0 := by subst h; rfl
theorem firstTo_s (z : List Nd) (k : Nat) (p : Int) (i : Nat) : (firstTo z k p i).set ((nodesOf z p).getD i 0).toNat ((i : Int) * (k : Int)) = firstTo z k p (i + 1) := rfl
theorem firstTo_e {z : List Nd} {k i : Nat} {p : Int} (h : (nodesOf z p).length = i) : firstTo z k p i = firstOf z k p := by subst h; rfl
theorem parTo_0 {z : List Nd} {n : Nat} (h : z.length = n) : parTo z 0 = List.replicate n 0 := by subst h; rfl
theorem putAll_nil (P : List Int) (v : Int) : putAll P v [] = P := rfl
theorem parTo_s {z : List Nd} {i j : Nat} (h : (z.getD i dN).ch.length ≤ j) : putAll (parTo z i) (i : Int) ((z.getD i dN).ch.take j) = parTo z (i + 1) := by rw [List.take_of_length_le h]; rfl
theorem parTo_e {z : List Nd} {i : Nat} (h : z.length = i) : parTo z i = parOf z := by subst h; rfl
theorem firstOf_nat {z : List Nd} {k : Nat} {p v : Int} {f : List Int} (hf : f = firstOf z k p) (hv : 0 ≤ v ∧ v < z.length) (h : (z.getD v.toNat dN).pl = p) : f.getD v.toNat 0 = ((rank z p v.toNat * k : Nat) : Int) := by
  subst hf; rw [firstOf_at (by omega) h, Int.natCast_mul]
def chA (z : List Nd) (k : Nat) (Hp Hq : Nat → Hd) (v a b : Int) : Hd := if (z.getD v.toNat dN).pl = 0 then Hp (rank z 0 v.toNat * k + a.toNat) else Hq (rank z 1 v.toNat * k + b.toNat)
section
variable {z : List Nd} {ws vs ps qs : List (List Int)} {k : Nat} {Hp Hq : Nat → Hd} {v a b : Int}
theorem chA_0 (h : (z.getD v.toNat dN).pl = 0) : chA z k Hp Hq v a b = Hp (rank z 0 v.toNat * k + a.toNat) := if_pos h
theorem chA_1 (h : (z.getD v.toNat dN).pl = 1) : chA z k Hp Hq v a b = Hq (rank z 1 v.toNat * k + b.toNat) := if_neg (by rw [h]; decide)
theorem choice_0 (h : (z.getD v.toNat dN).pl = 0) : choice z k ps qs v a b = ps.getD (rank z 0 v.toNat * k + a.toNat) [] := if_pos h
theorem choice_1 (h : (z.getD v.toNat dN).pl = 1) : choice z k ps qs v a b = qs.getD (rank z 1 v.toNat * k + b.toNat) [] := if_neg (by rw [h]; decide)
theorem choice_ix (h : Pair z ws vs ps qs) (hk : ws.length = k) (hv : 0 ≤ v ∧ v < z.length) (hpl : (z.getD v.toNat dN).pl ≠ 2) (ha : 0 ≤ a ∧ a < k) (hb : 0 ≤ b ∧ b < k) :
    ((z.getD v.toNat dN).pl = 0 → rank z 0 v.toNat * k + a.toNat < ps.length) ∧ ((z.getD v.toNat dN).pl = 1 → rank z 1 v.toNat * k + b.toNat < qs.length) := by
  subst hk
  exact ⟨fun h0 => (choice_at h.p (v := v.toNat) (a := a.toNat) (by omega) h0 (by omega)).1, fun h1 => (choice_at h.q (v := v.toNat) (a := b.toNat) (by omega) h1 (by omega)).1⟩
theorem choice_rd (h : Pair z ws vs ps qs) (hk : ws.length = k) (hv : 0 ≤ v ∧ v < z.length) (hpl : (z.getD v.toNat dN).pl ≠ 2) (ha : 0 ≤ a ∧ a < k) (hb : 0 ≤ b ∧ b < k) {ap aq : Option Addr} {np nq : Nat} {w : World} (h1 : RdR maK ap np Hp ps w) (h2 : RdR maK aq nq Hq qs w) :
    RdI (chA z k Hp Hq v a b).1 (choice z k ps qs v a b).length (choice z k ps qs v a b) w := by
  have hi := choice_ix h hk hv hpl ha hb
  have ho := ok_pl (allOk_iff.1 (isTree_ok (isGame_ok h.g).1).2.1 v.toNat (by omega))
  rcases (show (z.getD v.toNat dN).pl = 0 ∨ (z.getD v.toNat dN).pl = 1 by omega) with h0 | h0
  · rw [chA_0 h0, choice_0 h0]; exact h1.kidM (nth [] (hi.1 h0))
  · rw [chA_1 h0, choice_1 h0]; exact h2.kidM (nth [] (hi.2 h0))
theorem pair_len (h : Pair z ws vs ps qs) (hk : ws.length = k) : ps.length ≤ 360 ∧ qs.length ≤ 360 := by
  have h1 := (isGame_ok h.g).2.1
  have h2 := (isTree_ok (isGame_ok h.g).1).1
  have h3 := parts_len h.p
  have h4 := parts_len h.q
  have h5 := sets_len (z := z) (p := 0) (show ws.length ≤ 6 by omega)
  have h6 := sets_len (z := z) (p := 1) (show ws.length ≤ 6 by omega)
  omega
/-- The steps of a walk down. -/
theorem drop_cons {l : List Int} {q : Nat} (h : q < l.length) : l.drop q = l.getD q 0 :: l.drop (q + 1) := by
  rw [List.drop_eq_getElem_cons h]; simp [List.getD, List.getElem?_eq_getElem h]
theorem leads_step {l : List Int} {q : Nat} {n : Int} (h : q < l.length) (hl : Leads z (l.drop q) v n) : ((0 ≤ v ∧ v < z.length) ∧ (0 ≤ l.getD q 0 ∧ l.getD q 0 < (z.getD v.toNat dN).ch.length)) ∧ Leads z (l.drop (q + 1)) ((z.getD v.toNat dN).ch.getD (l.getD q 0).toNat 0) n := by
  rw [drop_cons h] at hl; exact hl
theorem reW_step {l : List Int} {q : Nat} {p : Int} (h : q < l.length) : reW z k ps qs a b (l.drop q) v p = reW z k ps qs a b (l.drop (q + 1)) ((z.getD v.toNat dN).ch.getD (l.getD q 0).toNat 0) (p * (choice z k ps qs v a b).getD (l.getD q 0).toNat 0) := by
  rw [drop_cons h]; rfl
theorem reW_end {l : List Int} {q : Nat} {p : Int} (h : l.length ≤ q) : reW z k ps qs a b (l.drop q) v p = p := by rw [List.drop_of_length_le h]; rfl
/-- One step down: what is multiplied. -/
theorem down_bd (h : Pair z ws vs ps qs) (hk : ws.length = k) (ha : 0 ≤ a ∧ a < k) (hb : 0 ≤ b ∧ b < k) {p w : Int} {q : Nat} (hv : 0 ≤ v ∧ v < z.length) (hw : 0 ≤ w ∧ w < (z.getD v.toNat dN).ch.length) (hp : 0 ≤ p ∧ p ≤ 9 * p60 q) (hq : q < 5) :
    (choice z k ps qs v a b).length = (z.getD v.toNat dN).ch.length ∧ (z.getD v.toNat dN).pl ≠ 2 ∧ (0 ≤ p * (choice z k ps qs v a b).getD w.toNat 0 ∧ p * (choice z k ps qs v a b).getD w.toNat 0 ≤ 9 * p60 (q + 1)) ∧ p * (choice z k ps qs v a b).getD w.toNat 0 ≤ 6998400000 ∧ (0 ≤ (z.getD v.toNat dN).ch.getD w.toNat 0 ∧ (z.getD v.toNat dN).ch.getD w.toNat 0 < z.length) := by
  have hk2 := kid_pl (isTree_ok (isGame_ok h.g).1).2.1 hv hw
  have hc := choice_ok h hk hv hk2.1 ha hb
  have hm := hc.2.1 _ (getD_mem 0 (show w.toNat < (choice z k ps qs v a b).length by rw [hc.1]; omega))
  have h1 := mul_bd hp.1 hp.2 hm.1 hm.2
  have h2 := p60_s q
  have h3 := p60_5 (k := q + 1) (by omega)
  have h4 : 9 * p60 q * 60 = 9 * p60 (q + 1) := by rw [h2, Int.mul_assoc]
  exact ⟨hc.1, hk2.1, by omega, by omega, by omega⟩
/-- One step up. -/
theorem step_up (h : Pair z ws vs ps qs) (hk : ws.length = k) (ha : 0 ≤ a ∧ a < k) (hb : 0 ≤ b ∧ b < k) {n u w0 p : Int} {l l0 : List Int} {pr : List Int} (hpr : pr = parOf z) (hn : 0 ≤ n ∧ n < z.length) (hu : u = pr.getD v.toNat 0) (hv : 1 ≤ v ∧ v < z.length) (hl : Leads z l v n) (hway : Way z v l0) (hl0 : l0 ++ l = wayOf z n) (hw0 : 0 ≤ w0 ∧ w0 ≤ 9) (hp : p = reW z k ps qs a b l v w0) :
    (0 ≤ u ∧ u < v) ∧ (z.getD u.toNat dN).pl ≠ 2 ∧ (0 ≤ indexOf (z.getD u.toNat dN).ch v ∧ indexOf (z.getD u.toNat dN).ch v < (choice z k ps qs u a b).length) ∧ (0 ≤ p * (choice z k ps qs u a b).getD (indexOf (z.getD u.toNat dN).ch v).toNat 0 ∧ p * (choice z k ps qs u a b).getD (indexOf (z.getD u.toNat dN).ch v).toNat 0 ≤ 6998400000) ∧ (l.length : Int) + 1 ≤ depth z 0 ∧
      Leads z (indexOf (z.getD u.toNat dN).ch v :: l) u n ∧ (∃ l1, Way z u l1 ∧ l1 ++ (indexOf (z.getD u.toNat dN).ch v :: l) = wayOf z n) ∧ p * (choice z k ps qs u a b).getD (indexOf (z.getD u.toNat dN).ch v).toNat 0 = reW z k ps qs a b (indexOf (z.getD u.toNat dN).ch v :: l) u w0 := by
  have hG := isGame_ok h.g
  have hT := isTree_ok hG.1
  subst hpr; subst hu; subst hp
  have hup := parOf_up hG.1 hv
  generalize (parOf z).getD v.toNat 0 = u at hup ⊢
  have hx := indexOf_at hup.2
  have hk2 := kid_pl hT.2.1 (show 0 ≤ u ∧ u < z.length by omega) hx.1
  have hc := choice_ok h hk (show 0 ≤ u ∧ u < z.length by omega) hk2.1 ha hb
  have hle : Leads z (indexOf (z.getD u.toNat dN).ch v :: l) u n := ⟨⟨⟨by omega, by omega⟩, hx.1⟩, by rw [hx.2]; exact hl⟩
  obtain ⟨l1, hl1⟩ := wayOf_ex hT.2.1 hT.2.2.1 u.toNat u rfl hup.1.1 (by omega)
  have hst := way_up hup.1.1 hup.1.2 (by omega) hx.1.1 hl1
  have h01 := Way.one hT.2.2.1 hway hv.2 _ hst
  have heq : l1 ++ (indexOf (z.getD u.toNat dN).ch v :: l) = wayOf z n := by rw [← hl0, h01, List.append_assoc]; rfl
  have hlen : (l.length : Int) + 1 ≤ depth z 0 := by
    have h1 := (way_leads hG.1 hn).2
    rw [← heq, List.length_append, List.length_cons] at h1; omega
  have hre : reW z k ps qs a b l v w0 * (choice z k ps qs u a b).getD (indexOf (z.getD u.toNat dN).ch v).toNat 0 = reW z k ps qs a b (indexOf (z.getD u.toNat dN).ch v :: l) u w0 := by
    rw [← reW_mul]
    show _ = reW z k ps qs a b l ((z.getD u.toNat dN).ch.getD (indexOf (z.getD u.toNat dN).ch v).toNat 0) (w0 * (choice z k ps qs u a b).getD (indexOf (z.getD u.toNat dN).ch v).toNat 0)
    rw [hx.2]
  have hbd := reW_bd h hk ha hb hle hw0.1
  rw [List.length_cons] at hbd
  have h5 := p60_5 (k := l.length + 1) (by omega)
  have h6 := Int.mul_le_mul_of_nonneg_right hw0.2 (show 0 ≤ p60 (l.length + 1) by omega)
  refine ⟨hup.1, hk2.1, ⟨hx.1.1, by rw [hc.1]; exact hx.1.2⟩, ?_, hlen, hle, ⟨l1, hl1, heq⟩, hre⟩
  rw [hre]; omega
theorem root_way (ht : isTree z = true) {n : Int} {l l0 : List Int} (h : Way z v l0) (hv : v = 0) (hl : l0 ++ l = wayOf z n) : l = wayOf z n := by
  subst hv
  have := Way.one (isTree_ok ht).2.2.1 h (by have := (isTree_ok ht).1; omega) _ Way.root
  subst this; exact hl
theorem reN_is {n p d : Int} {i j : Nat} (hp : p = reW z k ps qs (i : Int) (j : Int) (wayOf z n) 0 ((ws.getD i []).getD j 0)) (hd : d = depth z 0 - ((wayOf z n).length : Int)) : p * p60 d.toNat = reN z ws k ps qs n i j := by subst hp; subst hd; rfl
end
theorem pair_is (z : List Nd) (ws vs ps qs : List (List Int)) (pl ql : Int) : isPair z ws vs pl ps ql qs = (isStrat z ws vs pl ps && (isStrat z ws vs ql qs && (decide (pl = 0) && decide (ql = 1)))) := by
  unfold isPair isStrat
  by_cases h0 : pl = 0
  · by_cases h1 : ql = 1
    · subst h0; subst h1
      generalize isGame z ws vs = g; generalize partsB z (sets z ws.length 0) ps = p; generalize partsB z (sets z ws.length 1) qs = q
      revert g p q; decide
    · simp [h1]
  · simp [h0]
theorem pair_in {z : List Nd} {ws vs ps qs : List (List Int)} {pl ql : Int} {k : Nat} (hk : ws.length = k) : isPair z ws vs pl ps ql qs = (isGame z ws vs && (decide (pl = 0) && (decide (ql = 1) && (partsB z (sets z k pl) ps && partsB z (sets z k ql) qs)))) := by
  subst hk; unfold isPair
  by_cases h0 : pl = 0
  · by_cases h1 : ql = 1
    · subst h0; subst h1; rfl
    · simp [h1]
  · simp [h0]
/-- The answers. -/
noncomputable def reachAt (z : List Nd) (ws vs : List (List Int)) (pl : Int) (ps : List (List Int)) (ql : Int) (qs : List (List Int)) (n : Int) : Int × Int :=
  if isPair z ws vs pl ps ql qs = true then if 0 ≤ n ∧ n ≤ (z.length : Int) - 1 then (reTo z ws ws.length ps qs n ws.length, 0) else (0, 2) else (0, 1)
section
variable {z : List Nd} {ws vs ps qs : List (List Int)} {pl ql n : Int} {k m : Nat}
theorem reachAt_1 (h : isPair z ws vs pl ps ql qs = false) : reachAt z ws vs pl ps ql qs n = (0, 1) := if_neg (by rw [h]; decide)
theorem reachAt_2 (hm : z.length = m) (h : isPair z ws vs pl ps ql qs = true) (hn : ¬ (0 ≤ n ∧ n ≤ (m : Int) - 1)) : reachAt z ws vs pl ps ql qs n = (0, 2) := by subst hm; unfold reachAt; rw [if_pos h, if_neg hn]
theorem reachAt_0 (hm : z.length = m) (hk : ws.length = k) (h : isPair z ws vs pl ps ql qs = true) (hn : 0 ≤ n ∧ n ≤ (m : Int) - 1) : reachAt z ws vs pl ps ql qs n = (reTo z ws k ps qs n k, 0) := by subst hm; subst hk; unfold reachAt; rw [if_pos h, if_pos hn]
/-- Showdowns. -/
noncomputable def showTo (z : List Nd) (ws : List (List Int)) (k : Nat) (ps qs : List (List Int)) (i : Nat) : Int := (mapR (fun i => if (z.getD ((nodesOf z 2).getD i 0).toNat dN).fo < 0 then reTo z ws k ps qs ((nodesOf z 2).getD i 0) k else 0) i).sum
theorem showTo_y {i : Nat} (h : (z.getD ((nodesOf z 2).getD i 0).toNat dN).fo < 0) : showTo z ws k ps qs (i + 1) = showTo z ws k ps qs i + reTo z ws k ps qs ((nodesOf z 2).getD i 0) k := by
  unfold showTo; rw [mapR_suc, if_pos h]
theorem showTo_n {i : Nat} (h : ¬ (z.getD ((nodesOf z 2).getD i 0).toNat dN).fo < 0) : showTo z ws k ps qs (i + 1) = showTo z ws k ps qs i := by
  unfold showTo; rw [mapR_suc, if_neg h, Int.add_zero]
theorem showTo_bd (h : Pair z ws vs ps qs) (hk : ws.length = k) : ∀ i, i ≤ (nodesOf z 2).length → 0 ≤ showTo z ws k ps qs i ∧ showTo z ws k ps qs i ≤ 251942400000 * i
  | 0, _ => by show (0 : Int) ≤ (0 : Int) ∧ (0 : Int) ≤ _; omega
  | i + 1, hi => by
    have h1 := showTo_bd h hk i (by omega)
    have hm := nodesOf_mem (getD_mem 0 (show i < (nodesOf z 2).length by omega))
    have h2 := reTo_bd h hk (n := (nodesOf z 2).getD i 0) (by omega) k (Nat.le_refl _)
    have h3 := (isGame_ok h.g).2.1
    by_cases hf : (z.getD ((nodesOf z 2).getD i 0).toNat dN).fo < 0
    · rw [showTo_y hf]; omega
    · rw [showTo_n hf]; omega
noncomputable def showAt (z : List Nd) (ws vs : List (List Int)) (pl : Int) (ps : List (List Int)) (ql : Int) (qs : List (List Int)) : Int × Int :=
  if isPair z ws vs pl ps ql qs = true then (showTo z ws ws.length ps qs (nodesOf z 2).length, 0) else (0, 1)
theorem showAt_1 (h : isPair z ws vs pl ps ql qs = false) : showAt z ws vs pl ps ql qs = (0, 1) := if_neg (by rw [h]; decide)
theorem showAt_0 (hk : ws.length = k) (h : isPair z ws vs pl ps ql qs = true) {i : Nat} (hi : i = (nodesOf z 2).length) : showAt z ws vs pl ps ql qs = (showTo z ws k ps qs i, 0) := by subst hk; subst hi; exact if_pos h
end
end Go.Proofs.Ytjengglpbdgmnaa.Math
/- Plain arithmetic on numbers, ratios and odds. No condition. -/
set_option linter.unusedVariables false
namespace Go.Proofs.Ytjengglpbdgmnaa.Math
theorem mod_lt {p q : Int} (hp : 0 ≤ p) (hq : 0 < q) : (p % q).toNat < q.toNat := by
 have h1 := Int.emod_nonneg p (show q ≠ 0 by omega)
 have h2 := Int.emod_lt_of_pos p hq
 omega
def gcdI (a b : Int) : Int := (Nat.gcd a.toNat b.toNat : Int)
/-- A valid ratio. -/
def isRatio (n d : Int) : Bool := decide (-1000000000 ≤ n ∧ n ≤ 1000000000) && (decide (1 ≤ d ∧ d ≤ 1000000000) && decide (gcdI n.natAbs d = 1))
/-- The ratio of two integers, the second at least 1, and a code. -/
def reduced (num den : Int) : (Int × Int) × Int :=
 if isRatio (num.tdiv (gcdI num.natAbs den)) (den / gcdI num.natAbs den) then ((num.tdiv (gcdI num.natAbs den), den / gcdI num.natAbs den), 0) else ((0, 0), 3)
def addR (a b : Int × Int) : (Int × Int) × Int := if isRatio a.1 a.2 = true ∧ isRatio b.1 b.2 = true then reduced (a.1 * b.2 + b.1 * a.2) (a.2 * b.2) else ((0, 0), 1)
def subR (a b : Int × Int) : (Int × Int) × Int := if isRatio a.1 a.2 = true ∧ isRatio b.1 b.2 = true then reduced (a.1 * b.2 - b.1 * a.2) (a.2 * b.2) else ((0, 0), 1)
def mulR (a b : Int × Int) : (Int × Int) × Int := if isRatio a.1 a.2 = true ∧ isRatio b.1 b.2 = true then reduced (a.1 * b.1) (a.2 * b.2) else ((0, 0), 1)
/-- A share. -/
def isShare (n d : Int) : Bool := isRatio n d && decide (0 ≤ n ∧ n ≤ d)
/-- A quotient of numbers of chips, and a code. -/
def quot (num den : Int) : (Int × Int) × Int := if den = 0 then ((0, 0), 5) else reduced num den
def quotR (a b num den : Int) : (Int × Int) × Int := if (0 ≤ a ∧ a ≤ 1000000) ∧ (0 ≤ b ∧ b ≤ 1000000) then quot num den else ((0, 0), 2)
/-- Several operations, of which the first error is kept. -/
def stp (f : Int × Int → Int × Int → (Int × Int) × Int) (c : Int) (a b : Int × Int) : (Int × Int) × Int := if c ≠ 0 then ((0, 1), c) else f a b
def fin (r : (Int × Int) × Int) : (Int × Int) × Int := if r.2 ≠ 0 then ((0, 0), r.2) else (r.1, 0)
def bnd (r : (Int × Int) × Int) (f : Int × Int → (Int × Int) × Int) : (Int × Int) × Int := if r.2 ≠ 0 then ((0, 0), r.2) else f r.1
def callW (pot call : Int) (e : Int × Int) : (Int × Int) × Int := bnd (mulR e (pot + call, 1)) fun x => subR x (call, 1)
def callS (pot call : Int) (e : Int × Int) : (Int × Int) × Int :=
 fin (stp addR (stp mulR 0 e (pot + call, 1)).2 (stp mulR 0 e (pot + call, 1)).1 (-call, 1))
/-- What a call wins, and a code. -/
def callV (pot call : Int) (e : Int × Int) : (Int × Int) × Int :=
 if isShare e.1 e.2 = true then (if (0 ≤ pot ∧ pot ≤ 1000000) ∧ (0 ≤ call ∧ call ≤ 1000000) then callW pot call e else ((0, 0), 2)) else ((0, 0), 1)
def betW (pot bet : Int) (f e : Int × Int) : (Int × Int) × Int :=
 bnd (mulR e (pot + 2 * bet, 1)) fun won => bnd (subR won (bet, 1)) fun called => bnd (subR (1, 1) f) fun calls => bnd (mulR calls called) fun first => bnd (mulR f (pot, 1)) fun second => addR first second
def betS (pot bet : Int) (f e : Int × Int) : (Int × Int) × Int :=
 let won := stp mulR 0 e (pot + 2 * bet, 1)
 let called := stp addR won.2 won.1 (-bet, 1)
 let stay := stp addR called.2 (1, 1) (-f.1, f.2)
 let part := stp mulR stay.2 stay.1 called.1
 let wn := stp mulR part.2 f (pot, 1)
 fin (stp addR wn.2 wn.1 part.1)
/-- What a bet wins, and a code. -/
def betV (pot bet : Int) (f e : Int × Int) : (Int × Int) × Int :=
 if isShare f.1 f.2 = true ∧ isShare e.1 e.2 = true then (if (0 ≤ pot ∧ pot ≤ 1000000) ∧ (0 ≤ bet ∧ bet ≤ 1000000) then betW pot bet f e else ((0, 0), 2)) else ((0, 0), 1)
/-- What is left of a stack behind some streets. -/
def left : Nat → Int → Int → Int → Int
 | 0, _, s, _ => s
 | k + 1, p, s, b => left k (p + 2 * min s ((b * p + 99) / 100)) (s - min s ((b * p + 99) / 100)) b
def inGeo (pot stack streets : Int) : Prop := (1 ≤ pot ∧ pot ≤ 10000) ∧ (1 ≤ stack ∧ stack ≤ 10000) ∧ (1 ≤ streets ∧ streets ≤ 4)
/-- The least bet by which the whole stack goes in. -/
def isGeo (pot stack streets n : Int) : Prop := 0 ≤ n ∧ n ≤ 1000000 ∧ left streets.toNat pot stack n = 0 ∧ ∀ b, 0 ≤ b → b < n → left streets.toNat pot stack b ≠ 0
def Geo (pot stack streets : Int) (x : Int × Int) : Prop := (inGeo pot stack streets ∧ isGeo pot stack streets x.1 ∧ x.2 = 0) ∨ (¬ inGeo pot stack streets ∧ x = (0, 2))
end Go.Proofs.Ytjengglpbdgmnaa.Math
/- Plain facts on the answers of values and mixed strategies. No condition. -/
namespace Go.Proofs.Ytjengglpbdgmnaa.Math
open Go Go.Proofs.Ytjengglpbdgmnaa.V
set_option linter.unusedVariables false
set_option linter.unusedSimpArgs false
def dealAt (z : List Nd) (ws vs : List (List Int)) (pl : Int) (ps : List (List Int)) (ql : Int) (qs : List (List Int)) (a b : Int) : Int × Int :=
  if isPair z ws vs pl ps ql qs = true then if (0 ≤ a ∧ a ≤ (ws.length : Int) - 1) ∧ (0 ≤ b ∧ b ≤ (ws.length : Int) - 1) then (value z vs ws.length ps qs a b 0 (depth z 0), 0) else (0, 2) else (0, 1)
def gameAt (z : List Nd) (ws vs : List (List Int)) (pl : Int) (ps : List (List Int)) (ql : Int) (qs : List (List Int)) : Int × Int × Int :=
  if isPair z ws vs pl ps ql qs = true then (numTo z ws vs ws.length ps qs ws.length, unit z ws, 0) else (0, 0, 1)
noncomputable def endsTo (z : List Nd) (ws : List (List Int)) (k : Nat) (ps qs : List (List Int)) (i : Nat) : List Int := mapR (fun i => reTo z ws k ps qs ((nodesOf z 2).getD i 0) k) i
theorem endsTo_s (z : List Nd) (ws : List (List Int)) (k : Nat) (ps qs : List (List Int)) (i : Nat) : endsTo z ws k ps qs i ++ [reTo z ws k ps qs ((nodesOf z 2).getD i 0) k] = endsTo z ws k ps qs (i + 1) := mapR_snoc (fun i => reTo z ws k ps qs ((nodesOf z 2).getD i 0) k) i
noncomputable def endsAt (z : List Nd) (ws vs : List (List Int)) (pl : Int) (ps : List (List Int)) (ql : Int) (qs : List (List Int)) : List Int × Int :=
  if isPair z ws vs pl ps ql qs = true then (endsTo z ws ws.length ps qs (nodesOf z 2).length, 0) else ([], 1)
def ratioAt (z : List Nd) (ws vs : List (List Int)) (pl : Int) (ps : List (List Int)) (ql : Int) (qs : List (List Int)) : (Int × Int) × Int :=
  if isPair z ws vs pl ps ql qs = true then reduced (numTo z ws vs ws.length ps qs ws.length) (unit z ws) else ((0, 0), 1)
section
variable {z : List Nd} {ws vs ps qs : List (List Int)} {pl ql a b n : Int} {k m : Nat}
theorem endsAt_1 (h : isPair z ws vs pl ps ql qs = false) : endsAt z ws vs pl ps ql qs = ([], 1) := if_neg (by rw [h]; decide)
theorem endsAt_0 (hk : ws.length = k) (h : isPair z ws vs pl ps ql qs = true) {i : Nat} (hi : i = (nodesOf z 2).length) : endsAt z ws vs pl ps ql qs = (endsTo z ws k ps qs i, 0) := by subst hk; subst hi; exact if_pos h
theorem endsAt_len (z : List Nd) (ws vs : List (List Int)) (pl : Int) (ps : List (List Int)) (ql : Int) (qs : List (List Int)) : (endsAt z ws vs pl ps ql qs).1.length ≤ 60 := by
  unfold endsAt; split
  · rename_i h
    have h1 := nodesOf_len z 2
    have h2 := (isTree_ok (isGame_ok (isPair_ok h).2.2.g).1).1
    show (mapR _ _).length ≤ 60
    rw [mapR_len]; omega
  · exact Nat.zero_le _
theorem unit_bd (h : isGame z ws vs = true) : 1 ≤ unit z ws ∧ unit z ws ≤ 251942400000 := by
  have hG := isGame_ok h
  have hT := isTree_ok hG.1
  have h1 := total_le hG.2.1.2 hG.2.2.1
  have h2 := p60_5 (k := (depth z 0).toNat) (by omega)
  have h3 := mul_bd h1.1 h1.2 (by omega) h2.2
  have h4 : 1 * 1 ≤ total ws * p60 (depth z 0).toNat := Int.mul_le_mul (by omega) h2.1 (by decide) h1.1
  unfold unit; omega
/-- Mixed strategies. -/
def mixRow (n : Int) (r s : List Int) (j : Nat) : List Int := mapR (fun j => n * r.getD j 0 + (60 - n) * s.getD j 0) j
noncomputable def mixTo (n : Int) (ps qs : List (List Int)) (i : Nat) : List (List Int) := mapR (fun i => partsOf (mixRow n (ps.getD i []) (qs.getD i []) (ps.getD i []).length)) i
end
noncomputable def mixAt (z : List Nd) (ws vs : List (List Int)) (pl : Int) (ps : List (List Int)) (ql : Int) (qs : List (List Int)) (n : Int) : (Int × List (List Int)) × Int :=
  if isStrat z ws vs pl ps = true ∧ isStrat z ws vs ql qs = true then if 0 ≤ n ∧ n ≤ 60 then if pl = ql then ((pl, mixTo n ps qs ps.length), 0) else ((0, []), 5) else ((0, []), 2) else ((0, []), 1)
section
variable {z : List Nd} {ws vs ps qs : List (List Int)} {pl ql n : Int} {k m : Nat}
end
end Go.Proofs.Ytjengglpbdgmnaa.Math
/- Plain facts on mirrored games. No condition. -/
namespace Go.Proofs.Ytjengglpbdgmnaa.Math
open Go.Proofs.Ytjengglpbdgmnaa.V
set_option linter.unusedVariables false
set_option linter.unusedSimpArgs false
def swap (n : Int) : Int := if n = 0 ∨ n = 1 then 1 - n else n
def mirN (x : Nd) : Nd := ⟨swap x.pl, x.p1, x.p0, swap x.fo, x.ch⟩
def mirWc (ws : List (List Int)) (a b : Nat) : Int := (ws.getD b []).getD a 0
def mirVc (vs : List (List Int)) (a b : Nat) : Int := -(vs.getD b []).getD a 0
def mirWs (ws : List (List Int)) (k i : Nat) : List (List Int) := mapR (fun a => mapR (mirWc ws a) k) i
def mirVs (vs : List (List Int)) (k i : Nat) : List (List Int) := mapR (fun a => mapR (mirVc vs a) k) i
theorem mapR_succ (f : Nat → Int) (k : Nat) : (mapR f (k + 1)).sum = (mapR f k).sum + f k := by
 rw [← mapR_snoc, List.sum_append]; simp
theorem mapR_add (f g : Nat → Int) : ∀ k, (mapR (fun i => f i + g i) k).sum = (mapR f k).sum + (mapR g k).sum
 | 0 => rfl
 | k + 1 => by rw [mapR_succ, mapR_succ, mapR_succ, mapR_add f g k]; omega
/-- Sums over rows and over columns. -/
theorem sum_swap (f : Nat → Nat → Int) (k : Nat) : ∀ i, (mapR (fun a => (mapR (fun b => f a b) k).sum) i).sum = (mapR (fun b => (mapR (fun a => f a b) i).sum) k).sum
 | 0 => by
  have : ∀ k, (mapR (fun b => (mapR (fun a => f a b) 0).sum) k).sum = 0 := fun k => by
   induction k with
   | zero => rfl
   | succ k ih => rw [mapR_succ, ih]; rfl
  rw [this]; rfl
 | i + 1 => by
  rw [mapR_succ, sum_swap f k i, ← mapR_add]
  congr 1
  unfold mapR
  refine List.map_congr_left fun b _ => ?_
  exact (mapR_succ (fun a => f a b) i).symm
theorem list_mapR {α : Type} (l : List α) (d : α) : l = mapR (fun i => l.getD i d) l.length := by
 refine List.ext_getElem (by rw [mapR_len]) fun i h1 h2 => ?_
 simp [mapR, List.getD, List.getElem?_eq_getElem h1]
theorem total_mapR {ws : List (List Int)} {k : Nat} (h : matB k 0 9 ws = true) : total ws = (mapR (fun a => (mapR (fun b => (ws.getD a []).getD b 0) k).sum) k).sum := by
 have hl := mat_len h
 have h1 : ws.map List.sum = mapR (fun a => (mapR (fun b => (ws.getD a []).getD b 0) k).sum) k := by
  conv => lhs; rw [list_mapR ws []]
  unfold mapR
  rw [List.map_map, hl]
  refine List.map_congr_left fun a ha => ?_
  have hr := row_len (mat_row h (List.mem_range.1 ha))
  show (ws.getD a []).sum = _
  conv => lhs; rw [list_mapR (ws.getD a []) 0, hr]
  rfl
 unfold total; rw [h1]
def cardF (ws : List (List Int)) (p : Int) (c b : Nat) : Int := if p = 0 then (ws.getD c []).getD b 0 else (ws.getD b []).getD c 0
def cardSum (ws : List (List Int)) (p : Int) (c k : Nat) : Int := (mapR (cardF ws p c) k).sum
def mirAt (z : List Nd) (ws vs : List (List Int)) : G3 × Int := if isGame z ws vs = true then ((z.map mirN, mirWs ws ws.length ws.length, mirVs vs ws.length ws.length), 0) else (([], [], []), 1)
end Go.Proofs.Ytjengglpbdgmnaa.Math
/- Contracts of ways. Their conditions stand in each. -/
namespace Go.Proofs.Ytjengglpbdgmnaa
open Go Go.RowKit V
set_option linter.unusedVariables false
set_option linter.unusedSimpArgs false
set_option maxRecDepth 100000
theorem spec_l20Way_c_r (kk_ : Nat) : ∀ (az : Option Addr) (nz : Nat) (cz : Nat) (Hz : Nat → Hd) (z : List Nd) (u : Int) (w : World), u.toNat = kk_ → RdR ndK az nz Hz z w → (Math.isTree z = true) → (0 ≤ u ∧ u < (nz : Int)) → Calls Try.prog 105 #[.agg #[.slice az nz cz], .int .i64 u] w (Ret fun v w' => ∃ x : Option Addr × Nat × Nat × List Int, v = .slice x.1 x.2.1 x.2.2.1 ∧ (x.2.2.2 = Math.wayOf z u) ∧ Sep w none_ [OwnI 2 x.1 x.2.1 x.2.2.1 x.2.2.2] w') := by
 induction kk_ using Nat.strongRecOn with
 | _ kk_ ih =>
  intro az nz cz Hz z u w hK rz ht hu
  have kz : Kn w none_ [] (RdR ndK az nz Hz z) := fun w' hs => rz.ext hs.upd
  have lz : z.length = nz := rz.1
  have mz : nz ≤ 9223372036854775807 := rz.2.1
  have hn := (Math.isTree_ok ht).1
  refine fn (M := none_) (rs := [.tmp 4]) Try.func105 rfl Try.ntmps105 rfl rfl (Sep.start _ _) ?_
  refine hSeq ?_
  refine hReg (sl 0 (sq 1 sz)) (by kernel_rfl) ?_
  refine box trv1 rfl rfl rfl rfl (fun bkb1 hbkb1 => ?_)
  refine asS rfl rfl rfl ?_
  refine rNil ?_
  refine qSeq rfl ?_
  refine hSeq ?_
  refine hSeq ?_
  refine hReg (sq 0 (sq 1 sz)) (by kernel_rfl) ?_
  refine mvI rfl rfl rfl ?_
  refine eql rfl rfl rfl rfl ?_
  refine rNil ?_
  refine qSeq rfl ?_
  refine hIfD rfl (fun c1 => ?_) (fun c1 => ?_)
  ·
   replace c1 : u = 0 := c1
   refine hSeq ?_
   refine hReg (sl 0 (sq 1 sz)) (by kernel_rfl) ?_
   refine bsl trv1 rfl rfl rfl (bsl28_0) (fun bkl2 hbkl2 => ?_)
   refine asS rfl rfl rfl ?_
   refine rNil ?_
   refine qSeq rfl ?_
   refine hRet ?_
   refine knP (fun _ h => Sep.litI h 0 [] rfl rfl rfl) ?_
   exact fun w hs => ⟨[.slice (some ⟨bkl2, 0, none⟩) 0 0], ⟨rfl, trivial⟩, ⟨((some ⟨bkl2, 0, none⟩), 0, 0, []), rfl, by rw [c1]; exact (Math.wayOf_0 ht).symm, hs.pick [0]⟩⟩
  ·
   replace c1 : ¬ (u = 0) := c1
   refine hSkip ?_
   refine qSeq rfl ?_
   refine hSeq ?_
   refine hSeq ?_
   refine hReg (sq 0 sz) (by kernel_rfl) ?_
   refine asI rfl rfl rfl ?_
   refine rNil ?_
   refine qSeq rfl ?_
   refine hBlk ?_
   refine hLoop (α := Nat) (fun i => (i : Int) ≤ u ∧ ∀ j, j < i → ¬ u ∈ (z.getD j dN).ch) (fun i => u.toNat - i) (fun i => [blk bkb1 26 [.slice az nz cz]]) (fun i => [(1, .int .i64 u), (2, .pointer (some ⟨bkb1, 0, none⟩)), (5, .int .i64 (i : Int))]) 0 ⟨by omega, fun j hj => by omega⟩ (fun _ h => h.pick [0]) ⟨rfl, rfl, rfl, trivial⟩ ?_
   rintro i τ1 ⟨hi, hal⟩
   refine hSeq ?_
   refine hSeq ?_
   refine hReg (sq 0 (sq 1 (sq 2 sz))) (by kernel_rfl) ?_
   refine mvI rfl rfl rfl ?_
   refine mvI rfl rfl rfl ?_
   refine lss rfl rfl rfl rfl ?_
   refine rNil ?_
   refine qSeq rfl ?_
   refine hIfD rfl (fun c2 => ?_) (fun c2 => ?_)
   ·
    replace c2 : (i : Int) < u := c2
    have hch := Math.ok_pl ((Math.allOk_iff' lz).1 (Math.isTree_ok ht).2.1 i (by omega))
    have hyl := Math.wayAt_len z (i : Int)
    rw [Math.wayAt_yes lz ht (by omega)] at hyl
    dsimp only at hyl
    refine hSkip ?_
    refine qSeq rfl ?_
    refine hSeq ?_
    refine hBlk ?_
    refine hSeq ?_
    refine hReg (sq 0 sz) (by kernel_rfl) ?_
    refine asI rfl rfl rfl ?_
    refine rNil ?_
    refine qSeq rfl ?_
    refine hBlk ?_
    refine hLoop (α := Nat) (fun k => k ≤ (z.getD i dN).ch.length ∧ ∀ q, q < k → (z.getD i dN).ch.getD q 0 ≠ u) (fun k => (z.getD i dN).ch.length - k) (fun k => [blk bkb1 26 [.slice az nz cz]]) (fun k => [(1, .int .i64 u), (2, .pointer (some ⟨bkb1, 0, none⟩)), (5, .int .i64 (i : Int)), (6, .int .i64 (k : Int))]) 0 ⟨Nat.zero_le _, fun q hq => by omega⟩ (fun _ h => h.pick [0]) ⟨rfl, rfl, rfl, rfl, trivial⟩ ?_
    rintro k τ2 ⟨hk, hin⟩
    refine hSeq ?_
    refine hSeq ?_
    refine hReg (sq 0 (sq 1 (sl 2 (sq 3 (sq 4 (sq 5 (sl 6 (sq 7 (sq 8 sz))))))))) (by kernel_rfl) ?_
    refine mvI rfl rfl rfl ?_
    refine fld fl26_0 rfl rfl rfl ?_
    refine ldl Try.isAgg24 (cB 0 rfl rfl) trv rfl rfl rfl ?_
    refine mvI rfl rfl rfl ?_
    refine ixRl (zn := i) (z.getD i dN) el24 (Kn.drop (k := 1) kz) rfl rfl rfl rfl (by omega) (by omega) rfl (nth dN (by omega)) ?_
    intro be1 oe1 e1
    refine fld fl88_4 rfl rfl rfl ?_
    refine ldl Try.isAgg28 (Kn.fld e1 4 rfl) trv rfl rfl rfl ?_
    refine lenS Try.runUnderlying28 rfl rfl rfl ?_
    refine lss rfl rfl rfl rfl ?_
    refine rNil ?_
    refine qSeq rfl ?_
    refine hIfD rfl (fun c3 => ?_) (fun c3 => ?_)
    ·
     replace c3 : (k : Int) < ((((z.getD i dN).ch).length : Nat) : Int) := c3
     refine hSkip ?_
     refine qSeq rfl ?_
     refine hSeq ?_
     refine hBlk ?_
     refine hSeq ?_
     refine hReg (sq 0 (sl 1 (sq 2 (sq 3 (sq 4 (sl 5 (sq 6 (sq 7 (sl 8 (sq 9 (sq 10 sz))))))))))) (by kernel_rfl) ?_
     refine fld fl26_0 rfl rfl rfl ?_
     refine ldl Try.isAgg24 (cB 0 rfl rfl) trv rfl rfl rfl ?_
     refine mvI rfl rfl rfl ?_
     refine ixRl (zn := i) (z.getD i dN) el24 (Kn.drop (k := 1) kz) rfl rfl rfl rfl (by omega) (by omega) rfl (nth dN (by omega)) ?_
     intro be2 oe2 e2
     refine fld fl88_4 rfl rfl rfl ?_
     refine ldl Try.isAgg28 (Kn.fld e2 4 rfl) trv rfl rfl rfl ?_
     refine mvI rfl rfl rfl ?_
     refine ixIl (zn := k) el28 (Kn.drop (k := 1) ((Kn.imp kz fun _ h => h.kidN (nth dN (by omega))))) rfl rfl rfl rfl (by omega) (by omega) rfl ?_
     intro ae3 e3
     refine ldl Try.isAgg2 (e3) trv rfl rfl rfl ?_
     refine mvI rfl rfl rfl ?_
     refine eql rfl rfl rfl rfl ?_
     refine rNil ?_
     refine qSeq rfl ?_
     refine hIfD rfl (fun c4 => ?_) (fun c4 => ?_)
     ·
      replace c4 : (((z.getD i dN).ch).getD k 0) = u := c4
      refine hSeq ?_
      refine hReg (sl 0 (sq 1 (sl 2 (sq 3 (sl 4 (sl 5 (sq 6 sz))))))) (by kernel_rfl) ?_
      refine ldAl Try.isAgg26 Try.sizeOf26 (cBs 0 rfl) trv rfl rfl rfl rfl ?_
      refine mvI rfl rfl rfl ?_
      refine callS Try.call105 trv1 rfl rfl (fun w hs => ih _ (by omega) _ nz cz _ _ _ w rfl (Kn.drop (k := 1) kz w hs) (by assumption) (by omega)) ?_
      rintro ⟨ay4, ny4, cy4, y4⟩ hr4
      dsimp only at hr4
      subst y4
      refine rKnow (fun w hs => (show OwnI 2 ay4 ny4 cy4 (((Math.wayOf z (i : Int)))) w from hs.at_ 0 rfl).lenz) (fun lenn4 => ?_)
      refine mvI rfl rfl rfl ?_
      refine bsl trv1 rfl rfl rfl (bsl28_1 (.int .i64 _) rfl) (fun bkl5 hbkl5 => ?_)
      refine aplI (N := ny4) (x := (k : Int)) 1 0 rfl rfl mk28 trv1 rfl rfl rfl rfl (by omega) ?_
      intro aq5 cq5
      refine asS rfl rfl rfl ?_
      refine rNil ?_
      refine qSeq rfl ?_
      refine hRet ?_
      exact fun w hs => ⟨[.slice aq5 (ny4 + 1) cq5], ⟨rfl, trivial⟩, ⟨(aq5, (ny4 + 1), cq5, (((Math.wayOf z (i : Int))) ++ [(k : Int)])), rfl, Math.way_found ht (by omega) (by omega) (by omega) c4 hin, hs.pick [1]⟩⟩
     ·
      replace c4 : ¬ ((((z.getD i dN).ch).getD k 0) = u) := c4
      refine hSkip ?_
      refine qSeq rfl ?_
      refine hReg (sq 0 (sq 1 (sq 2 sz))) (by kernel_rfl) ?_
      refine mvI rfl rfl rfl ?_
      refine add rfl rfl rfl rfl (by omega) ?_
      refine asI rfl rfl rfl ?_
      refine rNil ?_
      exact qNext rfl (k + 1) (by omega) ⟨by omega, Math.upto hin (by assumption)⟩ ⟨rfl, rfl, rfl, rfl, trivial⟩ (fun _ h => h.pick [0])
    ·
     replace c3 : ¬ ((k : Int) < ((((z.getD i dN).ch).length : Nat) : Int)) := c3
     refine hExit rfl ?_
     refine qSeq rfl ?_
     refine hReg (sq 0 (sq 1 (sq 2 sz))) (by kernel_rfl) ?_
     refine mvI rfl rfl rfl ?_
     refine add rfl rfl rfl rfl (by omega) ?_
     refine asI rfl rfl rfl ?_
     refine rNil ?_
     exact qNext rfl (i + 1) (by omega) ⟨by omega, Math.upto hal (Math.not_kid fun q hq => hin q (by omega))⟩ ⟨rfl, rfl, rfl, trivial⟩ (fun _ h => h.pick [0])
   ·
    replace c2 : ¬ ((i : Int) < u) := c2
    exact (Math.no_way ht (i := i) (u := u) (by omega) (by omega) hal).elim
theorem spec_l20Way_c (az : Option Addr) (nz : Nat) (cz : Nat) (Hz : Nat → Hd) (z : List Nd) (u : Int) (w : World) (rz : RdR ndK az nz Hz z w) (ht : Math.isTree z = true) (hu : 0 ≤ u ∧ u < (nz : Int)) :
  Calls Try.prog 105 #[.agg #[.slice az nz cz], .int .i64 u] w (Ret fun v w' => ∃ x : Option Addr × Nat × Nat × List Int, v = .slice x.1 x.2.1 x.2.2.1 ∧ (x.2.2.2 = Math.wayOf z u) ∧ Sep w none_ [OwnI 2 x.1 x.2.1 x.2.2.1 x.2.2.2] w') := spec_l20Way_c_r _ az nz cz Hz z u w rfl rz ht hu
end Go.Proofs.Ytjengglpbdgmnaa
