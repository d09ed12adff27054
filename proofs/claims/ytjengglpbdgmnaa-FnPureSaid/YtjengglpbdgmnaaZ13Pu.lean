/- Contracts of games and strategies that laws draw. Their conditions stand in each. -/
import Derived.Test.YtjengglpbdgmnaaZ12Pu
import Derived.Test.YtjengglpbdgmnaaZ2Pu
import Derived.Test.YtjengglpbdgmnaaZ3Pu
import Derived.Test.YtjengglpbdgmnaaZ10Pu
import Derived.Test.YtjengglpbdgmnaaZ4Pu
import Derived.Test.YtjengglpbdgmnaaZ7Pu
import Derived.Test.YtjengglpbdgmnaaZ8Pu
import Derived.Test.YtjengglpbdgmnaaZ11Pu
import Derived.Test.YtjengglpbdgmnaaZ5Pu
import Derived.Test.YtjengglpbdgmnaaZ6Pu
import Derived.Test.YtjengglpbdgmnaaZ9Pu
import Derived.Test.YtjengglpbdgmnaaRows
namespace Go.Proofs.Ytjengglpbdgmnaa
open Go Go.RowKit V
set_option linter.unusedVariables false
set_option linter.unusedSimpArgs false
set_option maxRecDepth 100000
set_option maxHeartbeats 4000000 in
theorem spec_DrawIsStrategy_c (ca : Option Addr) (bs : List Int) (cc : Nat) (w : World) (rcode : CellsAt ca (bs.map (Value.int .u8)) w) (hok : okBytes bs) :
  Calls Try.prog 135 #[.slice ca bs.length cc] w (Ret fun v w' => ∃ x : Option Addr × Nat × Nat × (Nat → Hd) × List Nd × Option Addr × Nat × Nat × (Nat → Hd) × List (List Int) × Option Addr × Nat × Nat × (Nat → Hd) × List (List Int) × Int × Option Addr × Nat × Nat × (Nat → Hd) × List (List Int), v = .tuple #[.agg #[.slice x.1 x.2.1 x.2.2.1, .slice x.2.2.2.2.2.1 x.2.2.2.2.2.2.1 x.2.2.2.2.2.2.2.1, .slice x.2.2.2.2.2.2.2.2.2.2.1 x.2.2.2.2.2.2.2.2.2.2.2.1 x.2.2.2.2.2.2.2.2.2.2.2.2.1], .agg #[.int .i64 x.2.2.2.2.2.2.2.2.2.2.2.2.2.2.2.1, .slice x.2.2.2.2.2.2.2.2.2.2.2.2.2.2.2.2.1 x.2.2.2.2.2.2.2.2.2.2.2.2.2.2.2.2.2.1 x.2.2.2.2.2.2.2.2.2.2.2.2.2.2.2.2.2.2.1]] ∧ (x.2.1 ≤ 250 ∧ ((1 ≤ x.2.2.2.2.2.2.1 ∧ x.2.2.2.2.2.2.1 ≤ 4) ∧ x.2.2.2.2.2.2.2.2.2.2.2.1 ≤ 4) ∧ ((-1 ≤ x.2.2.2.2.2.2.2.2.2.2.2.2.2.2.2.1 ∧ x.2.2.2.2.2.2.2.2.2.2.2.2.2.2.2.1 ≤ 2) ∧ x.2.2.2.2.2.2.2.2.2.2.2.2.2.2.2.2.2.1 ≤ 361)) ∧ Sep w none_ [RdR ndK x.1 x.2.1 x.2.2.2.1 x.2.2.2.2.1, RdR maK x.2.2.2.2.2.1 x.2.2.2.2.2.2.1 x.2.2.2.2.2.2.2.2.1 x.2.2.2.2.2.2.2.2.2.1, RdR maK x.2.2.2.2.2.2.2.2.2.2.1 x.2.2.2.2.2.2.2.2.2.2.2.1 x.2.2.2.2.2.2.2.2.2.2.2.2.2.1 x.2.2.2.2.2.2.2.2.2.2.2.2.2.2.1, OwnR maK 28 2 x.2.2.2.2.2.2.2.2.2.2.2.2.2.2.2.2.1 x.2.2.2.2.2.2.2.2.2.2.2.2.2.2.2.2.2.1 x.2.2.2.2.2.2.2.2.2.2.2.2.2.2.2.2.2.2.1 x.2.2.2.2.2.2.2.2.2.2.2.2.2.2.2.2.2.2.2.1 x.2.2.2.2.2.2.2.2.2.2.2.2.2.2.2.2.2.2.2.2] w') := by
 have kcode : Kn w none_ [] (CellsAt ca (bs.map (Value.int .u8))) := fun w' hs => rcode.ext hs.upd
 refine fn (M := none_) (rs := [.cell 2 43, .cell 3 56]) Try.func135 rfl Try.ntmps135 rfl rfl (Sep.start _ _) ?_
 refine hSeq ?_
 refine hReg (sl 0 (sl 1 sz)) (by kernel_rfl) ?_
 refine alc Try.zeroValue43 rfl trv1 rfl rfl (fun bka1 hbka1 => ?_)
 refine alc Try.zeroValue56 rfl trv1 rfl rfl (fun bka2 hbka2 => ?_)
 refine rNil ?_
 refine qSeq rfl ?_
 refine hSeq ?_
 refine hReg (sq 0 (sl 1 (sq 2 sz))) (by kernel_rfl) ?_
 refine mvS rfl rfl rfl ?_
 refine callN (α := Nat) (val := fun x => .pointer (some ⟨x, 0, none⟩)) (good := fun _ => True) (φ := fun x => srcP x ca bs cc) Try.call92 trv1 rfl rfl (fun w hs => (l01From_c ca bs cc w (kcode w (hs.sub (List.nil_sublist _))) hok).mono fun e w1 ⟨v, h0, bk, h1, h2, h3, h4⟩ => ⟨v, h0, bk, h1, trivial, h3, h4⟩) ?_
 rintro bks3 -
 refine asn rfl rfl rfl ?_
 refine rNil ?_
 refine qSeq rfl ?_
 refine hSeq ?_
 refine hReg (sq 0 (sq 1 (sl 2 (sl 3 (sq 4 (sq 5 (sl 6 (sl 7 sz)))))))) (by kernel_rfl) ?_
 refine mvP rfl rfl rfl ?_
 refine mvP rfl rfl rfl ?_
 refine callMK (α := Int) (Lf := [srcP bks3 ca bs cc]) (Lr := [blk bka2 56 [.int .i64 0, .slice none 0 0], blk bka1 43 [.slice none 0 0, .slice none 0 0, .slice none 0 0]]) (good := fun x => 0 ≤ x ∧ (x < (2 : Int) ∨ x = 0)) (φs := fun x => [srcP bks3 ca bs cc]) (val := fun x => .int .i64 x) rfl Try.call95 trv1 rfl rfl (fun w M1 hs hk => src_next bks3 ca bs cc (2 : Int) w M1 hs (hk _ kcode) hok) ?_
 intro x1 hx1
 replace hx1 : 0 ≤ x1 ∧ x1 < (2 : Int) := by omega
 try dsimp only at hx1
 refine rPieces (L' := [srcP bks3 ca bs cc, blk bka2 56 [.int .i64 0, .slice none 0 0], blk bka1 43 [.slice none 0 0, .slice none 0 0, .slice none 0 0]]) (fun _ h => h) ?_
 refine callMK (α := Option Addr × Nat × Nat × (Nat → Hd) × List Nd × Option Addr × Nat × Nat × (Nat → Hd) × List (List Int) × Option Addr × Nat × Nat × (Nat → Hd) × List (List Int) × Int × Option Addr × Nat × Nat × (Nat → Hd) × List (List Int)) (Lf := [srcP bks3 ca bs cc]) (Lr := [blk bka2 56 [.int .i64 0, .slice none 0 0], blk bka1 43 [.slice none 0 0, .slice none 0 0, .slice none 0 0]]) (good := fun x => (x.2.1 ≤ 250 ∧ ((1 ≤ x.2.2.2.2.2.2.1 ∧ x.2.2.2.2.2.2.1 ≤ 4) ∧ x.2.2.2.2.2.2.2.2.2.2.2.1 ≤ 4)) ∧ ((-1 ≤ x.2.2.2.2.2.2.2.2.2.2.2.2.2.2.2.1 ∧ x.2.2.2.2.2.2.2.2.2.2.2.2.2.2.2.1 ≤ 2) ∧ x.2.2.2.2.2.2.2.2.2.2.2.2.2.2.2.2.2.1 ≤ 361)) (φs := fun x => [srcP bks3 ca bs cc, RdR ndK x.1 x.2.1 x.2.2.2.1 x.2.2.2.2.1, RdR maK x.2.2.2.2.2.1 x.2.2.2.2.2.2.1 x.2.2.2.2.2.2.2.2.1 x.2.2.2.2.2.2.2.2.2.1, RdR maK x.2.2.2.2.2.2.2.2.2.2.1 x.2.2.2.2.2.2.2.2.2.2.2.1 x.2.2.2.2.2.2.2.2.2.2.2.2.2.1 x.2.2.2.2.2.2.2.2.2.2.2.2.2.2.1, OwnR maK 28 2 x.2.2.2.2.2.2.2.2.2.2.2.2.2.2.2.2.1 x.2.2.2.2.2.2.2.2.2.2.2.2.2.2.2.2.2.1 x.2.2.2.2.2.2.2.2.2.2.2.2.2.2.2.2.2.2.1 x.2.2.2.2.2.2.2.2.2.2.2.2.2.2.2.2.2.2.2.1 x.2.2.2.2.2.2.2.2.2.2.2.2.2.2.2.2.2.2.2.2]) (val := fun x => .tuple #[.agg #[.slice x.1 x.2.1 x.2.2.1, .slice x.2.2.2.2.2.1 x.2.2.2.2.2.2.1 x.2.2.2.2.2.2.2.1, .slice x.2.2.2.2.2.2.2.2.2.2.1 x.2.2.2.2.2.2.2.2.2.2.2.1 x.2.2.2.2.2.2.2.2.2.2.2.2.1], .agg #[.int .i64 x.2.2.2.2.2.2.2.2.2.2.2.2.2.2.2.1, .slice x.2.2.2.2.2.2.2.2.2.2.2.2.2.2.2.2.1 x.2.2.2.2.2.2.2.2.2.2.2.2.2.2.2.2.2.1 x.2.2.2.2.2.2.2.2.2.2.2.2.2.2.2.2.2.2.1]]) rfl Try.call174 trv1 rfl rfl (fun w M1 hs hk => spec_l22Draw_c bks3 ca bs cc x1 w M1 hs (hk _ kcode) hok (by omega)) ?_
 rintro ⟨ay2, ny2, cy2, Hy2, y2, ayw2, nyw2, cyw2, Hyw2, yw2, ayv2, nyv2, cyv2, Hyv2, yv2, pl2, ayp2, nyp2, cyp2, Hyp2, yp2⟩ hr2
 try dsimp only at hr2
 refine rPieces (L' := [srcP bks3 ca bs cc, RdR ndK ay2 ny2 Hy2 y2, RdR maK ayw2 nyw2 Hyw2 yw2, RdR maK ayv2 nyv2 Hyv2 yv2, OwnR maK 28 2 ayp2 nyp2 cyp2 Hyp2 yp2, blk bka2 56 [.int .i64 0, .slice none 0 0], blk bka1 43 [.slice none 0 0, .slice none 0 0, .slice none 0 0]]) (fun _ h => h) ?_
 refine rKnow (fun w hs => (show RdR ndK ay2 ny2 Hy2 y2 w from hs.at_ 1 rfl).1) (fun lenn4 => ?_)
 refine rKnow (fun w hs => (show RdR maK ayw2 nyw2 Hyw2 yw2 w from hs.at_ 2 rfl).1) (fun lenn5 => ?_)
 refine rKnow (fun w hs => (show RdR maK ayv2 nyv2 Hyv2 yv2 w from hs.at_ 3 rfl).1) (fun lenn6 => ?_)
 refine rKnow (fun w hs => (show OwnR maK 28 2 ayp2 nyp2 cyp2 Hyp2 yp2 w from hs.at_ 4 rfl).1) (fun lenn7 => ?_)
 refine ext rfl rfl rfl rfl ?_
 refine ext rfl rfl rfl rfl ?_
 refine stAl (vs := [.slice ay2 ny2 cy2, .slice ayw2 nyw2 cyw2, .slice ayv2 nyv2 cyv2]) 6 rfl Try.sizeOf43 trv rfl rfl rfl rfl rfl (by simp [Value.oneCell']) rfl ?_
 refine stAl (vs := [.int .i64 pl2, .slice ayp2 nyp2 cyp2]) 5 rfl Try.sizeOf56 trv rfl rfl rfl rfl rfl (by simp [Value.oneCell']) rfl ?_
 refine rNil ?_
 refine qSeq rfl ?_
 refine hRet ?_
 exact fun w hs => ⟨[_, _], ⟨⟨_, rfl, run_load_agg Try.isAgg43 Try.sizeOf43 rfl (cBs 6 rfl w hs)⟩, ⟨⟨_, rfl, run_load_agg Try.isAgg56 Try.sizeOf56 rfl (cBs 5 rfl w hs)⟩, trivial⟩⟩, ⟨(ay2, ny2, cy2, Hy2, y2, ayw2, nyw2, cyw2, Hyw2, yw2, ayv2, nyv2, cyv2, Hyv2, yv2, pl2, ayp2, nyp2, cyp2, Hyp2, yp2), rfl, ⟨by dsimp only; omega, ⟨⟨by dsimp only; omega, by dsimp only; omega⟩, by dsimp only; omega⟩, ⟨⟨by dsimp only; omega, by dsimp only; omega⟩, by dsimp only; omega⟩⟩, hs.pick [1, 1, 1, 1]⟩⟩
set_option maxHeartbeats 4000000 in
theorem spec_DrawCountPure_c (ca : Option Addr) (bs : List Int) (cc : Nat) (w : World) (rcode : CellsAt ca (bs.map (Value.int .u8)) w) (hok : okBytes bs) :
  Calls Try.prog 63 #[.slice ca bs.length cc] w (Ret fun v w' => ∃ x : Option Addr × Nat × Nat × (Nat → Hd) × List Nd × Option Addr × Nat × Nat × (Nat → Hd) × List (List Int) × Option Addr × Nat × Nat × (Nat → Hd) × List (List Int) × Int, v = .tuple #[.agg #[.slice x.1 x.2.1 x.2.2.1, .slice x.2.2.2.2.2.1 x.2.2.2.2.2.2.1 x.2.2.2.2.2.2.2.1, .slice x.2.2.2.2.2.2.2.2.2.2.1 x.2.2.2.2.2.2.2.2.2.2.2.1 x.2.2.2.2.2.2.2.2.2.2.2.2.1], .int .i64 x.2.2.2.2.2.2.2.2.2.2.2.2.2.2.2] ∧ (x.2.1 ≤ 250 ∧ ((1 ≤ x.2.2.2.2.2.2.1 ∧ x.2.2.2.2.2.2.1 ≤ 6) ∧ x.2.2.2.2.2.2.2.2.2.2.2.1 ≤ 6) ∧ (-1 ≤ x.2.2.2.2.2.2.2.2.2.2.2.2.2.2.2 ∧ x.2.2.2.2.2.2.2.2.2.2.2.2.2.2.2 ≤ 2)) ∧ Sep w none_ [RdR ndK x.1 x.2.1 x.2.2.2.1 x.2.2.2.2.1, RdR maK x.2.2.2.2.2.1 x.2.2.2.2.2.2.1 x.2.2.2.2.2.2.2.2.1 x.2.2.2.2.2.2.2.2.2.1, RdR maK x.2.2.2.2.2.2.2.2.2.2.1 x.2.2.2.2.2.2.2.2.2.2.2.1 x.2.2.2.2.2.2.2.2.2.2.2.2.2.1 x.2.2.2.2.2.2.2.2.2.2.2.2.2.2.1] w') := by
 have kcode : Kn w none_ [] (CellsAt ca (bs.map (Value.int .u8))) := fun w' hs => rcode.ext hs.upd
 refine fn (M := none_) (rs := [.cell 2 43, .tmp 3]) Try.func63 rfl Try.ntmps63 rfl rfl (Sep.start _ _) ?_
 refine hSeq ?_
 refine hReg (sl 0 (sq 1 sz)) (by kernel_rfl) ?_
 refine alc Try.zeroValue43 rfl trv1 rfl rfl (fun bka1 hbka1 => ?_)
 refine asI rfl rfl rfl ?_
 refine rNil ?_
 refine qSeq rfl ?_
 refine hSeq ?_
 refine hReg (sq 0 (sl 1 (sq 2 sz))) (by kernel_rfl) ?_
 refine mvS rfl rfl rfl ?_
 refine callN (α := Nat) (val := fun x => .pointer (some ⟨x, 0, none⟩)) (good := fun _ => True) (φ := fun x => srcP x ca bs cc) Try.call92 trv1 rfl rfl (fun w hs => (l01From_c ca bs cc w (kcode w (hs.sub (List.nil_sublist _))) hok).mono fun e w1 ⟨v, h0, bk, h1, h2, h3, h4⟩ => ⟨v, h0, bk, h1, trivial, h3, h4⟩) ?_
 rintro bks2 -
 refine asn rfl rfl rfl ?_
 refine rNil ?_
 refine qSeq rfl ?_
 refine hSeq ?_
 refine hSeq ?_
 refine hReg (sq 0 (sl 1 (sq 2 sz))) (by kernel_rfl) ?_
 refine mvP rfl rfl rfl ?_
 refine callMK (α := Int) (Lf := [srcP bks2 ca bs cc]) (Lr := [blk bka1 43 [.slice none 0 0, .slice none 0 0, .slice none 0 0]]) (good := fun x => 0 ≤ x ∧ (x < (30 : Int) ∨ x = 0)) (φs := fun x => [srcP bks2 ca bs cc]) (val := fun x => .int .i64 x) rfl Try.call95 trv1 rfl rfl (fun w M1 hs hk => src_next bks2 ca bs cc (30 : Int) w M1 hs (hk _ kcode) hok) ?_
 intro x1 hx1
 replace hx1 : 0 ≤ x1 ∧ x1 < (30 : Int) := by omega
 try dsimp only at hx1
 refine rPieces (L' := [srcP bks2 ca bs cc, blk bka1 43 [.slice none 0 0, .slice none 0 0, .slice none 0 0]]) (fun _ h => h) ?_
 refine eql rfl rfl rfl rfl ?_
 refine rNil ?_
 refine qSeq rfl ?_
 refine hIfD rfl (fun c1 => ?_) (fun c1 => ?_)
 ·
  replace c1 : x1 = 0 := c1
  have hbd := Math.betAt_bd 1 1 2
  have hlw : (Math.hcW 6 true 6).length = 6 := Math.mapR_len _ _
  have hlv : (Math.hcV 6 6).length = 6 := Math.mapR_len _ _
  refine hSeq ?_
  refine hReg (sl 0 (sq 1 (sq 2 (sq 3 (sl 4 (sl 5 (sq 6 sz))))))) (by kernel_rfl) ?_
  refine callS Try.call131 trv1 rfl rfl (fun w hs => spec_BetTree_c _ _ _ w ) ?_
  rintro ⟨ay2, ny2, cy2, Hy2, y2, q2⟩ ⟨hr2a, hr2b⟩
  dsimp only at hr2a hr2b
  subst y2
  subst q2
  refine rPieces (L' := [OwnR ndK 88 2 ay2 ny2 cy2 Hy2 ((((Math.betAt (1 : Int) (1 : Int) (2 : Int)).1))), srcP bks2 ca bs cc, blk bka1 43 [.slice none 0 0, .slice none 0 0, .slice none 0 0]]) (fun _ h => h) ?_
  refine rKnow (fun w hs => (show OwnR ndK 88 2 ay2 ny2 cy2 Hy2 ((((Math.betAt (1 : Int) (1 : Int) (2 : Int)).1))) w from hs.at_ 0 rfl).1) (fun lenn3 => ?_)
  refine mv rfl rfl rfl ?_
  refine ext rfl rfl rfl rfl ?_
  refine ext rfl rfl rfl rfl ?_
  refine alc Try.zeroValue26 rfl trv1 rfl rfl (fun bka4 hbka4 => ?_)
  refine stAl (vs := [.slice ay2 ny2 cy2]) 0 rfl Try.sizeOf26 trv rfl rfl rfl rfl rfl (by simp [Value.oneCell']) rfl ?_
  refine asI rfl rfl rfl ?_
  refine rNil ?_
  refine qSeq rfl ?_
  refine hSeq ?_
  refine hReg (sl 0 (sl 1 (sq 2 (sl 3 (sl 4 (sq 5 sz)))))) (by kernel_rfl) ?_
  refine ldAl Try.isAgg26 Try.sizeOf26 (cBs 0 rfl) trv rfl rfl rfl rfl ?_
  refine callS Try.call128 trv1 rfl rfl (fun w hs => spec_l21HighCard_c _ ny2 cy2 _ _ _ _ w (OwnR.rd (hs.at_ 1 rfl) ndK.ok) (by have := Math.betAt_bd 1 1 2; omega) (Math.betAt_kids 1 1 2) (by omega)) ?_
  rintro ⟨ay3, ny3, cy3, Hy3, y3, ayw3, nyw3, cyw3, Hyw3, yw3, ayv3, nyv3, cyv3, Hyv3, yv3⟩ ⟨hr3a, hr3b, hr3c⟩
  dsimp only at hr3a hr3b hr3c
  subst y3
  subst yw3
  subst yv3
  refine rPieces (L' := [OwnR ndK 88 2 ay3 ny3 cy3 Hy3 (((((((Math.betAt (1 : Int) (1 : Int) (2 : Int)).1)))))), OwnR maK 28 2 ayw3 nyw3 cyw3 Hyw3 (Math.hcW 6 true 6), OwnR maK 28 2 ayv3 nyv3 cyv3 Hyv3 (Math.hcV 6 6), blk bka4 26 [.slice ay2 ny2 cy2], OwnR ndK 88 2 ay2 ny2 cy2 Hy2 ((((Math.betAt (1 : Int) (1 : Int) (2 : Int)).1))), srcP bks2 ca bs cc, blk bka1 43 [.slice none 0 0, .slice none 0 0, .slice none 0 0]]) (fun _ h => h) ?_
  refine rKnow (fun w hs => (show OwnR ndK 88 2 ay3 ny3 cy3 Hy3 (((((((Math.betAt (1 : Int) (1 : Int) (2 : Int)).1)))))) w from hs.at_ 0 rfl).1) (fun lenn5 => ?_)
  refine rKnow (fun w hs => (show OwnR maK 28 2 ayw3 nyw3 cyw3 Hyw3 (Math.hcW 6 true 6) w from hs.at_ 1 rfl).1) (fun lenn6 => ?_)
  refine rKnow (fun w hs => (show OwnR maK 28 2 ayv3 nyv3 cyv3 Hyv3 (Math.hcV 6 6) w from hs.at_ 2 rfl).1) (fun lenn7 => ?_)
  refine mvP rfl rfl rfl ?_
  refine rPieces (L' := [srcP bks2 ca bs cc, OwnR ndK 88 2 ay3 ny3 cy3 Hy3 (((((((Math.betAt (1 : Int) (1 : Int) (2 : Int)).1)))))), OwnR maK 28 2 ayw3 nyw3 cyw3 Hyw3 (Math.hcW 6 true 6), OwnR maK 28 2 ayv3 nyv3 cyv3 Hyv3 (Math.hcV 6 6), blk bka4 26 [.slice ay2 ny2 cy2], OwnR ndK 88 2 ay2 ny2 cy2 Hy2 ((((Math.betAt (1 : Int) (1 : Int) (2 : Int)).1))), blk bka1 43 [.slice none 0 0, .slice none 0 0, .slice none 0 0]]) (fun _ h => h.perm (pull (i := 5) rfl)) ?_
  refine callMK (α := Int) (Lf := [srcP bks2 ca bs cc]) (Lr := [OwnR ndK 88 2 ay3 ny3 cy3 Hy3 (((((((Math.betAt (1 : Int) (1 : Int) (2 : Int)).1)))))), OwnR maK 28 2 ayw3 nyw3 cyw3 Hyw3 (Math.hcW 6 true 6), OwnR maK 28 2 ayv3 nyv3 cyv3 Hyv3 (Math.hcV 6 6), blk bka4 26 [.slice ay2 ny2 cy2], OwnR ndK 88 2 ay2 ny2 cy2 Hy2 ((((Math.betAt (1 : Int) (1 : Int) (2 : Int)).1))), blk bka1 43 [.slice none 0 0, .slice none 0 0, .slice none 0 0]]) (good := fun x => 0 ≤ x ∧ (x < (2 : Int) ∨ x = 0)) (φs := fun x => [srcP bks2 ca bs cc]) (val := fun x => .int .i64 x) rfl Try.call95 trv1 rfl rfl (fun w M1 hs hk => src_next bks2 ca bs cc (2 : Int) w M1 hs (hk _ kcode) hok) ?_
  intro x4 hx4
  replace hx4 : 0 ≤ x4 ∧ x4 < (2 : Int) := by omega
  try dsimp only at hx4
  refine rPieces (L' := [srcP bks2 ca bs cc, OwnR ndK 88 2 ay3 ny3 cy3 Hy3 (((((((Math.betAt (1 : Int) (1 : Int) (2 : Int)).1)))))), OwnR maK 28 2 ayw3 nyw3 cyw3 Hyw3 (Math.hcW 6 true 6), OwnR maK 28 2 ayv3 nyv3 cyv3 Hyv3 (Math.hcV 6 6), blk bka4 26 [.slice ay2 ny2 cy2], OwnR ndK 88 2 ay2 ny2 cy2 Hy2 ((((Math.betAt (1 : Int) (1 : Int) (2 : Int)).1))), blk bka1 43 [.slice none 0 0, .slice none 0 0, .slice none 0 0]]) (fun _ h => h) ?_
  refine stAl (vs := [.slice ay3 ny3 cy3, .slice ayw3 nyw3 cyw3, .slice ayv3 nyv3 cyv3]) 6 rfl Try.sizeOf43 trv rfl rfl rfl rfl rfl (by simp [Value.oneCell']) rfl ?_
  refine asI rfl rfl rfl ?_
  refine rNil ?_
  refine qSeq rfl ?_
  refine hRet ?_
  refine knP (L' := [srcP bks2 ca bs cc, RdR ndK ay3 ny3 Hy3 (((((((Math.betAt (1 : Int) (1 : Int) (2 : Int)).1)))))), OwnR maK 28 2 ayw3 nyw3 cyw3 Hyw3 (Math.hcW 6 true 6), OwnR maK 28 2 ayv3 nyv3 cyv3 Hyv3 (Math.hcV 6 6), blk bka4 26 [.slice ay2 ny2 cy2], OwnR ndK 88 2 ay2 ny2 cy2 Hy2 ((((Math.betAt (1 : Int) (1 : Int) (2 : Int)).1))), blk bka1 43 [.slice ay3 ny3 cy3, .slice ayw3 nyw3 cyw3, .slice ayv3 nyv3 cyv3]]) (fun _ h => h.imp 1 rfl fun _ h => OwnR.rd h ndK.ok) ?_
  refine knP (L' := [srcP bks2 ca bs cc, RdR ndK ay3 ny3 Hy3 (((((((Math.betAt (1 : Int) (1 : Int) (2 : Int)).1)))))), RdR maK ayw3 nyw3 Hyw3 (Math.hcW 6 true 6), OwnR maK 28 2 ayv3 nyv3 cyv3 Hyv3 (Math.hcV 6 6), blk bka4 26 [.slice ay2 ny2 cy2], OwnR ndK 88 2 ay2 ny2 cy2 Hy2 ((((Math.betAt (1 : Int) (1 : Int) (2 : Int)).1))), blk bka1 43 [.slice ay3 ny3 cy3, .slice ayw3 nyw3 cyw3, .slice ayv3 nyv3 cyv3]]) (fun _ h => h.imp 2 rfl fun _ h => OwnR.rd h maK.ok) ?_
  refine knP (L' := [srcP bks2 ca bs cc, RdR ndK ay3 ny3 Hy3 (((((((Math.betAt (1 : Int) (1 : Int) (2 : Int)).1)))))), RdR maK ayw3 nyw3 Hyw3 (Math.hcW 6 true 6), RdR maK ayv3 nyv3 Hyv3 (Math.hcV 6 6), blk bka4 26 [.slice ay2 ny2 cy2], OwnR ndK 88 2 ay2 ny2 cy2 Hy2 ((((Math.betAt (1 : Int) (1 : Int) (2 : Int)).1))), blk bka1 43 [.slice ay3 ny3 cy3, .slice ayw3 nyw3 cyw3, .slice ayv3 nyv3 cyv3]]) (fun _ h => h.imp 3 rfl fun _ h => OwnR.rd h maK.ok) ?_
  exact fun w hs => ⟨[_, .int .i64 x4], ⟨⟨_, rfl, run_load_agg Try.isAgg43 Try.sizeOf43 rfl (cBs 6 rfl w hs)⟩, ⟨rfl, trivial⟩⟩, ⟨(ay3, ny3, cy3, Hy3, ((((((Math.betAt (1 : Int) (1 : Int) (2 : Int)).1))))), ayw3, nyw3, cyw3, Hyw3, (Math.hcW 6 true 6), ayv3, nyv3, cyv3, Hyv3, (Math.hcV 6 6), x4), rfl, ⟨by dsimp only; omega, ⟨⟨by dsimp only; omega, by dsimp only; omega⟩, by dsimp only; omega⟩, ⟨by dsimp only; omega, by dsimp only; omega⟩⟩, hs.pick [1, 1, 1]⟩⟩
 ·
  replace c1 : ¬ (x1 = 0) := c1
  refine hSkip ?_
  refine qSeq rfl ?_
  refine hSeq ?_
  refine hReg (sq 0 (sl 1 (sq 2 (sq 3 (sl 4 (sq 5 sz)))))) (by kernel_rfl) ?_
  refine mvS rfl rfl rfl ?_
  refine callS Try.call42 trv1 rfl rfl (fun w hs => spec_DrawUniformStrategy_c _ _ cc w (Kn.drop (k := 2) kcode w hs) (by assumption)) ?_
  rintro ⟨ay5, ny5, cy5, Hy5, y5, ayw5, nyw5, cyw5, Hyw5, yw5, ayv5, nyv5, cyv5, Hyv5, yv5, q5⟩ hr5
  try dsimp only at hr5
  refine rPieces (L' := [RdR ndK ay5 ny5 Hy5 y5, RdR maK ayw5 nyw5 Hyw5 yw5, RdR maK ayv5 nyv5 Hyv5 yv5, srcP bks2 ca bs cc, blk bka1 43 [.slice none 0 0, .slice none 0 0, .slice none 0 0]]) (fun _ h => h) ?_
  refine rKnow (fun w hs => (show RdR ndK ay5 ny5 Hy5 y5 w from hs.at_ 0 rfl).1) (fun lenn8 => ?_)
  refine rKnow (fun w hs => (show RdR maK ayw5 nyw5 Hyw5 yw5 w from hs.at_ 1 rfl).1) (fun lenn9 => ?_)
  refine rKnow (fun w hs => (show RdR maK ayv5 nyv5 Hyv5 yv5 w from hs.at_ 2 rfl).1) (fun lenn10 => ?_)
  refine ext rfl rfl rfl rfl ?_
  refine ext rfl rfl rfl rfl ?_
  refine stAl (vs := [.slice ay5 ny5 cy5, .slice ayw5 nyw5 cyw5, .slice ayv5 nyv5 cyv5]) 4 rfl Try.sizeOf43 trv rfl rfl rfl rfl rfl (by simp [Value.oneCell']) rfl ?_
  refine asI rfl rfl rfl ?_
  refine rNil ?_
  refine qSeq rfl ?_
  refine hRet ?_
  exact fun w hs => ⟨[_, .int .i64 q5], ⟨⟨_, rfl, run_load_agg Try.isAgg43 Try.sizeOf43 rfl (cBs 4 rfl w hs)⟩, ⟨rfl, trivial⟩⟩, ⟨(ay5, ny5, cy5, Hy5, y5, ayw5, nyw5, cyw5, Hyw5, yw5, ayv5, nyv5, cyv5, Hyv5, yv5, q5), rfl, ⟨by dsimp only; omega, ⟨⟨by dsimp only; omega, by dsimp only; omega⟩, by dsimp only; omega⟩, ⟨by dsimp only; omega, by dsimp only; omega⟩⟩, hs.pick [0, 0, 0]⟩⟩
set_option maxHeartbeats 4000000 in
theorem spec_DrawPureStrategy_c (ca : Option Addr) (bs : List Int) (cc : Nat) (w : World) (rcode : CellsAt ca (bs.map (Value.int .u8)) w) (hok : okBytes bs) :
  Calls Try.prog 60 #[.slice ca bs.length cc] w (Ret fun v w' => ∃ x : Option Addr × Nat × Nat × (Nat → Hd) × List Nd × Option Addr × Nat × Nat × (Nat → Hd) × List (List Int) × Option Addr × Nat × Nat × (Nat → Hd) × List (List Int) × Int × Int, v = .tuple #[.agg #[.slice x.1 x.2.1 x.2.2.1, .slice x.2.2.2.2.2.1 x.2.2.2.2.2.2.1 x.2.2.2.2.2.2.2.1, .slice x.2.2.2.2.2.2.2.2.2.2.1 x.2.2.2.2.2.2.2.2.2.2.2.1 x.2.2.2.2.2.2.2.2.2.2.2.2.1], .int .i64 x.2.2.2.2.2.2.2.2.2.2.2.2.2.2.2.1, .int .i64 x.2.2.2.2.2.2.2.2.2.2.2.2.2.2.2.2] ∧ (x.2.1 ≤ 250 ∧ ((1 ≤ x.2.2.2.2.2.2.1 ∧ x.2.2.2.2.2.2.1 ≤ 4) ∧ x.2.2.2.2.2.2.2.2.2.2.2.1 ≤ 4) ∧ ((-1 ≤ x.2.2.2.2.2.2.2.2.2.2.2.2.2.2.2.1 ∧ x.2.2.2.2.2.2.2.2.2.2.2.2.2.2.2.1 ≤ 2) ∧ (-1 ≤ x.2.2.2.2.2.2.2.2.2.2.2.2.2.2.2.2 ∧ x.2.2.2.2.2.2.2.2.2.2.2.2.2.2.2.2 ≤ 1000000000))) ∧ Sep w none_ [RdR ndK x.1 x.2.1 x.2.2.2.1 x.2.2.2.2.1, RdR maK x.2.2.2.2.2.1 x.2.2.2.2.2.2.1 x.2.2.2.2.2.2.2.2.1 x.2.2.2.2.2.2.2.2.2.1, RdR maK x.2.2.2.2.2.2.2.2.2.2.1 x.2.2.2.2.2.2.2.2.2.2.2.1 x.2.2.2.2.2.2.2.2.2.2.2.2.2.1 x.2.2.2.2.2.2.2.2.2.2.2.2.2.2.1] w') := by
 have kcode : Kn w none_ [] (CellsAt ca (bs.map (Value.int .u8))) := fun w' hs => rcode.ext hs.upd
 refine fn (M := none_) (rs := [.cell 2 43, .tmp 3, .tmp 4]) Try.func60 rfl Try.ntmps60 rfl rfl (Sep.start _ _) ?_
 refine hSeq ?_
 refine hReg (sl 0 (sq 1 (sq 2 sz))) (by kernel_rfl) ?_
 refine alc Try.zeroValue43 rfl trv1 rfl rfl (fun bka1 hbka1 => ?_)
 refine asI rfl rfl rfl ?_
 refine asI rfl rfl rfl ?_
 refine rNil ?_
 refine qSeq rfl ?_
 refine hSeq ?_
 refine hReg (sq 0 (sl 1 (sq 2 sz))) (by kernel_rfl) ?_
 refine mvS rfl rfl rfl ?_
 refine callN (α := Nat) (val := fun x => .pointer (some ⟨x, 0, none⟩)) (good := fun _ => True) (φ := fun x => srcP x ca bs cc) Try.call92 trv1 rfl rfl (fun w hs => (l01From_c ca bs cc w (kcode w (hs.sub (List.nil_sublist _))) hok).mono fun e w1 ⟨v, h0, bk, h1, h2, h3, h4⟩ => ⟨v, h0, bk, h1, trivial, h3, h4⟩) ?_
 rintro bks2 -
 refine asn rfl rfl rfl ?_
 refine rNil ?_
 refine qSeq rfl ?_
 refine hSeq ?_
 refine hReg (sq 0 (sl 1 (sq 2 (sq 3 (sq 4 (sl 5 (sl 6 (sq 7 sz)))))))) (by kernel_rfl) ?_
 refine mvS rfl rfl rfl ?_
 refine callS Try.call42 trv1 rfl rfl (fun w hs => spec_DrawUniformStrategy_c _ _ cc w (Kn.drop (k := 2) kcode w hs) (by assumption)) ?_
 rintro ⟨ay1, ny1, cy1, Hy1, y1, ayw1, nyw1, cyw1, Hyw1, yw1, ayv1, nyv1, cyv1, Hyv1, yv1, q1⟩ hr1
 try dsimp only at hr1
 refine rPieces (L' := [RdR ndK ay1 ny1 Hy1 y1, RdR maK ayw1 nyw1 Hyw1 yw1, RdR maK ayv1 nyv1 Hyv1 yv1, srcP bks2 ca bs cc, blk bka1 43 [.slice none 0 0, .slice none 0 0, .slice none 0 0]]) (fun _ h => h) ?_
 refine rKnow (fun w hs => (show RdR ndK ay1 ny1 Hy1 y1 w from hs.at_ 0 rfl).1) (fun lenn3 => ?_)
 refine rKnow (fun w hs => (show RdR maK ayw1 nyw1 Hyw1 yw1 w from hs.at_ 1 rfl).1) (fun lenn4 => ?_)
 refine rKnow (fun w hs => (show RdR maK ayv1 nyv1 Hyv1 yv1 w from hs.at_ 2 rfl).1) (fun lenn5 => ?_)
 refine mv rfl rfl rfl ?_
 refine ext rfl rfl rfl rfl ?_
 refine ext rfl rfl rfl rfl ?_
 refine alc Try.zeroValue43 rfl trv1 rfl rfl (fun bka6 hbka6 => ?_)
 refine stAl (vs := [.slice ay1 ny1 cy1, .slice ayw1 nyw1 cyw1, .slice ayv1 nyv1 cyv1]) 0 rfl Try.sizeOf43 trv rfl rfl rfl rfl rfl (by simp [Value.oneCell']) rfl ?_
 refine asI rfl rfl rfl ?_
 refine rNil ?_
 refine qSeq rfl ?_
 refine hSeq ?_
 have hcb := Math.countOf_bd y1 yw1 yv1 q1
 refine hReg (sl 0 (sq 1 (sl 2 (sq 3 (sq 4 (sq 5 (sq 6 (sq 7 sz)))))))) (by kernel_rfl) ?_
 refine ldAl Try.isAgg43 Try.sizeOf43 (cBs 0 rfl) trv rfl rfl rfl rfl ?_
 refine mvI rfl rfl rfl ?_
 refine callP (v := .tuple #[.int .i64 ((Math.countOf y1 yw1 yv1 q1).1), .int .i64 ((Math.countOf y1 yw1 yv1 q1).2)]) Try.call65 trv rfl rfl (fun w hs => spec_CountPure_c _ ny1 cy1 _ _ _ nyw1 cyw1 _ _ _ nyv1 cyv1 _ _ _ w (hs.at_ 1 rfl) (hs.at_ 2 rfl) (hs.at_ 3 rfl)) ?_
 refine mv rfl rfl rfl ?_
 refine ext rfl rfl rfl rfl ?_
 refine ext rfl rfl rfl rfl ?_
 refine asI rfl rfl rfl ?_
 refine asI rfl rfl rfl ?_
 refine rNil ?_
 refine qSeq rfl ?_
 refine hSeq ?_
 refine hSeq ?_
 refine hReg (sq 0 (sq 1 sz)) (by kernel_rfl) ?_
 refine mvI rfl rfl rfl ?_
 refine neq rfl rfl rfl rfl ?_
 refine rNil ?_
 refine qSeq rfl ?_
 refine hIfD rfl (fun c1 => ?_) (fun c1 => ?_)
 ·
  replace c1 : (Math.countOf y1 yw1 yv1 q1).2 ≠ 0 := c1
  refine hSeq ?_
  refine hDraw (Ls := [blk bka6 43 [.slice ay1 ny1 cy1, .slice ayw1 nyw1 cyw1, .slice ayv1 nyv1 cyv1]]) (by kernel_rfl) (sq 0 (sq 1 (sq 2 (sl 3 (sl 4 (sq 5 (sq 6 sz))))))) (by kernel_rfl) (.cons_cons _ (.cons _ (.cons _ (.cons _ (.cons _ (.cons _ .slnil)))))) ?_
  refine ldAq Try.isAgg43 Try.sizeOf43 (cBs 0 rfl) rfl rfl rfl rfl ?_
  refine mvI rfl rfl rfl ?_
  refine mvP rfl rfl rfl ?_
  refine rPieces (L' := [srcP bks2 ca bs cc, blk bka6 43 [.slice ay1 ny1 cy1, .slice ayw1 nyw1 cyw1, .slice ayv1 nyv1 cyv1], RdR ndK ay1 ny1 Hy1 y1, RdR maK ayw1 nyw1 Hyw1 yw1, RdR maK ayv1 nyv1 Hyv1 yv1, blk bka1 43 [.slice none 0 0, .slice none 0 0, .slice none 0 0]]) (fun _ h => h.perm (pull (i := 4) rfl)) ?_
  refine callMK (α := Int) (Lf := [srcP bks2 ca bs cc]) (Lr := [blk bka6 43 [.slice ay1 ny1 cy1, .slice ayw1 nyw1 cyw1, .slice ayv1 nyv1 cyv1], RdR ndK ay1 ny1 Hy1 y1, RdR maK ayw1 nyw1 Hyw1 yw1, RdR maK ayv1 nyv1 Hyv1 yv1, blk bka1 43 [.slice none 0 0, .slice none 0 0, .slice none 0 0]]) (good := fun x => 0 ≤ x ∧ (x < (5 : Int) ∨ x = 0)) (φs := fun x => [srcP bks2 ca bs cc]) (val := fun x => .int .i64 x) rfl Try.call95 (by exact (fun _ _ h => h.pick [1])) rfl rfl (fun w M1 hs hk => src_next bks2 ca bs cc (5 : Int) w M1 hs (hk _ kcode) hok) ?_
  intro x2 hx2
  replace hx2 : 0 ≤ x2 ∧ x2 < (5 : Int) := by omega
  try dsimp only at hx2
  refine rPieces (L' := [srcP bks2 ca bs cc, blk bka6 43 [.slice ay1 ny1 cy1, .slice ayw1 nyw1 cyw1, .slice ayv1 nyv1 cyv1], RdR ndK ay1 ny1 Hy1 y1, RdR maK ayw1 nyw1 Hyw1 yw1, RdR maK ayv1 nyv1 Hyv1 yv1, blk bka1 43 [.slice none 0 0, .slice none 0 0, .slice none 0 0]]) (fun _ h => h) ?_
  refine stAl (vs := [.slice ay1 ny1 cy1, .slice ayw1 nyw1 cyw1, .slice ayv1 nyv1 cyv1]) 5 rfl Try.sizeOf43 (fun _ h => h.pick [1]) rfl rfl rfl rfl rfl (by simp [Value.oneCell']) rfl ?_
  refine asI rfl rfl rfl ?_
  refine asI rfl rfl rfl ?_
  refine rNil ?_
  refine qSeq rfl ?_
  refine hRet ?_
  exact fun w hs => ⟨[_, .int .i64 q1, .int .i64 x2], ⟨⟨_, rfl, run_load_agg Try.isAgg43 Try.sizeOf43 rfl (cBs 5 rfl w hs)⟩, ⟨rfl, ⟨rfl, trivial⟩⟩⟩, ⟨(ay1, ny1, cy1, Hy1, y1, ayw1, nyw1, cyw1, Hyw1, yw1, ayv1, nyv1, cyv1, Hyv1, yv1, q1, x2), rfl, ⟨by dsimp only; omega, ⟨⟨by dsimp only; omega, by dsimp only; omega⟩, by dsimp only; omega⟩, ⟨by dsimp only; omega, by dsimp only; omega⟩, ⟨by dsimp only; omega, by dsimp only; omega⟩⟩, hs.pick [2, 2, 2]⟩⟩
 ·
  replace c1 : ¬ ((Math.countOf y1 yw1 yv1 q1).2 ≠ 0) := c1
  refine hSkip ?_
  refine qSeq rfl ?_
  refine hSeq ?_
  refine hDraw (Ls := [blk bka6 43 [.slice ay1 ny1 cy1, .slice ayw1 nyw1 cyw1, .slice ayv1 nyv1 cyv1]]) (by kernel_rfl) (sq 0 (sq 1 (sq 2 (sq 3 (sq 4 (sq 6 (sl 5 (sl 7 (sq 8 (sq 9 (sl 10 (sq 11 (sq 12 sz))))))))))))) (by kernel_rfl) (.cons_cons _ (.cons _ (.cons _ (.cons _ (.cons _ (.cons _ .slnil)))))) ?_
  refine ldAq Try.isAgg43 Try.sizeOf43 (cBs 0 rfl) rfl rfl rfl rfl ?_
  refine mvI rfl rfl rfl ?_
  refine mvP rfl rfl rfl ?_
  refine mvI rfl rfl rfl ?_
  refine add rfl rfl rfl rfl (by omega) ?_
  refine mvP rfl rfl rfl ?_
  refine rPieces (L' := [srcP bks2 ca bs cc, blk bka6 43 [.slice ay1 ny1 cy1, .slice ayw1 nyw1 cyw1, .slice ayv1 nyv1 cyv1], RdR ndK ay1 ny1 Hy1 y1, RdR maK ayw1 nyw1 Hyw1 yw1, RdR maK ayv1 nyv1 Hyv1 yv1, blk bka1 43 [.slice none 0 0, .slice none 0 0, .slice none 0 0]]) (fun _ h => h.perm (pull (i := 4) rfl)) ?_
  refine callMK (α := Int) (Lf := [srcP bks2 ca bs cc]) (Lr := [blk bka6 43 [.slice ay1 ny1 cy1, .slice ayw1 nyw1 cyw1, .slice ayv1 nyv1 cyv1], RdR ndK ay1 ny1 Hy1 y1, RdR maK ayw1 nyw1 Hyw1 yw1, RdR maK ayv1 nyv1 Hyv1 yv1, blk bka1 43 [.slice none 0 0, .slice none 0 0, .slice none 0 0]]) (good := fun x => 0 ≤ x ∧ (x < (((Math.countOf y1 yw1 yv1 q1).1 + 1)) ∨ x = 0)) (φs := fun x => [srcP bks2 ca bs cc]) (val := fun x => .int .i64 x) rfl Try.call95 (by exact (fun _ _ h => h.pick [1])) rfl rfl (fun w M1 hs hk => src_next bks2 ca bs cc (((Math.countOf y1 yw1 yv1 q1).1 + 1)) w M1 hs (hk _ kcode) hok) ?_
  intro x3 hx3
  try dsimp only at hx3
  refine rPieces (L' := [srcP bks2 ca bs cc, blk bka6 43 [.slice ay1 ny1 cy1, .slice ayw1 nyw1 cyw1, .slice ayv1 nyv1 cyv1], RdR ndK ay1 ny1 Hy1 y1, RdR maK ayw1 nyw1 Hyw1 yw1, RdR maK ayv1 nyv1 Hyv1 yv1, blk bka1 43 [.slice none 0 0, .slice none 0 0, .slice none 0 0]]) (fun _ h => h) ?_
  refine callMK (α := Int) (Lf := [srcP bks2 ca bs cc]) (Lr := [blk bka6 43 [.slice ay1 ny1 cy1, .slice ayw1 nyw1 cyw1, .slice ayv1 nyv1 cyv1], RdR ndK ay1 ny1 Hy1 y1, RdR maK ayw1 nyw1 Hyw1 yw1, RdR maK ayv1 nyv1 Hyv1 yv1, blk bka1 43 [.slice none 0 0, .slice none 0 0, .slice none 0 0]]) (good := fun x => 0 ≤ x ∧ (x < (20 : Int) ∨ x = 0)) (φs := fun x => [srcP bks2 ca bs cc]) (val := fun x => .int .i64 x) rfl Try.call95 (by exact (fun _ _ h => h.pick [1])) rfl rfl (fun w M1 hs hk => src_next bks2 ca bs cc (20 : Int) w M1 hs (hk _ kcode) hok) ?_
  intro x4 hx4
  replace hx4 : 0 ≤ x4 ∧ x4 < (20 : Int) := by omega
  try dsimp only at hx4
  refine rPieces (L' := [srcP bks2 ca bs cc, blk bka6 43 [.slice ay1 ny1 cy1, .slice ayw1 nyw1 cyw1, .slice ayv1 nyv1 cyv1], RdR ndK ay1 ny1 Hy1 y1, RdR maK ayw1 nyw1 Hyw1 yw1, RdR maK ayv1 nyv1 Hyv1 yv1, blk bka1 43 [.slice none 0 0, .slice none 0 0, .slice none 0 0]]) (fun _ h => h) ?_
  refine quo rfl rfl rfl rfl (by omega) ?_
  refine sub rfl rfl rfl rfl (by omega) ?_
  refine stAl (vs := [.slice ay1 ny1 cy1, .slice ayw1 nyw1 cyw1, .slice ayv1 nyv1 cyv1]) 5 rfl Try.sizeOf43 (fun _ h => h.pick [1]) rfl rfl rfl rfl rfl (by simp [Value.oneCell']) rfl ?_
  refine asI rfl rfl rfl ?_
  refine asI rfl rfl rfl ?_
  refine rNil ?_
  refine qSeq rfl ?_
  refine hRet ?_
  exact fun w hs => ⟨[_, .int .i64 q1, .int .i64 ((x3 - (x4 / 19)))], ⟨⟨_, rfl, run_load_agg Try.isAgg43 Try.sizeOf43 rfl (cBs 5 rfl w hs)⟩, ⟨rfl, ⟨rfl, trivial⟩⟩⟩, ⟨(ay1, ny1, cy1, Hy1, y1, ayw1, nyw1, cyw1, Hyw1, yw1, ayv1, nyv1, cyv1, Hyv1, yv1, q1, (x3 - (x4 / 19))), rfl, ⟨by dsimp only; omega, ⟨⟨by dsimp only; omega, by dsimp only; omega⟩, by dsimp only; omega⟩, ⟨by dsimp only; omega, by dsimp only; omega⟩, ⟨by dsimp only; omega, by dsimp only; omega⟩⟩, hs.pick [2, 2, 2]⟩⟩
set_option maxHeartbeats 4000000 in
theorem spec_DrawIsPure_c (ca : Option Addr) (bs : List Int) (cc : Nat) (w : World) (rcode : CellsAt ca (bs.map (Value.int .u8)) w) (hok : okBytes bs) :
  Calls Try.prog 66 #[.slice ca bs.length cc] w (Ret fun v w' => ∃ x : Option Addr × Nat × Nat × (Nat → Hd) × List Nd × Option Addr × Nat × Nat × (Nat → Hd) × List (List Int) × Option Addr × Nat × Nat × (Nat → Hd) × List (List Int) × Int × Option Addr × Nat × Nat × (Nat → Hd) × List (List Int), v = .tuple #[.agg #[.slice x.1 x.2.1 x.2.2.1, .slice x.2.2.2.2.2.1 x.2.2.2.2.2.2.1 x.2.2.2.2.2.2.2.1, .slice x.2.2.2.2.2.2.2.2.2.2.1 x.2.2.2.2.2.2.2.2.2.2.2.1 x.2.2.2.2.2.2.2.2.2.2.2.2.1], .agg #[.int .i64 x.2.2.2.2.2.2.2.2.2.2.2.2.2.2.2.1, .slice x.2.2.2.2.2.2.2.2.2.2.2.2.2.2.2.2.1 x.2.2.2.2.2.2.2.2.2.2.2.2.2.2.2.2.2.1 x.2.2.2.2.2.2.2.2.2.2.2.2.2.2.2.2.2.2.1]] ∧ (x.2.1 ≤ 250 ∧ ((1 ≤ x.2.2.2.2.2.2.1 ∧ x.2.2.2.2.2.2.1 ≤ 4) ∧ x.2.2.2.2.2.2.2.2.2.2.2.1 ≤ 4) ∧ ((-1 ≤ x.2.2.2.2.2.2.2.2.2.2.2.2.2.2.2.1 ∧ x.2.2.2.2.2.2.2.2.2.2.2.2.2.2.2.1 ≤ 2) ∧ x.2.2.2.2.2.2.2.2.2.2.2.2.2.2.2.2.2.1 ≤ 361)) ∧ Sep w none_ [RdR ndK x.1 x.2.1 x.2.2.2.1 x.2.2.2.2.1, RdR maK x.2.2.2.2.2.1 x.2.2.2.2.2.2.1 x.2.2.2.2.2.2.2.2.1 x.2.2.2.2.2.2.2.2.2.1, RdR maK x.2.2.2.2.2.2.2.2.2.2.1 x.2.2.2.2.2.2.2.2.2.2.2.1 x.2.2.2.2.2.2.2.2.2.2.2.2.2.1 x.2.2.2.2.2.2.2.2.2.2.2.2.2.2.1, OwnR maK 28 2 x.2.2.2.2.2.2.2.2.2.2.2.2.2.2.2.2.1 x.2.2.2.2.2.2.2.2.2.2.2.2.2.2.2.2.2.1 x.2.2.2.2.2.2.2.2.2.2.2.2.2.2.2.2.2.2.1 x.2.2.2.2.2.2.2.2.2.2.2.2.2.2.2.2.2.2.2.1 x.2.2.2.2.2.2.2.2.2.2.2.2.2.2.2.2.2.2.2.2] w') := by
 have kcode : Kn w none_ [] (CellsAt ca (bs.map (Value.int .u8))) := fun w' hs => rcode.ext hs.upd
 refine fn (M := none_) (rs := [.cell 2 43, .cell 3 56]) Try.func66 rfl Try.ntmps66 rfl rfl (Sep.start _ _) ?_
 refine hSeq ?_
 refine hReg (sl 0 (sl 1 sz)) (by kernel_rfl) ?_
 refine alc Try.zeroValue43 rfl trv1 rfl rfl (fun bka1 hbka1 => ?_)
 refine alc Try.zeroValue56 rfl trv1 rfl rfl (fun bka2 hbka2 => ?_)
 refine rNil ?_
 refine qSeq rfl ?_
 refine hSeq ?_
 refine hReg (sq 0 (sl 1 (sq 2 sz))) (by kernel_rfl) ?_
 refine mvS rfl rfl rfl ?_
 refine callN (α := Nat) (val := fun x => .pointer (some ⟨x, 0, none⟩)) (good := fun _ => True) (φ := fun x => srcP x ca bs cc) Try.call92 trv1 rfl rfl (fun w hs => (l01From_c ca bs cc w (kcode w (hs.sub (List.nil_sublist _))) hok).mono fun e w1 ⟨v, h0, bk, h1, h2, h3, h4⟩ => ⟨v, h0, bk, h1, trivial, h3, h4⟩) ?_
 rintro bks3 -
 refine asn rfl rfl rfl ?_
 refine rNil ?_
 refine qSeq rfl ?_
 refine hSeq ?_
 refine hSeq ?_
 refine hReg (sq 0 (sl 1 (sq 2 sz))) (by kernel_rfl) ?_
 refine mvP rfl rfl rfl ?_
 refine callMK (α := Int) (Lf := [srcP bks3 ca bs cc]) (Lr := [blk bka2 56 [.int .i64 0, .slice none 0 0], blk bka1 43 [.slice none 0 0, .slice none 0 0, .slice none 0 0]]) (good := fun x => 0 ≤ x ∧ (x < (3 : Int) ∨ x = 0)) (φs := fun x => [srcP bks3 ca bs cc]) (val := fun x => .int .i64 x) rfl Try.call95 trv1 rfl rfl (fun w M1 hs hk => src_next bks3 ca bs cc (3 : Int) w M1 hs (hk _ kcode) hok) ?_
 intro x1 hx1
 replace hx1 : 0 ≤ x1 ∧ x1 < (3 : Int) := by omega
 try dsimp only at hx1
 refine rPieces (L' := [srcP bks3 ca bs cc, blk bka2 56 [.int .i64 0, .slice none 0 0], blk bka1 43 [.slice none 0 0, .slice none 0 0, .slice none 0 0]]) (fun _ h => h) ?_
 refine eql rfl rfl rfl rfl ?_
 refine rNil ?_
 refine qSeq rfl ?_
 refine hIfD rfl (fun c1 => ?_) (fun c1 => ?_)
 ·
  replace c1 : x1 = 0 := c1
  refine hSeq ?_
  refine hReg (sq 0 (sl 1 (sl 2 (sl 3 sz)))) (by kernel_rfl) ?_
  refine mvP rfl rfl rfl ?_
  refine callMK (α := Option Addr × Nat × Nat × (Nat → Hd) × List Nd × Option Addr × Nat × Nat × (Nat → Hd) × List (List Int) × Option Addr × Nat × Nat × (Nat → Hd) × List (List Int)) (Lf := [srcP bks3 ca bs cc]) (Lr := [blk bka2 56 [.int .i64 0, .slice none 0 0], blk bka1 43 [.slice none 0 0, .slice none 0 0, .slice none 0 0]]) (good := fun x => ((1 ≤ x.2.1 ∧ x.2.1 ≤ 200) ∧ (1 ≤ x.2.2.2.2.2.2.1 ∧ x.2.2.2.2.2.2.1 ≤ 4 ∧ x.2.2.2.2.2.2.2.2.2.2.2.1 = x.2.2.2.2.2.2.1)) ∧ Math.kidsB x.2.2.2.2.1 ∧ Math.rect x.2.2.2.2.2.2.2.2.2.1 x.2.2.2.2.2.2.1 ∧ Math.rect x.2.2.2.2.2.2.2.2.2.2.2.2.2.2 x.2.2.2.2.2.2.2.2.2.2.2.1) (φs := fun x => [srcP bks3 ca bs cc, OwnR ndK 88 2 x.1 x.2.1 x.2.2.1 x.2.2.2.1 x.2.2.2.2.1, OwnR maK 28 2 x.2.2.2.2.2.1 x.2.2.2.2.2.2.1 x.2.2.2.2.2.2.2.1 x.2.2.2.2.2.2.2.2.1 x.2.2.2.2.2.2.2.2.2.1, OwnR maK 28 2 x.2.2.2.2.2.2.2.2.2.2.1 x.2.2.2.2.2.2.2.2.2.2.2.1 x.2.2.2.2.2.2.2.2.2.2.2.2.1 x.2.2.2.2.2.2.2.2.2.2.2.2.2.1 x.2.2.2.2.2.2.2.2.2.2.2.2.2.2]) (val := fun x => .agg #[.slice x.1 x.2.1 x.2.2.1, .slice x.2.2.2.2.2.1 x.2.2.2.2.2.2.1 x.2.2.2.2.2.2.2.1, .slice x.2.2.2.2.2.2.2.2.2.2.1 x.2.2.2.2.2.2.2.2.2.2.2.1 x.2.2.2.2.2.2.2.2.2.2.2.2.1]) rfl Try.call134 trv1 rfl rfl (fun w M1 hs hk => spec_l21Valid_c bks3 ca bs cc  w M1 hs (hk _ kcode) hok ) ?_
  rintro ⟨ay2, ny2, cy2, Hy2, y2, ayw2, nyw2, cyw2, Hyw2, yw2, ayv2, nyv2, cyv2, Hyv2, yv2⟩ hr2
  try dsimp only at hr2
  refine rPieces (L' := [srcP bks3 ca bs cc, OwnR ndK 88 2 ay2 ny2 cy2 Hy2 y2, OwnR maK 28 2 ayw2 nyw2 cyw2 Hyw2 yw2, OwnR maK 28 2 ayv2 nyv2 cyv2 Hyv2 yv2, blk bka2 56 [.int .i64 0, .slice none 0 0], blk bka1 43 [.slice none 0 0, .slice none 0 0, .slice none 0 0]]) (fun _ h => h) ?_
  refine rKnow (fun w hs => (show OwnR ndK 88 2 ay2 ny2 cy2 Hy2 y2 w from hs.at_ 1 rfl).1) (fun lenn4 => ?_)
  refine rKnow (fun w hs => (show OwnR maK 28 2 ayw2 nyw2 cyw2 Hyw2 yw2 w from hs.at_ 2 rfl).1) (fun lenn5 => ?_)
  refine rKnow (fun w hs => (show OwnR maK 28 2 ayv2 nyv2 cyv2 Hyv2 yv2 w from hs.at_ 3 rfl).1) (fun lenn6 => ?_)
  refine alc Try.zeroValue43 rfl trv1 rfl rfl (fun bka7 hbka7 => ?_)
  refine stAl (vs := [.slice ay2 ny2 cy2, .slice ayw2 nyw2 cyw2, .slice ayv2 nyv2 cyv2]) 0 rfl Try.sizeOf43 trv rfl rfl rfl rfl rfl (by simp [Value.oneCell']) rfl ?_
  refine rNil ?_
  refine qSeq rfl ?_
  refine hSeq ?_
  refine hDraw (Ls := [blk bka7 43 [.slice ay2 ny2 cy2, .slice ayw2 nyw2 cyw2, .slice ayv2 nyv2 cyv2]]) (by kernel_rfl) (sq 0 (sq 1 (.alt (sl 2 (.alt (sl 3 (sq 4 (sq 5 (sq 6 (sl 7 (sl 8 (sq 9 sz))))))) (sl 7 (sl 3 (sq 4 (sq 5 (sq 6 (sl 8 (sq 9 sz))))))))) (sl 7 (sl 2 (sl 3 (sq 4 (sq 5 (sq 6 (sl 8 (sq 9 sz))))))))))) (by kernel_rfl) (.cons_cons _ (.cons _ (.cons _ (.cons _ (.cons _ (.cons _ (.cons _ .slnil))))))) ?_
  refine ldAq Try.isAgg43 Try.sizeOf43 (cBs 0 rfl) rfl rfl rfl rfl ?_
  refine mvP rfl rfl rfl ?_
  refine rAlt ?_ ?_
  ·
   refine rPieces (L' := [srcP bks3 ca bs cc, blk bka7 43 [.slice ay2 ny2 cy2, .slice ayw2 nyw2 cyw2, .slice ayv2 nyv2 cyv2], OwnR ndK 88 2 ay2 ny2 cy2 Hy2 y2, OwnR maK 28 2 ayw2 nyw2 cyw2 Hyw2 yw2, OwnR maK 28 2 ayv2 nyv2 cyv2 Hyv2 yv2, blk bka2 56 [.int .i64 0, .slice none 0 0], blk bka1 43 [.slice none 0 0, .slice none 0 0, .slice none 0 0]]) (fun _ h => h.perm (pull (i := 1) rfl)) ?_
   refine callMK (α := Int) (Lf := [srcP bks3 ca bs cc]) (Lr := [blk bka7 43 [.slice ay2 ny2 cy2, .slice ayw2 nyw2 cyw2, .slice ayv2 nyv2 cyv2], OwnR ndK 88 2 ay2 ny2 cy2 Hy2 y2, OwnR maK 28 2 ayw2 nyw2 cyw2 Hyw2 yw2, OwnR maK 28 2 ayv2 nyv2 cyv2 Hyv2 yv2, blk bka2 56 [.int .i64 0, .slice none 0 0], blk bka1 43 [.slice none 0 0, .slice none 0 0, .slice none 0 0]]) (good := fun x => 0 ≤ x ∧ (x < (4 : Int) ∨ x = 0)) (φs := fun x => [srcP bks3 ca bs cc]) (val := fun x => .int .i64 x) rfl Try.call95 (by exact (fun _ _ h => h.pick [1])) rfl rfl (fun w M1 hs hk => src_next bks3 ca bs cc (4 : Int) w M1 hs (hk _ kcode) hok) ?_
   intro x3 hx3
   replace hx3 : 0 ≤ x3 ∧ x3 < (4 : Int) := by omega
   try dsimp only at hx3
   refine rPieces (L' := [srcP bks3 ca bs cc, blk bka7 43 [.slice ay2 ny2 cy2, .slice ayw2 nyw2 cyw2, .slice ayv2 nyv2 cyv2], OwnR ndK 88 2 ay2 ny2 cy2 Hy2 y2, OwnR maK 28 2 ayw2 nyw2 cyw2 Hyw2 yw2, OwnR maK 28 2 ayv2 nyv2 cyv2 Hyv2 yv2, blk bka2 56 [.int .i64 0, .slice none 0 0], blk bka1 43 [.slice none 0 0, .slice none 0 0, .slice none 0 0]]) (fun _ h => h) ?_
   refine rAlt ?_ ?_
   ·
    refine callS Try.call62 (by exact (fun _ _ h => h.pick [2])) rfl rfl (fun w hs => spec_PureStrategy_c _ ny2 cy2 _ _ _ nyw2 cyw2 _ _ _ nyv2 cyv2 _ _ _ _ w (OwnR.rd (hs.at_ 2 rfl) ndK.ok) (OwnR.rd (hs.at_ 3 rfl) maK.ok) (OwnR.rd (hs.at_ 4 rfl) maK.ok)) ?_
    rintro ⟨pl4, ay4, ny4, cy4, Hy4, y4, q4⟩ ⟨hr4a, hr4b, hr4c⟩
    dsimp only at hr4a hr4b hr4c
    subst pl4
    subst y4
    subst q4
    refine rPieces (L' := [OwnR maK 28 2 ay4 ny4 cy4 Hy4 ((((Math.pureAt y2 yw2 yv2 (0 : Int) x3).1.2))), srcP bks3 ca bs cc, blk bka7 43 [.slice ay2 ny2 cy2, .slice ayw2 nyw2 cyw2, .slice ayv2 nyv2 cyv2], OwnR ndK 88 2 ay2 ny2 cy2 Hy2 y2, OwnR maK 28 2 ayw2 nyw2 cyw2 Hyw2 yw2, OwnR maK 28 2 ayv2 nyv2 cyv2 Hyv2 yv2, blk bka2 56 [.int .i64 0, .slice none 0 0], blk bka1 43 [.slice none 0 0, .slice none 0 0, .slice none 0 0]]) (fun _ h => h) ?_
    refine rKnow (fun w hs => (show OwnR maK 28 2 ay4 ny4 cy4 Hy4 ((((Math.pureAt y2 yw2 yv2 (0 : Int) x3).1.2))) w from hs.at_ 0 rfl).1) (fun lenn8 => ?_)
    refine mv rfl rfl rfl ?_
    refine ext rfl rfl rfl rfl ?_
    refine ext rfl rfl rfl rfl ?_
    refine alc Try.zeroValue56 rfl (fun _ _ h => h.pick [3]) rfl rfl (fun bka9 hbka9 => ?_)
    refine stAl (vs := [.int .i64 ((((Math.pureAt y2 yw2 yv2 (0 : Int) x3).1.1))), .slice ay4 ny4 cy4]) 0 rfl Try.sizeOf56 (fun _ h => h.pick [3]) rfl rfl rfl rfl rfl (by simp [Value.oneCell']) rfl ?_
    refine asI rfl rfl rfl ?_
    refine rNil ?_
    refine qSeq rfl ?_
    refine hSeq ?_
    have hpb := Math.pureAt_bd y2 yw2 yv2 0 x3
    have hpl := Math.pureAt_0pl y2 yw2 yv2 x3
    refine hReg (sq 0 (sq 1 sz)) (by kernel_rfl) ?_
    refine mvI rfl rfl rfl ?_
    refine eql rfl rfl rfl rfl ?_
    refine rNil ?_
    refine qSeq rfl ?_
    refine hIfD rfl (fun c2 => ?_) (fun c2 => ?_)
    ·
     replace c2 : (((Math.pureAt y2 yw2 yv2 (0 : Int) x3).2)) = 0 := c2
     refine hSeq ?_
     refine hDraw (Ls := [blk bka9 56 [.int .i64 ((((Math.pureAt y2 yw2 yv2 (0 : Int) x3).1.1))), .slice ay4 ny4 cy4], blk bka7 43 [.slice ay2 ny2 cy2, .slice ayw2 nyw2 cyw2, .slice ayv2 nyv2 cyv2]]) (by kernel_rfl) (sq 0 (sq 1 (sl 2 (sf 3 sz)))) (by kernel_rfl) (.cons_cons _ (.cons _ (.cons _ (.cons_cons _ (.cons _ (.cons _ (.cons _ (.cons _ (.cons _ .slnil))))))))) ?_
     refine ldAq Try.isAgg43 Try.sizeOf43 (cBs 1 rfl) rfl rfl rfl rfl ?_
     refine ldAq Try.isAgg56 Try.sizeOf56 (cBs 0 rfl) rfl rfl rfl rfl ?_
     refine stAl (vs := [.slice ay2 ny2 cy2, .slice ayw2 nyw2 cyw2, .slice ayv2 nyv2 cyv2]) 8 rfl Try.sizeOf43 (fun _ h => h.pick [0, 2]) rfl rfl rfl rfl rfl (by simp [Value.oneCell']) rfl ?_
     refine stAf (vs := [.int .i64 ((((Math.pureAt y2 yw2 yv2 (0 : Int) x3).1.1))), .slice ay4 ny4 cy4]) 7 rfl Try.sizeOf56 rfl rfl rfl rfl rfl (by simp [Value.oneCell']) rfl ?_
     refine rNil ?_
     refine qSeq rfl ?_
     refine hRet ?_
     refine knP (L' := [blk bka9 56 [.int .i64 ((((Math.pureAt y2 yw2 yv2 (0 : Int) x3).1.1))), .slice ay4 ny4 cy4], OwnR maK 28 2 ay4 ny4 cy4 Hy4 ((((Math.pureAt y2 yw2 yv2 (0 : Int) x3).1.2))), srcP bks3 ca bs cc, blk bka7 43 [.slice ay2 ny2 cy2, .slice ayw2 nyw2 cyw2, .slice ayv2 nyv2 cyv2], RdR ndK ay2 ny2 Hy2 y2, OwnR maK 28 2 ayw2 nyw2 cyw2 Hyw2 yw2, OwnR maK 28 2 ayv2 nyv2 cyv2 Hyv2 yv2, blk bka2 56 [.int .i64 ((((Math.pureAt y2 yw2 yv2 (0 : Int) x3).1.1))), .slice ay4 ny4 cy4], blk bka1 43 [.slice ay2 ny2 cy2, .slice ayw2 nyw2 cyw2, .slice ayv2 nyv2 cyv2]]) (fun _ h => h.imp 4 rfl fun _ h => OwnR.rd h ndK.ok) ?_
     refine knP (L' := [blk bka9 56 [.int .i64 ((((Math.pureAt y2 yw2 yv2 (0 : Int) x3).1.1))), .slice ay4 ny4 cy4], OwnR maK 28 2 ay4 ny4 cy4 Hy4 ((((Math.pureAt y2 yw2 yv2 (0 : Int) x3).1.2))), srcP bks3 ca bs cc, blk bka7 43 [.slice ay2 ny2 cy2, .slice ayw2 nyw2 cyw2, .slice ayv2 nyv2 cyv2], RdR ndK ay2 ny2 Hy2 y2, RdR maK ayw2 nyw2 Hyw2 yw2, OwnR maK 28 2 ayv2 nyv2 cyv2 Hyv2 yv2, blk bka2 56 [.int .i64 ((((Math.pureAt y2 yw2 yv2 (0 : Int) x3).1.1))), .slice ay4 ny4 cy4], blk bka1 43 [.slice ay2 ny2 cy2, .slice ayw2 nyw2 cyw2, .slice ayv2 nyv2 cyv2]]) (fun _ h => h.imp 5 rfl fun _ h => OwnR.rd h maK.ok) ?_
     refine knP (L' := [blk bka9 56 [.int .i64 ((((Math.pureAt y2 yw2 yv2 (0 : Int) x3).1.1))), .slice ay4 ny4 cy4], OwnR maK 28 2 ay4 ny4 cy4 Hy4 ((((Math.pureAt y2 yw2 yv2 (0 : Int) x3).1.2))), srcP bks3 ca bs cc, blk bka7 43 [.slice ay2 ny2 cy2, .slice ayw2 nyw2 cyw2, .slice ayv2 nyv2 cyv2], RdR ndK ay2 ny2 Hy2 y2, RdR maK ayw2 nyw2 Hyw2 yw2, RdR maK ayv2 nyv2 Hyv2 yv2, blk bka2 56 [.int .i64 ((((Math.pureAt y2 yw2 yv2 (0 : Int) x3).1.1))), .slice ay4 ny4 cy4], blk bka1 43 [.slice ay2 ny2 cy2, .slice ayw2 nyw2 cyw2, .slice ayv2 nyv2 cyv2]]) (fun _ h => h.imp 6 rfl fun _ h => OwnR.rd h maK.ok) ?_
     exact fun w hs => ⟨[_, _], ⟨⟨_, rfl, run_load_agg Try.isAgg43 Try.sizeOf43 rfl (cBs 8 rfl w hs)⟩, ⟨⟨_, rfl, run_load_agg Try.isAgg56 Try.sizeOf56 rfl (cBs 7 rfl w hs)⟩, trivial⟩⟩, ⟨(ay2, ny2, cy2, Hy2, y2, ayw2, nyw2, cyw2, Hyw2, yw2, ayv2, nyv2, cyv2, Hyv2, yv2, (((Math.pureAt y2 yw2 yv2 (0 : Int) x3).1.1)), ay4, ny4, cy4, Hy4, (((Math.pureAt y2 yw2 yv2 (0 : Int) x3).1.2))), rfl, ⟨by dsimp only; omega, ⟨⟨by dsimp only; omega, by dsimp only; omega⟩, by dsimp only; omega⟩, ⟨⟨by dsimp only; omega, by dsimp only; omega⟩, by dsimp only; omega⟩⟩, hs.pick [4, 4, 4, 1]⟩⟩
    ·
     replace c2 : ¬ ((((Math.pureAt y2 yw2 yv2 (0 : Int) x3).2)) = 0) := c2
     refine hSkip ?_
     refine qSeq rfl ?_
     refine hSeq ?_
     refine hReg (sq 0 (sl 1 (sq 2 (sq 3 (sl 4 (sl 5 sz)))))) (by kernel_rfl) ?_
     refine mvS rfl rfl rfl ?_
     refine callS Try.call135 trv1 rfl rfl (fun w hs => spec_DrawIsStrategy_c _ _ cc w (Kn.drop (k := 9) kcode w hs) (by assumption)) ?_
     rintro ⟨ay5, ny5, cy5, Hy5, y5, ayw5, nyw5, cyw5, Hyw5, yw5, ayv5, nyv5, cyv5, Hyv5, yv5, pl5, ayp5, nyp5, cyp5, Hyp5, yp5⟩ hr5
     try dsimp only at hr5
     refine rPieces (L' := [RdR ndK ay5 ny5 Hy5 y5, RdR maK ayw5 nyw5 Hyw5 yw5, RdR maK ayv5 nyv5 Hyv5 yv5, OwnR maK 28 2 ayp5 nyp5 cyp5 Hyp5 yp5, blk bka9 56 [.int .i64 ((((Math.pureAt y2 yw2 yv2 (0 : Int) x3).1.1))), .slice ay4 ny4 cy4], OwnR maK 28 2 ay4 ny4 cy4 Hy4 ((((Math.pureAt y2 yw2 yv2 (0 : Int) x3).1.2))), srcP bks3 ca bs cc, blk bka7 43 [.slice ay2 ny2 cy2, .slice ayw2 nyw2 cyw2, .slice ayv2 nyv2 cyv2], OwnR ndK 88 2 ay2 ny2 cy2 Hy2 y2, OwnR maK 28 2 ayw2 nyw2 cyw2 Hyw2 yw2, OwnR maK 28 2 ayv2 nyv2 cyv2 Hyv2 yv2, blk bka2 56 [.int .i64 0, .slice none 0 0], blk bka1 43 [.slice none 0 0, .slice none 0 0, .slice none 0 0]]) (fun _ h => h) ?_
     refine rKnow (fun w hs => (show RdR ndK ay5 ny5 Hy5 y5 w from hs.at_ 0 rfl).1) (fun lenn10 => ?_)
     refine rKnow (fun w hs => (show RdR maK ayw5 nyw5 Hyw5 yw5 w from hs.at_ 1 rfl).1) (fun lenn11 => ?_)
     refine rKnow (fun w hs => (show RdR maK ayv5 nyv5 Hyv5 yv5 w from hs.at_ 2 rfl).1) (fun lenn12 => ?_)
     refine rKnow (fun w hs => (show OwnR maK 28 2 ayp5 nyp5 cyp5 Hyp5 yp5 w from hs.at_ 3 rfl).1) (fun lenn13 => ?_)
     refine ext rfl rfl rfl rfl ?_
     refine ext rfl rfl rfl rfl ?_
     refine stAl (vs := [.slice ay5 ny5 cy5, .slice ayw5 nyw5 cyw5, .slice ayv5 nyv5 cyv5]) 12 rfl Try.sizeOf43 trv rfl rfl rfl rfl rfl (by simp [Value.oneCell']) rfl ?_
     refine stAl (vs := [.int .i64 pl5, .slice ayp5 nyp5 cyp5]) 11 rfl Try.sizeOf56 trv rfl rfl rfl rfl rfl (by simp [Value.oneCell']) rfl ?_
     refine rNil ?_
     refine qSeq rfl ?_
     refine hRet ?_
     exact fun w hs => ⟨[_, _], ⟨⟨_, rfl, run_load_agg Try.isAgg43 Try.sizeOf43 rfl (cBs 12 rfl w hs)⟩, ⟨⟨_, rfl, run_load_agg Try.isAgg56 Try.sizeOf56 rfl (cBs 11 rfl w hs)⟩, trivial⟩⟩, ⟨(ay5, ny5, cy5, Hy5, y5, ayw5, nyw5, cyw5, Hyw5, yw5, ayv5, nyv5, cyv5, Hyv5, yv5, pl5, ayp5, nyp5, cyp5, Hyp5, yp5), rfl, ⟨by dsimp only; omega, ⟨⟨by dsimp only; omega, by dsimp only; omega⟩, by dsimp only; omega⟩, ⟨⟨by dsimp only; omega, by dsimp only; omega⟩, by dsimp only; omega⟩⟩, hs.pick [0, 0, 0, 0]⟩⟩
   ·
    refine alc Try.zeroValue56 rfl (fun _ _ h => h.pick [2]) rfl rfl (fun bka14 hbka14 => ?_)
    refine callS Try.call62 (by exact (fun _ _ h => h.pick [3])) rfl rfl (fun w hs => spec_PureStrategy_c _ ny2 cy2 _ _ _ nyw2 cyw2 _ _ _ nyv2 cyv2 _ _ _ _ w (OwnR.rd (hs.at_ 3 rfl) ndK.ok) (OwnR.rd (hs.at_ 4 rfl) maK.ok) (OwnR.rd (hs.at_ 5 rfl) maK.ok)) ?_
    rintro ⟨pl6, ay6, ny6, cy6, Hy6, y6, q6⟩ ⟨hr6a, hr6b, hr6c⟩
    dsimp only at hr6a hr6b hr6c
    subst pl6
    subst y6
    subst q6
    refine rPieces (L' := [OwnR maK 28 2 ay6 ny6 cy6 Hy6 ((((Math.pureAt y2 yw2 yv2 (0 : Int) x3).1.2))), blk bka14 56 [.int .i64 0, .slice none 0 0], srcP bks3 ca bs cc, blk bka7 43 [.slice ay2 ny2 cy2, .slice ayw2 nyw2 cyw2, .slice ayv2 nyv2 cyv2], OwnR ndK 88 2 ay2 ny2 cy2 Hy2 y2, OwnR maK 28 2 ayw2 nyw2 cyw2 Hyw2 yw2, OwnR maK 28 2 ayv2 nyv2 cyv2 Hyv2 yv2, blk bka2 56 [.int .i64 0, .slice none 0 0], blk bka1 43 [.slice none 0 0, .slice none 0 0, .slice none 0 0]]) (fun _ h => h) ?_
    refine rKnow (fun w hs => (show OwnR maK 28 2 ay6 ny6 cy6 Hy6 ((((Math.pureAt y2 yw2 yv2 (0 : Int) x3).1.2))) w from hs.at_ 0 rfl).1) (fun lenn15 => ?_)
    refine mv rfl rfl rfl ?_
    refine ext rfl rfl rfl rfl ?_
    refine ext rfl rfl rfl rfl ?_
    refine stAl (vs := [.int .i64 ((((Math.pureAt y2 yw2 yv2 (0 : Int) x3).1.1))), .slice ay6 ny6 cy6]) 1 rfl Try.sizeOf56 (fun _ h => h.pick [3]) rfl rfl rfl rfl rfl (by simp [Value.oneCell']) rfl ?_
    refine asI rfl rfl rfl ?_
    refine rNil ?_
    refine qSeq rfl ?_
    refine hSeq ?_
    have hpb := Math.pureAt_bd y2 yw2 yv2 0 x3
    have hpl := Math.pureAt_0pl y2 yw2 yv2 x3
    refine hReg (sq 0 (sq 1 sz)) (by kernel_rfl) ?_
    refine mvI rfl rfl rfl ?_
    refine eql rfl rfl rfl rfl ?_
    refine rNil ?_
    refine qSeq rfl ?_
    refine hIfD rfl (fun c3 => ?_) (fun c3 => ?_)
    ·
     replace c3 : (((Math.pureAt y2 yw2 yv2 (0 : Int) x3).2)) = 0 := c3
     refine hSeq ?_
     refine hDraw (Ls := [blk bka14 56 [.int .i64 ((((Math.pureAt y2 yw2 yv2 (0 : Int) x3).1.1))), .slice ay6 ny6 cy6], blk bka7 43 [.slice ay2 ny2 cy2, .slice ayw2 nyw2 cyw2, .slice ayv2 nyv2 cyv2]]) (by kernel_rfl) (sq 0 (sq 1 (sl 2 (sf 3 sz)))) (by kernel_rfl) (.cons _ (.cons_cons _ (.cons _ (.cons_cons _ (.cons _ (.cons _ (.cons _ (.cons _ (.cons _ .slnil))))))))) ?_
     refine ldAq Try.isAgg43 Try.sizeOf43 (cBs 1 rfl) rfl rfl rfl rfl ?_
     refine ldAq Try.isAgg56 Try.sizeOf56 (cBs 0 rfl) rfl rfl rfl rfl ?_
     refine stAl (vs := [.slice ay2 ny2 cy2, .slice ayw2 nyw2 cyw2, .slice ayv2 nyv2 cyv2]) 8 rfl Try.sizeOf43 (fun _ h => h.pick [1, 2]) rfl rfl rfl rfl rfl (by simp [Value.oneCell']) rfl ?_
     refine stAf (vs := [.int .i64 ((((Math.pureAt y2 yw2 yv2 (0 : Int) x3).1.1))), .slice ay6 ny6 cy6]) 7 rfl Try.sizeOf56 rfl rfl rfl rfl rfl (by simp [Value.oneCell']) rfl ?_
     refine rNil ?_
     refine qSeq rfl ?_
     refine hRet ?_
     refine knP (L' := [OwnR maK 28 2 ay6 ny6 cy6 Hy6 ((((Math.pureAt y2 yw2 yv2 (0 : Int) x3).1.2))), blk bka14 56 [.int .i64 ((((Math.pureAt y2 yw2 yv2 (0 : Int) x3).1.1))), .slice ay6 ny6 cy6], srcP bks3 ca bs cc, blk bka7 43 [.slice ay2 ny2 cy2, .slice ayw2 nyw2 cyw2, .slice ayv2 nyv2 cyv2], RdR ndK ay2 ny2 Hy2 y2, OwnR maK 28 2 ayw2 nyw2 cyw2 Hyw2 yw2, OwnR maK 28 2 ayv2 nyv2 cyv2 Hyv2 yv2, blk bka2 56 [.int .i64 ((((Math.pureAt y2 yw2 yv2 (0 : Int) x3).1.1))), .slice ay6 ny6 cy6], blk bka1 43 [.slice ay2 ny2 cy2, .slice ayw2 nyw2 cyw2, .slice ayv2 nyv2 cyv2]]) (fun _ h => h.imp 4 rfl fun _ h => OwnR.rd h ndK.ok) ?_
     refine knP (L' := [OwnR maK 28 2 ay6 ny6 cy6 Hy6 ((((Math.pureAt y2 yw2 yv2 (0 : Int) x3).1.2))), blk bka14 56 [.int .i64 ((((Math.pureAt y2 yw2 yv2 (0 : Int) x3).1.1))), .slice ay6 ny6 cy6], srcP bks3 ca bs cc, blk bka7 43 [.slice ay2 ny2 cy2, .slice ayw2 nyw2 cyw2, .slice ayv2 nyv2 cyv2], RdR ndK ay2 ny2 Hy2 y2, RdR maK ayw2 nyw2 Hyw2 yw2, OwnR maK 28 2 ayv2 nyv2 cyv2 Hyv2 yv2, blk bka2 56 [.int .i64 ((((Math.pureAt y2 yw2 yv2 (0 : Int) x3).1.1))), .slice ay6 ny6 cy6], blk bka1 43 [.slice ay2 ny2 cy2, .slice ayw2 nyw2 cyw2, .slice ayv2 nyv2 cyv2]]) (fun _ h => h.imp 5 rfl fun _ h => OwnR.rd h maK.ok) ?_
     refine knP (L' := [OwnR maK 28 2 ay6 ny6 cy6 Hy6 ((((Math.pureAt y2 yw2 yv2 (0 : Int) x3).1.2))), blk bka14 56 [.int .i64 ((((Math.pureAt y2 yw2 yv2 (0 : Int) x3).1.1))), .slice ay6 ny6 cy6], srcP bks3 ca bs cc, blk bka7 43 [.slice ay2 ny2 cy2, .slice ayw2 nyw2 cyw2, .slice ayv2 nyv2 cyv2], RdR ndK ay2 ny2 Hy2 y2, RdR maK ayw2 nyw2 Hyw2 yw2, RdR maK ayv2 nyv2 Hyv2 yv2, blk bka2 56 [.int .i64 ((((Math.pureAt y2 yw2 yv2 (0 : Int) x3).1.1))), .slice ay6 ny6 cy6], blk bka1 43 [.slice ay2 ny2 cy2, .slice ayw2 nyw2 cyw2, .slice ayv2 nyv2 cyv2]]) (fun _ h => h.imp 6 rfl fun _ h => OwnR.rd h maK.ok) ?_
     exact fun w hs => ⟨[_, _], ⟨⟨_, rfl, run_load_agg Try.isAgg43 Try.sizeOf43 rfl (cBs 8 rfl w hs)⟩, ⟨⟨_, rfl, run_load_agg Try.isAgg56 Try.sizeOf56 rfl (cBs 7 rfl w hs)⟩, trivial⟩⟩, ⟨(ay2, ny2, cy2, Hy2, y2, ayw2, nyw2, cyw2, Hyw2, yw2, ayv2, nyv2, cyv2, Hyv2, yv2, (((Math.pureAt y2 yw2 yv2 (0 : Int) x3).1.1)), ay6, ny6, cy6, Hy6, (((Math.pureAt y2 yw2 yv2 (0 : Int) x3).1.2))), rfl, ⟨by dsimp only; omega, ⟨⟨by dsimp only; omega, by dsimp only; omega⟩, by dsimp only; omega⟩, ⟨⟨by dsimp only; omega, by dsimp only; omega⟩, by dsimp only; omega⟩⟩, hs.pick [4, 4, 4, 0]⟩⟩
    ·
     replace c3 : ¬ ((((Math.pureAt y2 yw2 yv2 (0 : Int) x3).2)) = 0) := c3
     refine hSkip ?_
     refine qSeq rfl ?_
     refine hSeq ?_
     refine hReg (sq 0 (sl 1 (sq 2 (sq 3 (sl 4 (sl 5 sz)))))) (by kernel_rfl) ?_
     refine mvS rfl rfl rfl ?_
     refine callS Try.call135 trv1 rfl rfl (fun w hs => spec_DrawIsStrategy_c _ _ cc w (Kn.drop (k := 9) kcode w hs) (by assumption)) ?_
     rintro ⟨ay7, ny7, cy7, Hy7, y7, ayw7, nyw7, cyw7, Hyw7, yw7, ayv7, nyv7, cyv7, Hyv7, yv7, pl7, ayp7, nyp7, cyp7, Hyp7, yp7⟩ hr7
     try dsimp only at hr7
     refine rPieces (L' := [RdR ndK ay7 ny7 Hy7 y7, RdR maK ayw7 nyw7 Hyw7 yw7, RdR maK ayv7 nyv7 Hyv7 yv7, OwnR maK 28 2 ayp7 nyp7 cyp7 Hyp7 yp7, OwnR maK 28 2 ay6 ny6 cy6 Hy6 ((((Math.pureAt y2 yw2 yv2 (0 : Int) x3).1.2))), blk bka14 56 [.int .i64 ((((Math.pureAt y2 yw2 yv2 (0 : Int) x3).1.1))), .slice ay6 ny6 cy6], srcP bks3 ca bs cc, blk bka7 43 [.slice ay2 ny2 cy2, .slice ayw2 nyw2 cyw2, .slice ayv2 nyv2 cyv2], OwnR ndK 88 2 ay2 ny2 cy2 Hy2 y2, OwnR maK 28 2 ayw2 nyw2 cyw2 Hyw2 yw2, OwnR maK 28 2 ayv2 nyv2 cyv2 Hyv2 yv2, blk bka2 56 [.int .i64 0, .slice none 0 0], blk bka1 43 [.slice none 0 0, .slice none 0 0, .slice none 0 0]]) (fun _ h => h) ?_
     refine rKnow (fun w hs => (show RdR ndK ay7 ny7 Hy7 y7 w from hs.at_ 0 rfl).1) (fun lenn16 => ?_)
     refine rKnow (fun w hs => (show RdR maK ayw7 nyw7 Hyw7 yw7 w from hs.at_ 1 rfl).1) (fun lenn17 => ?_)
     refine rKnow (fun w hs => (show RdR maK ayv7 nyv7 Hyv7 yv7 w from hs.at_ 2 rfl).1) (fun lenn18 => ?_)
     refine rKnow (fun w hs => (show OwnR maK 28 2 ayp7 nyp7 cyp7 Hyp7 yp7 w from hs.at_ 3 rfl).1) (fun lenn19 => ?_)
     refine ext rfl rfl rfl rfl ?_
     refine ext rfl rfl rfl rfl ?_
     refine stAl (vs := [.slice ay7 ny7 cy7, .slice ayw7 nyw7 cyw7, .slice ayv7 nyv7 cyv7]) 12 rfl Try.sizeOf43 trv rfl rfl rfl rfl rfl (by simp [Value.oneCell']) rfl ?_
     refine stAl (vs := [.int .i64 pl7, .slice ayp7 nyp7 cyp7]) 11 rfl Try.sizeOf56 trv rfl rfl rfl rfl rfl (by simp [Value.oneCell']) rfl ?_
     refine rNil ?_
     refine qSeq rfl ?_
     refine hRet ?_
     exact fun w hs => ⟨[_, _], ⟨⟨_, rfl, run_load_agg Try.isAgg43 Try.sizeOf43 rfl (cBs 12 rfl w hs)⟩, ⟨⟨_, rfl, run_load_agg Try.isAgg56 Try.sizeOf56 rfl (cBs 11 rfl w hs)⟩, trivial⟩⟩, ⟨(ay7, ny7, cy7, Hy7, y7, ayw7, nyw7, cyw7, Hyw7, yw7, ayv7, nyv7, cyv7, Hyv7, yv7, pl7, ayp7, nyp7, cyp7, Hyp7, yp7), rfl, ⟨by dsimp only; omega, ⟨⟨by dsimp only; omega, by dsimp only; omega⟩, by dsimp only; omega⟩, ⟨⟨by dsimp only; omega, by dsimp only; omega⟩, by dsimp only; omega⟩⟩, hs.pick [0, 0, 0, 0]⟩⟩
  ·
   refine alc Try.zeroValue56 rfl (fun _ _ h => h.pick [1]) rfl rfl (fun bka20 hbka20 => ?_)
   refine rPieces (L' := [srcP bks3 ca bs cc, blk bka20 56 [.int .i64 0, .slice none 0 0], blk bka7 43 [.slice ay2 ny2 cy2, .slice ayw2 nyw2 cyw2, .slice ayv2 nyv2 cyv2], OwnR ndK 88 2 ay2 ny2 cy2 Hy2 y2, OwnR maK 28 2 ayw2 nyw2 cyw2 Hyw2 yw2, OwnR maK 28 2 ayv2 nyv2 cyv2 Hyv2 yv2, blk bka2 56 [.int .i64 0, .slice none 0 0], blk bka1 43 [.slice none 0 0, .slice none 0 0, .slice none 0 0]]) (fun _ h => h.perm (pull (i := 2) rfl)) ?_
   refine callMK (α := Int) (Lf := [srcP bks3 ca bs cc]) (Lr := [blk bka20 56 [.int .i64 0, .slice none 0 0], blk bka7 43 [.slice ay2 ny2 cy2, .slice ayw2 nyw2 cyw2, .slice ayv2 nyv2 cyv2], OwnR ndK 88 2 ay2 ny2 cy2 Hy2 y2, OwnR maK 28 2 ayw2 nyw2 cyw2 Hyw2 yw2, OwnR maK 28 2 ayv2 nyv2 cyv2 Hyv2 yv2, blk bka2 56 [.int .i64 0, .slice none 0 0], blk bka1 43 [.slice none 0 0, .slice none 0 0, .slice none 0 0]]) (good := fun x => 0 ≤ x ∧ (x < (4 : Int) ∨ x = 0)) (φs := fun x => [srcP bks3 ca bs cc]) (val := fun x => .int .i64 x) rfl Try.call95 (by exact (fun _ _ h => h.pick [2])) rfl rfl (fun w M1 hs hk => src_next bks3 ca bs cc (4 : Int) w M1 hs (hk _ kcode) hok) ?_
   intro x8 hx8
   replace hx8 : 0 ≤ x8 ∧ x8 < (4 : Int) := by omega
   try dsimp only at hx8
   refine rPieces (L' := [srcP bks3 ca bs cc, blk bka20 56 [.int .i64 0, .slice none 0 0], blk bka7 43 [.slice ay2 ny2 cy2, .slice ayw2 nyw2 cyw2, .slice ayv2 nyv2 cyv2], OwnR ndK 88 2 ay2 ny2 cy2 Hy2 y2, OwnR maK 28 2 ayw2 nyw2 cyw2 Hyw2 yw2, OwnR maK 28 2 ayv2 nyv2 cyv2 Hyv2 yv2, blk bka2 56 [.int .i64 0, .slice none 0 0], blk bka1 43 [.slice none 0 0, .slice none 0 0, .slice none 0 0]]) (fun _ h => h) ?_
   refine callS Try.call62 (by exact (fun _ _ h => h.pick [3])) rfl rfl (fun w hs => spec_PureStrategy_c _ ny2 cy2 _ _ _ nyw2 cyw2 _ _ _ nyv2 cyv2 _ _ _ _ w (OwnR.rd (hs.at_ 3 rfl) ndK.ok) (OwnR.rd (hs.at_ 4 rfl) maK.ok) (OwnR.rd (hs.at_ 5 rfl) maK.ok)) ?_
   rintro ⟨pl9, ay9, ny9, cy9, Hy9, y9, q9⟩ ⟨hr9a, hr9b, hr9c⟩
   dsimp only at hr9a hr9b hr9c
   subst pl9
   subst y9
   subst q9
   refine rPieces (L' := [OwnR maK 28 2 ay9 ny9 cy9 Hy9 ((((Math.pureAt y2 yw2 yv2 (0 : Int) x8).1.2))), srcP bks3 ca bs cc, blk bka20 56 [.int .i64 0, .slice none 0 0], blk bka7 43 [.slice ay2 ny2 cy2, .slice ayw2 nyw2 cyw2, .slice ayv2 nyv2 cyv2], OwnR ndK 88 2 ay2 ny2 cy2 Hy2 y2, OwnR maK 28 2 ayw2 nyw2 cyw2 Hyw2 yw2, OwnR maK 28 2 ayv2 nyv2 cyv2 Hyv2 yv2, blk bka2 56 [.int .i64 0, .slice none 0 0], blk bka1 43 [.slice none 0 0, .slice none 0 0, .slice none 0 0]]) (fun _ h => h) ?_
   refine rKnow (fun w hs => (show OwnR maK 28 2 ay9 ny9 cy9 Hy9 ((((Math.pureAt y2 yw2 yv2 (0 : Int) x8).1.2))) w from hs.at_ 0 rfl).1) (fun lenn21 => ?_)
   refine mv rfl rfl rfl ?_
   refine ext rfl rfl rfl rfl ?_
   refine ext rfl rfl rfl rfl ?_
   refine stAl (vs := [.int .i64 ((((Math.pureAt y2 yw2 yv2 (0 : Int) x8).1.1))), .slice ay9 ny9 cy9]) 2 rfl Try.sizeOf56 (fun _ h => h.pick [3]) rfl rfl rfl rfl rfl (by simp [Value.oneCell']) rfl ?_
   refine asI rfl rfl rfl ?_
   refine rNil ?_
   refine qSeq rfl ?_
   refine hSeq ?_
   have hpb := Math.pureAt_bd y2 yw2 yv2 0 x8
   have hpl := Math.pureAt_0pl y2 yw2 yv2 x8
   refine hReg (sq 0 (sq 1 sz)) (by kernel_rfl) ?_
   refine mvI rfl rfl rfl ?_
   refine eql rfl rfl rfl rfl ?_
   refine rNil ?_
   refine qSeq rfl ?_
   refine hIfD rfl (fun c4 => ?_) (fun c4 => ?_)
   ·
    replace c4 : (((Math.pureAt y2 yw2 yv2 (0 : Int) x8).2)) = 0 := c4
    refine hSeq ?_
    refine hDraw (Ls := [blk bka20 56 [.int .i64 ((((Math.pureAt y2 yw2 yv2 (0 : Int) x8).1.1))), .slice ay9 ny9 cy9], blk bka7 43 [.slice ay2 ny2 cy2, .slice ayw2 nyw2 cyw2, .slice ayv2 nyv2 cyv2]]) (by kernel_rfl) (sq 0 (sq 1 (sl 2 (sf 3 sz)))) (by kernel_rfl) (.cons _ (.cons _ (.cons_cons _ (.cons_cons _ (.cons _ (.cons _ (.cons _ (.cons _ (.cons _ .slnil))))))))) ?_
    refine ldAq Try.isAgg43 Try.sizeOf43 (cBs 1 rfl) rfl rfl rfl rfl ?_
    refine ldAq Try.isAgg56 Try.sizeOf56 (cBs 0 rfl) rfl rfl rfl rfl ?_
    refine stAl (vs := [.slice ay2 ny2 cy2, .slice ayw2 nyw2 cyw2, .slice ayv2 nyv2 cyv2]) 8 rfl Try.sizeOf43 (fun _ h => h.pick [2, 2]) rfl rfl rfl rfl rfl (by simp [Value.oneCell']) rfl ?_
    refine stAf (vs := [.int .i64 ((((Math.pureAt y2 yw2 yv2 (0 : Int) x8).1.1))), .slice ay9 ny9 cy9]) 7 rfl Try.sizeOf56 rfl rfl rfl rfl rfl (by simp [Value.oneCell']) rfl ?_
    refine rNil ?_
    refine qSeq rfl ?_
    refine hRet ?_
    refine knP (L' := [OwnR maK 28 2 ay9 ny9 cy9 Hy9 ((((Math.pureAt y2 yw2 yv2 (0 : Int) x8).1.2))), srcP bks3 ca bs cc, blk bka20 56 [.int .i64 ((((Math.pureAt y2 yw2 yv2 (0 : Int) x8).1.1))), .slice ay9 ny9 cy9], blk bka7 43 [.slice ay2 ny2 cy2, .slice ayw2 nyw2 cyw2, .slice ayv2 nyv2 cyv2], RdR ndK ay2 ny2 Hy2 y2, OwnR maK 28 2 ayw2 nyw2 cyw2 Hyw2 yw2, OwnR maK 28 2 ayv2 nyv2 cyv2 Hyv2 yv2, blk bka2 56 [.int .i64 ((((Math.pureAt y2 yw2 yv2 (0 : Int) x8).1.1))), .slice ay9 ny9 cy9], blk bka1 43 [.slice ay2 ny2 cy2, .slice ayw2 nyw2 cyw2, .slice ayv2 nyv2 cyv2]]) (fun _ h => h.imp 4 rfl fun _ h => OwnR.rd h ndK.ok) ?_
    refine knP (L' := [OwnR maK 28 2 ay9 ny9 cy9 Hy9 ((((Math.pureAt y2 yw2 yv2 (0 : Int) x8).1.2))), srcP bks3 ca bs cc, blk bka20 56 [.int .i64 ((((Math.pureAt y2 yw2 yv2 (0 : Int) x8).1.1))), .slice ay9 ny9 cy9], blk bka7 43 [.slice ay2 ny2 cy2, .slice ayw2 nyw2 cyw2, .slice ayv2 nyv2 cyv2], RdR ndK ay2 ny2 Hy2 y2, RdR maK ayw2 nyw2 Hyw2 yw2, OwnR maK 28 2 ayv2 nyv2 cyv2 Hyv2 yv2, blk bka2 56 [.int .i64 ((((Math.pureAt y2 yw2 yv2 (0 : Int) x8).1.1))), .slice ay9 ny9 cy9], blk bka1 43 [.slice ay2 ny2 cy2, .slice ayw2 nyw2 cyw2, .slice ayv2 nyv2 cyv2]]) (fun _ h => h.imp 5 rfl fun _ h => OwnR.rd h maK.ok) ?_
    refine knP (L' := [OwnR maK 28 2 ay9 ny9 cy9 Hy9 ((((Math.pureAt y2 yw2 yv2 (0 : Int) x8).1.2))), srcP bks3 ca bs cc, blk bka20 56 [.int .i64 ((((Math.pureAt y2 yw2 yv2 (0 : Int) x8).1.1))), .slice ay9 ny9 cy9], blk bka7 43 [.slice ay2 ny2 cy2, .slice ayw2 nyw2 cyw2, .slice ayv2 nyv2 cyv2], RdR ndK ay2 ny2 Hy2 y2, RdR maK ayw2 nyw2 Hyw2 yw2, RdR maK ayv2 nyv2 Hyv2 yv2, blk bka2 56 [.int .i64 ((((Math.pureAt y2 yw2 yv2 (0 : Int) x8).1.1))), .slice ay9 ny9 cy9], blk bka1 43 [.slice ay2 ny2 cy2, .slice ayw2 nyw2 cyw2, .slice ayv2 nyv2 cyv2]]) (fun _ h => h.imp 6 rfl fun _ h => OwnR.rd h maK.ok) ?_
    exact fun w hs => ⟨[_, _], ⟨⟨_, rfl, run_load_agg Try.isAgg43 Try.sizeOf43 rfl (cBs 8 rfl w hs)⟩, ⟨⟨_, rfl, run_load_agg Try.isAgg56 Try.sizeOf56 rfl (cBs 7 rfl w hs)⟩, trivial⟩⟩, ⟨(ay2, ny2, cy2, Hy2, y2, ayw2, nyw2, cyw2, Hyw2, yw2, ayv2, nyv2, cyv2, Hyv2, yv2, (((Math.pureAt y2 yw2 yv2 (0 : Int) x8).1.1)), ay9, ny9, cy9, Hy9, (((Math.pureAt y2 yw2 yv2 (0 : Int) x8).1.2))), rfl, ⟨by dsimp only; omega, ⟨⟨by dsimp only; omega, by dsimp only; omega⟩, by dsimp only; omega⟩, ⟨⟨by dsimp only; omega, by dsimp only; omega⟩, by dsimp only; omega⟩⟩, hs.pick [4, 4, 4, 0]⟩⟩
   ·
    replace c4 : ¬ ((((Math.pureAt y2 yw2 yv2 (0 : Int) x8).2)) = 0) := c4
    refine hSkip ?_
    refine qSeq rfl ?_
    refine hSeq ?_
    refine hReg (sq 0 (sl 1 (sq 2 (sq 3 (sl 4 (sl 5 sz)))))) (by kernel_rfl) ?_
    refine mvS rfl rfl rfl ?_
    refine callS Try.call135 trv1 rfl rfl (fun w hs => spec_DrawIsStrategy_c _ _ cc w (Kn.drop (k := 9) kcode w hs) (by assumption)) ?_
    rintro ⟨ay10, ny10, cy10, Hy10, y10, ayw10, nyw10, cyw10, Hyw10, yw10, ayv10, nyv10, cyv10, Hyv10, yv10, pl10, ayp10, nyp10, cyp10, Hyp10, yp10⟩ hr10
    try dsimp only at hr10
    refine rPieces (L' := [RdR ndK ay10 ny10 Hy10 y10, RdR maK ayw10 nyw10 Hyw10 yw10, RdR maK ayv10 nyv10 Hyv10 yv10, OwnR maK 28 2 ayp10 nyp10 cyp10 Hyp10 yp10, OwnR maK 28 2 ay9 ny9 cy9 Hy9 ((((Math.pureAt y2 yw2 yv2 (0 : Int) x8).1.2))), srcP bks3 ca bs cc, blk bka20 56 [.int .i64 ((((Math.pureAt y2 yw2 yv2 (0 : Int) x8).1.1))), .slice ay9 ny9 cy9], blk bka7 43 [.slice ay2 ny2 cy2, .slice ayw2 nyw2 cyw2, .slice ayv2 nyv2 cyv2], OwnR ndK 88 2 ay2 ny2 cy2 Hy2 y2, OwnR maK 28 2 ayw2 nyw2 cyw2 Hyw2 yw2, OwnR maK 28 2 ayv2 nyv2 cyv2 Hyv2 yv2, blk bka2 56 [.int .i64 0, .slice none 0 0], blk bka1 43 [.slice none 0 0, .slice none 0 0, .slice none 0 0]]) (fun _ h => h) ?_
    refine rKnow (fun w hs => (show RdR ndK ay10 ny10 Hy10 y10 w from hs.at_ 0 rfl).1) (fun lenn22 => ?_)
    refine rKnow (fun w hs => (show RdR maK ayw10 nyw10 Hyw10 yw10 w from hs.at_ 1 rfl).1) (fun lenn23 => ?_)
    refine rKnow (fun w hs => (show RdR maK ayv10 nyv10 Hyv10 yv10 w from hs.at_ 2 rfl).1) (fun lenn24 => ?_)
    refine rKnow (fun w hs => (show OwnR maK 28 2 ayp10 nyp10 cyp10 Hyp10 yp10 w from hs.at_ 3 rfl).1) (fun lenn25 => ?_)
    refine ext rfl rfl rfl rfl ?_
    refine ext rfl rfl rfl rfl ?_
    refine stAl (vs := [.slice ay10 ny10 cy10, .slice ayw10 nyw10 cyw10, .slice ayv10 nyv10 cyv10]) 12 rfl Try.sizeOf43 trv rfl rfl rfl rfl rfl (by simp [Value.oneCell']) rfl ?_
    refine stAl (vs := [.int .i64 pl10, .slice ayp10 nyp10 cyp10]) 11 rfl Try.sizeOf56 trv rfl rfl rfl rfl rfl (by simp [Value.oneCell']) rfl ?_
    refine rNil ?_
    refine qSeq rfl ?_
    refine hRet ?_
    exact fun w hs => ⟨[_, _], ⟨⟨_, rfl, run_load_agg Try.isAgg43 Try.sizeOf43 rfl (cBs 12 rfl w hs)⟩, ⟨⟨_, rfl, run_load_agg Try.isAgg56 Try.sizeOf56 rfl (cBs 11 rfl w hs)⟩, trivial⟩⟩, ⟨(ay10, ny10, cy10, Hy10, y10, ayw10, nyw10, cyw10, Hyw10, yw10, ayv10, nyv10, cyv10, Hyv10, yv10, pl10, ayp10, nyp10, cyp10, Hyp10, yp10), rfl, ⟨by dsimp only; omega, ⟨⟨by dsimp only; omega, by dsimp only; omega⟩, by dsimp only; omega⟩, ⟨⟨by dsimp only; omega, by dsimp only; omega⟩, by dsimp only; omega⟩⟩, hs.pick [0, 0, 0, 0]⟩⟩
 ·
  replace c1 : ¬ (x1 = 0) := c1
  refine hSkip ?_
  refine qSeq rfl ?_
  refine hSeq ?_
  refine hReg (sq 0 (sl 1 (sq 2 (sq 3 (sl 4 (sl 5 sz)))))) (by kernel_rfl) ?_
  refine mvS rfl rfl rfl ?_
  refine callS Try.call135 trv1 rfl rfl (fun w hs => spec_DrawIsStrategy_c _ _ cc w (Kn.drop (k := 3) kcode w hs) (by assumption)) ?_
  rintro ⟨ay11, ny11, cy11, Hy11, y11, ayw11, nyw11, cyw11, Hyw11, yw11, ayv11, nyv11, cyv11, Hyv11, yv11, pl11, ayp11, nyp11, cyp11, Hyp11, yp11⟩ hr11
  try dsimp only at hr11
  refine rPieces (L' := [RdR ndK ay11 ny11 Hy11 y11, RdR maK ayw11 nyw11 Hyw11 yw11, RdR maK ayv11 nyv11 Hyv11 yv11, OwnR maK 28 2 ayp11 nyp11 cyp11 Hyp11 yp11, srcP bks3 ca bs cc, blk bka2 56 [.int .i64 0, .slice none 0 0], blk bka1 43 [.slice none 0 0, .slice none 0 0, .slice none 0 0]]) (fun _ h => h) ?_
  refine rKnow (fun w hs => (show RdR ndK ay11 ny11 Hy11 y11 w from hs.at_ 0 rfl).1) (fun lenn26 => ?_)
  refine rKnow (fun w hs => (show RdR maK ayw11 nyw11 Hyw11 yw11 w from hs.at_ 1 rfl).1) (fun lenn27 => ?_)
  refine rKnow (fun w hs => (show RdR maK ayv11 nyv11 Hyv11 yv11 w from hs.at_ 2 rfl).1) (fun lenn28 => ?_)
  refine rKnow (fun w hs => (show OwnR maK 28 2 ayp11 nyp11 cyp11 Hyp11 yp11 w from hs.at_ 3 rfl).1) (fun lenn29 => ?_)
  refine ext rfl rfl rfl rfl ?_
  refine ext rfl rfl rfl rfl ?_
  refine stAl (vs := [.slice ay11 ny11 cy11, .slice ayw11 nyw11 cyw11, .slice ayv11 nyv11 cyv11]) 6 rfl Try.sizeOf43 trv rfl rfl rfl rfl rfl (by simp [Value.oneCell']) rfl ?_
  refine stAl (vs := [.int .i64 pl11, .slice ayp11 nyp11 cyp11]) 5 rfl Try.sizeOf56 trv rfl rfl rfl rfl rfl (by simp [Value.oneCell']) rfl ?_
  refine rNil ?_
  refine qSeq rfl ?_
  refine hRet ?_
  exact fun w hs => ⟨[_, _], ⟨⟨_, rfl, run_load_agg Try.isAgg43 Try.sizeOf43 rfl (cBs 6 rfl w hs)⟩, ⟨⟨_, rfl, run_load_agg Try.isAgg56 Try.sizeOf56 rfl (cBs 5 rfl w hs)⟩, trivial⟩⟩, ⟨(ay11, ny11, cy11, Hy11, y11, ayw11, nyw11, cyw11, Hyw11, yw11, ayv11, nyv11, cyv11, Hyv11, yv11, pl11, ayp11, nyp11, cyp11, Hyp11, yp11), rfl, ⟨by dsimp only; omega, ⟨⟨by dsimp only; omega, by dsimp only; omega⟩, by dsimp only; omega⟩, ⟨⟨by dsimp only; omega, by dsimp only; omega⟩, by dsimp only; omega⟩⟩, hs.pick [0, 0, 0, 0]⟩⟩
end Go.Proofs.Ytjengglpbdgmnaa
/- Calls of functions that are handed in; plain facts on strategies that are pure. No condition. -/
namespace Go.Proofs.Ytjengglpbdgmnaa.V
open Go Go.RowKit
set_option linter.unusedVariables false
set_option linter.unusedSimpArgs false
section
variable {P : Program} {n : Nat} {w0 : World} {M : Nat → Prop} {L L' : List (World → Prop)} {σ : Fr} {K K' : Ko} {c x y : Code} {ops : Array Oper} {S : World → Prop} {r : Sch} {i : Nat}
variable {d : Nat} {t : TypeId} {p : String} {af : Array Edge} {g : Option (Nat × Bool)}
theorem callF_opw {f : FuncId} {co : Operand} {args : Array Operand} {tys : Array TypeId} {R : Value → World → Prop} {Q : Fr → World → Prop} {w : World} (hf : ∀ args w, (callFunc f args).run P w = .ok (.enter f args) w) (hco : ev σ co = .func (.func f) #[] #[])
    (hc : Calls P f (args.toList.map (ev σ)).toArray w (Ret R)) (hq : ∀ v w', R v w' → Q (upd σ d v) w') : opw P ⟨some d, .call ⟨.value co, args, tys⟩, t, p, af, g⟩ σ w Q := by
  have hr : (execOp (ev σ) ⟨some d, .call ⟨.value co, args, tys⟩, t, p, af, g⟩).run P w = .ok (.enter f (args.toList.map (ev σ)).toArray) w := by
    have he : args.map (ev σ) = (args.toList.map (ev σ)).toArray := by rw [← Array.toList_map, Array.toArray_toList]
    simp [execOp, resolve, hco, Deferred.ofValue, invoke, hf, he]
  unfold opw; rw [hr]
  exact Calls.mono hc fun e w' ⟨v, he, hR⟩ => ⟨v, he, hq v w' hR⟩
/-- A call of a function that lies in a slot. -/
theorem callF {f : FuncId} {co : Operand} {args : Array Operand} {tys : Array TypeId} {v : Value} (hf : ∀ args w, (callFunc f args).run P w = .ok (.enter f args) w) (hS : ∀ w, Sep w0 M L w → S w) (ho : ops[i]? = some ⟨some d, .call ⟨.value co, args, tys⟩, t, p, af, g⟩) (hg : go ops σ g) (hco : ev σ co = .func (.func f) #[] #[])
    (hc : ∀ w, Sep w0 M L w → Calls P f (args.toList.map (ev σ)).toArray w (Ret fun v' w' => v' = v ∧ Ext w w')) (h : RG P n w0 M ops S L r (upd σ d v) K) : RG P n w0 M ops S L (.op .l i r) σ K :=
  rL1 hS ho hg (fun w hs => callF_opw hf hco (hc w hs) fun v' w' ⟨he, hx⟩ => by subst he; exact ⟨hs.ext hx, rfl⟩) h
end
end Go.Proofs.Ytjengglpbdgmnaa.V
namespace Go.Proofs.Ytjengglpbdgmnaa.Math
open Go.Proofs.Ytjengglpbdgmnaa.V
def low (r : List Int) : Bool := decide (r.getD (best r) 0 < 60)
def hasLow (ps : List (List Int)) : Bool := ps.any low
def hasI (z : List Int) (x : Int) : Bool := decide (x ∈ z)
def pureB (ps : List (List Int)) : Bool := ps.all fun r => hasI r 60
theorem hasI_yes {z : List Int} {x : Int} {i : Nat} (hi : i < z.length) (h : z.getD i 0 = x) : hasI z x = true := decide_eq_true (by rw [← h]; exact getD_mem 0 hi)
theorem hasI_no {z : List Int} {x : Int} (h : ∀ j, j < z.length → z.getD j 0 ≠ x) : hasI z x = false := decide_eq_false fun hm => by obtain ⟨i, hi, he⟩ := mem_getD 0 hm; exact h i hi he
theorem hasLow_yes {ps : List (List Int)} {i : Nat} (hi : i < ps.length) (h : (ps.getD i []).getD (best (ps.getD i [])) 0 < 60) : hasLow ps = true := List.any_eq_true.2 ⟨_, getD_mem [] hi, decide_eq_true h⟩
theorem hasLow_no {ps : List (List Int)} (h : ∀ j, j < ps.length → ¬ (ps.getD j []).getD (best (ps.getD j [])) 0 < 60) : hasLow ps = false := by
  rw [Bool.eq_false_iff]; intro h'
  obtain ⟨r, hr, hl⟩ := List.any_eq_true.1 h'
  obtain ⟨i, hi, he⟩ := mem_getD [] hr
  subst he
  exact h i hi (of_decide_eq_true hl)
theorem pureB_no {ps : List (List Int)} {i : Nat} (hi : i < ps.length) (h : hasI (ps.getD i []) 60 = false) : pureB ps = false := all_no [] hi h
theorem pureB_yes {ps : List (List Int)} (h : ∀ j, j < ps.length → hasI (ps.getD j []) 60 = true) : pureB ps = true := (all_getD []).2 h
theorem low_is {r : List Int} (h1 : 1 ≤ r.length) (h2 : ∀ x ∈ r, 0 ≤ x ∧ x ≤ 60) : low r = !hasI r 60 := by
  have hb := best_lt h1
  have hm := h2 _ (getD_mem 0 hb)
  unfold low
  by_cases h : (60 : Int) ∈ r
  · obtain ⟨j, hj, he⟩ := mem_getD 0 h
    have := bestTo_max r (r.length - 1) j (by omega)
    have h3 : hasI r 60 = true := decide_eq_true h
    rw [h3, decide_eq_false (by unfold best; omega)]; rfl
  · have h3 : hasI r 60 = false := decide_eq_false h
    rw [h3, decide_eq_true]; rfl
    have hne : r.getD (best r) 0 ≠ 60 := fun he => h (by rw [← he]; exact getD_mem 0 hb)
    omega
theorem pure_low {ps : List (List Int)} (h : ∀ r ∈ ps, 1 ≤ r.length ∧ ∀ x ∈ r, 0 ≤ x ∧ x ≤ 60) : (!hasLow ps) = pureB ps := by
  induction ps with
  | nil => rfl
  | cons r ps ih =>
    have h1 := h r (List.mem_cons_self ..)
    have ih := ih fun q hq => h q (List.mem_cons_of_mem _ hq)
    have hl : hasLow (r :: ps) = (low r || hasLow ps) := rfl
    have hp : pureB (r :: ps) = (hasI r 60 && pureB ps) := rfl
    rw [hl, hp, low_is h1.1 h1.2, ← ih]
    cases hasI r 60 <;> cases hasLow ps <;> rfl
theorem strat_rows {z : List Nd} {ws vs ps : List (List Int)} {pl : Int} (h : isStrat z ws vs pl ps = true) : ∀ r ∈ ps, 1 ≤ r.length ∧ ∀ x ∈ r, 0 ≤ x ∧ x ≤ 60 := fun r hr => by
  obtain ⟨hg, hp, hps⟩ := isStrat_ok h
  obtain ⟨i, hi, he⟩ := mem_getD [] hr
  have hl := parts_len hps
  have hs := sets_at (z := z) (k := ws.length) (p := pl) (i := i) (by omega)
  have w2 := wide_pos hg hs.2.1 hs.2.2 hp.2
  obtain ⟨a1, _⟩ := part_row (parts_at hps (i := i) (by omega))
  rw [he] at a1
  have a2 := row_len a1
  exact ⟨by omega, row_in a1⟩
def isPureAt (z : List Nd) (ws vs : List (List Int)) (pl : Int) (ps : List (List Int)) : Bool × Int := if isStrat z ws vs pl ps = true then (pureB ps, 0) else (false, 1)
theorem isPureAt_1 {z : List Nd} {ws vs ps : List (List Int)} {pl : Int} (h : isStrat z ws vs pl ps = false) : isPureAt z ws vs pl ps = (false, 1) := if_neg (by rw [h]; decide)
theorem isPureAt_0 {z : List Nd} {ws vs ps : List (List Int)} {pl : Int} (h : isStrat z ws vs pl ps = true) {b : Bool} (hb : pureB ps = b) : isPureAt z ws vs pl ps = (b, 0) := by subst hb; exact if_pos h
end Go.Proofs.Ytjengglpbdgmnaa.Math
/- Plain facts: pure strategies are strategies, they are pure, and numbers that differ give different ones. No condition. -/
namespace Go.Proofs.Ytjengglpbdgmnaa.Math
open Go.Proofs.Ytjengglpbdgmnaa.V
set_option linter.unusedVariables false
set_option linter.unusedSimpArgs false
def prodL : List Int → Int
  | [] => 1
  | x :: l => x * prodL l
theorem countL_prod : ∀ {l : List Int} {n m : Int}, countL l n = some m → m = n * prodL l
  | [], n, m, h => by cases h; exact (Int.mul_one _).symm
  | x :: l, n, m, h => by
    unfold countL at h
    split at h
    · cases h
    · rw [countL_prod h]; show n * x * prodL l = n * (x * prodL l); exact Int.mul_assoc _ _ _
theorem quoL_zero : ∀ {l : List Int} {n : Int}, (∀ x ∈ l, 1 ≤ x ∧ x ≤ 4) → 0 ≤ n → ∀ c, 0 ≤ c → n < (c + 1) * prodL l → quoL l n ≤ c
  | [], n, _, _, c, hc, h => by show n ≤ c; have : (c + 1) * prodL [] = c + 1 := Int.mul_one _; omega
  | s :: l, n, hl, hn, c, hc, h => by
    have hs := hl s (List.mem_cons_self ..)
    have hl' : ∀ x ∈ l, 1 ≤ x ∧ x ≤ 4 := fun x hx => hl x (List.mem_cons_of_mem _ hx)
    have e : (c + 1) * prodL (s :: l) = ((c + 1) * s) * prodL l := by show (c + 1) * (s * prodL l) = _; exact (Int.mul_assoc _ _ _).symm
    have h0 : 0 ≤ (c + 1) * s - 1 := by have := Int.mul_pos (show 0 < c + 1 by omega) (show 0 < s by omega); omega
    have ih := quoL_zero hl' hn ((c + 1) * s - 1) h0 (by rw [show (c + 1) * s - 1 + 1 = (c + 1) * s from by omega, ← e]; exact h)
    show quoL l n / s ≤ c
    have h2 : quoL l n / s < c + 1 := Int.ediv_lt_of_lt_mul (by omega) (by omega)
    omega
theorem digits_inj : ∀ {l : List Int} {n m : Int}, (∀ i, i < l.length → digit l n i = digit l m i) → quoL l n = quoL l m → n = m
  | [], n, m, _, h => h
  | s :: l, n, m, hd, hq => by
    have h0 := hd 0 (Nat.succ_pos _)
    have h0' : quoL l n % s = quoL l m % s := h0
    have hq' : quoL l n / s = quoL l m / s := hq
    have e : quoL l n = quoL l m := by
      have a := Int.mul_ediv_add_emod (quoL l n) s
      have b := Int.mul_ediv_add_emod (quoL l m) s
      rw [h0', hq'] at a; omega
    exact digits_inj (fun i hi => hd (i + 1) (Nat.succ_lt_succ hi)) e
theorem line_at {s d : Int} {j : Nat} (hj : j < s.toNat) : (line s d).getD j 0 = if d.toNat = j then 60 else 0 := by
  unfold line
  rw [List.getD_eq_getElem?_getD, List.getElem?_set, List.length_replicate]
  split
  · rename_i h; rw [if_pos (by omega)]; rfl
  · rw [List.getElem?_replicate, if_pos hj]; rfl
theorem line_inj {s d e : Int} (hd : 0 ≤ d ∧ d < s) (he : 0 ≤ e ∧ e < s) (h : line s d = line s e) : d = e := by
  have h1 := line_at (s := s) (d := d) (j := d.toNat) (by omega)
  have h2 := line_at (s := s) (d := e) (j := d.toNat) (by omega)
  rw [h, h2, if_pos rfl] at h1
  by_cases h3 : e.toNat = d.toNat
  · omega
  · rw [if_neg h3] at h1; cases h1
theorem pureM_inj {l : List Int} {n m : Int} (hl : ∀ x ∈ l, 1 ≤ x ∧ x ≤ 4) (hn : 0 ≤ n ∧ n < prodL l) (hm : 0 ≤ m ∧ m < prodL l) (h : pureM l n = pureM l m) : n = m := by
  refine digits_inj (l := l) (fun i hi => ?_) ?_
  · have h1 := pureM_at (n := n) hi
    have h2 := pureM_at (n := m) hi
    rw [h, h2] at h1
    exact (line_inj (digit_bd hl hi) (digit_bd hl hi) h1).symm
  · have a := quoL_zero hl hn.1 0 (Int.le_refl _) (by rw [show (0 : Int) + 1 = 1 from rfl, Int.one_mul]; exact hn.2)
    have b := quoL_zero hl hm.1 0 (Int.le_refl _) (by rw [show (0 : Int) + 1 = 1 from rfl, Int.one_mul]; exact hm.2)
    have c := (quoL_bd hn.1 hl).1
    have d := (quoL_bd hm.1 hl).1
    omega
theorem put_sum : ∀ (n d : Nat), d < n → ((List.replicate n (0 : Int)).set d 60).sum = 60
  | 0, d, h => absurd h (Nat.not_lt_zero _)
  | n + 1, 0, _ => by
    show ((60 : Int) :: List.replicate n 0).sum = 60
    have : ∀ n, (List.replicate n (0 : Int)).sum = 0 := fun n => by
      induction n with
      | zero => rfl
      | succ n ih => rw [List.replicate_succ, List.sum_cons, ih]; rfl
    rw [List.sum_cons, this]; rfl
  | n + 1, d + 1, h => by
    show ((0 : Int) :: (List.replicate n (0 : Int)).set d 60).sum = 60
    rw [List.sum_cons, put_sum n d (Nat.lt_of_succ_lt_succ h)]; rfl
theorem line_row {s d : Int} (h : 0 ≤ d ∧ d < s) : (line s d).sum = 60 ∧ (∀ x ∈ line s d, 0 ≤ x ∧ x ≤ 60) ∧ 60 ∈ line s d := by
  refine ⟨put_sum _ _ (by omega), fun x hx => ?_, ?_⟩
  · unfold line at hx
    rcases List.mem_or_eq_of_mem_set hx with h1 | rfl
    · rw [List.eq_of_mem_replicate h1]; decide
    · decide
  · have h1 := line_at (s := s) (d := d) (j := d.toNat) (by omega)
    rw [if_pos rfl] at h1
    rw [← h1]; exact getD_mem 0 (by rw [line_len]; omega)
theorem countOf_is {z : List Nd} {ws vs : List (List Int)} {p : Int} (h : (countOf z ws vs p).2 = 0) : (isGame z ws vs = true ∧ (0 ≤ p ∧ p ≤ 1)) ∧ (countOf z ws vs p).1 = prodL (sizes z (sets z ws.length p)) := by
  have h0 := countOf_ok h
  refine ⟨h0, ?_⟩
  unfold countOf at h ⊢
  rw [if_pos h0.1, if_pos h0.2] at h ⊢
  cases hc : countL (sizes z (sets z ws.length p)) 1 with
  | none => rw [hc] at h; cases h
  | some m => have := countL_prod hc; dsimp only; rw [this, Int.one_mul]
theorem pureAt_ok {z : List Nd} {ws vs : List (List Int)} {p n : Int} (h : (pureAt z ws vs p n).2 = 0) : (countOf z ws vs p).2 = 0 ∧ (0 ≤ n ∧ n ≤ (countOf z ws vs p).1 - 1) := by
  by_cases hc : (countOf z ws vs p).2 = 0
  · by_cases hn : 0 ≤ n ∧ n ≤ (countOf z ws vs p).1 - 1
    · exact ⟨hc, hn⟩
    · rw [pureAt_2 hc hn] at h; cases h
  · rw [pureAt_c hc] at h; exact absurd h hc
theorem pure_strat {z : List Nd} {ws vs : List (List Int)} {p n : Int} (h : (pureAt z ws vs p n).2 = 0) :
    isStrat z ws vs (pureAt z ws vs p n).1.1 (pureAt z ws vs p n).1.2 = true ∧ isPureAt z ws vs (pureAt z ws vs p n).1.1 (pureAt z ws vs p n).1.2 = (true, 0) := by
  obtain ⟨hc, hn⟩ := pureAt_ok h
  obtain ⟨⟨hg, hp⟩, he⟩ := countOf_is hc
  rw [pureAt_0 rfl hc hn]
  dsimp only
  have hz := sizes_len (z := z) (ss := sets z ws.length p)
  have hl := pureM_len (sizes z (sets z ws.length p)) n
  have hb := sizes_bd (k := ws.length) hg hp
  have hrow : ∀ i, i < (sets z ws.length p).length → (pureM (sizes z (sets z ws.length p)) n).getD i [] = line (wide z ((sets z ws.length p).getD i []) : Int) (digit (sizes z (sets z ws.length p)) n i) ∧ (0 ≤ digit (sizes z (sets z ws.length p)) n i ∧ digit (sizes z (sets z ws.length p)) n i < (wide z ((sets z ws.length p).getD i []) : Int)) := fun i hi => by
    have h1 := pureM_at (l := sizes z (sets z ws.length p)) (n := n) (i := i) (by omega)
    have h2 := digit_bd (n := n) hb (i := i) (by omega)
    rw [sizes_at hi] at h1 h2
    exact ⟨h1, h2⟩
  have hs : isStrat z ws vs p (pureM (sizes z (sets z ws.length p)) n) = true := by
    rw [strat_in rfl hg hp]
    refine parts_yes (by omega) fun i hi => ?_
    obtain ⟨h1, h2⟩ := hrow i hi
    obtain ⟨r1, r2, r3⟩ := line_row h2
    rw [h1]
    exact part_yes (by rw [line_len]; omega) (List.all_eq_true.2 fun x hx => decide_eq_true (r2 x hx)) r1
  refine ⟨hs, isPureAt_0 hs (pureB_yes fun j hj => ?_)⟩
  obtain ⟨h1, h2⟩ := hrow j (by omega)
  rw [h1]
  exact decide_eq_true (line_row h2).2.2
theorem pure_prev {z : List Nd} {ws vs : List (List Int)} {p n : Int} (h : (pureAt z ws vs p n).2 = 0) (h0 : n ≠ 0) :
    (pureAt z ws vs p (n - 1)).2 = 0 ∧ (pureAt z ws vs p (n - 1)).1.1 = (pureAt z ws vs p n).1.1 ∧ (pureAt z ws vs p (n - 1)).1.2 ≠ (pureAt z ws vs p n).1.2 ∧ (1 ≤ n ∧ n ≤ 1000000000) := by
  obtain ⟨hc, hn⟩ := pureAt_ok h
  obtain ⟨⟨hg, hp⟩, he⟩ := countOf_is hc
  have hcb := countOf_bd z ws vs p
  rw [pureAt_0 rfl hc hn, pureAt_0 (n := n - 1) rfl hc (by omega)]
  refine ⟨rfl, rfl, fun h' => ?_, by omega⟩
  have := pureM_inj (sizes_bd (k := ws.length) hg hp) (n := n - 1) (m := n) (by omega) (by omega) h'
  omega
theorem isPureAt_iff (z : List Nd) (ws vs : List (List Int)) (pl : Int) (ps : List (List Int)) : isStrat z ws vs pl ps = decide ((isPureAt z ws vs pl ps).2 = 0) := by
  by_cases h : isStrat z ws vs pl ps = true
  · rw [h, isPureAt_0 h rfl]; rfl
  · rw [isPureAt_1 (by simpa using h)]; simpa using h
/-- Lists are alike. -/
def same {α : Type} [DecidableEq α] (z y : List α) : Bool := decide (z = y)
theorem same_len {α : Type} [DecidableEq α] {z y : List α} (h : (z.length : Int) ≠ (y.length : Int)) : same z y = false := decide_eq_false fun e => h (by rw [e])
theorem same_no {α : Type} [DecidableEq α] {z y : List α} {d : α} {i : Nat} (h : z.getD i d ≠ y.getD i d) : same z y = false := decide_eq_false fun e => h (by rw [e])
theorem same_yes {α : Type} [DecidableEq α] {z y : List α} (d : α) {n : Nat} (h1 : z.length = n) (h2 : y.length = n) (h : ∀ j, j < n → z.getD j d = y.getD j d) : same z y = true := decide_eq_true (List.ext_getElem (by omega) fun j a b => by
  have := h j (by omega)
  rw [List.getD_eq_getElem?_getD, List.getD_eq_getElem?_getD, List.getElem?_eq_getElem a, List.getElem?_eq_getElem b] at this
  exact this)
theorem same_ne {α : Type} [DecidableEq α] {z y : List α} (h : same z y = false) : z ≠ y := of_decide_eq_false h
theorem same_eq {α : Type} [DecidableEq α] {z y : List α} (h : same z y = true) : z = y := of_decide_eq_true h
end Go.Proofs.Ytjengglpbdgmnaa.Math
