/- The law FnMirrors returns true for all arguments. No condition. -/
import Derived.Test.YtjengglpbdgmnaaEngCMi
import Derived.Test.YtjengglpbdgmnaaFrameMi
import Derived.Test.YtjengglpbdgmnaaFrmMi
import Derived.Test.YtjengglpbdgmnaaTreeMi
import Derived.Test.YtjengglpbdgmnaaGameMi
import Derived.Test.YtjengglpbdgmnaaSetsMi
import Derived.Test.YtjengglpbdgmnaaHighMi
import Derived.Test.YtjengglpbdgmnaaGrowMi
import Derived.Test.YtjengglpbdgmnaaBetMi
import Derived.Test.YtjengglpbdgmnaaDrawMi
import Derived.Test.YtjengglpbdgmnaaCopyMi
import Derived.Test.YtjengglpbdgmnaaSrc0Mi
import Derived.Test.YtjengglpbdgmnaaSrcMi
import Derived.Test.YtjengglpbdgmnaaSrc2Mi
import Derived.Test.YtjengglpbdgmnaaSrcWMi
import Derived.Test.YtjengglpbdgmnaaL1Mi
import Derived.Test.YtjengglpbdgmnaaL2Mi
import Derived.Test.YtjengglpbdgmnaaL3Mi
import Derived.Test.YtjengglpbdgmnaaLTMi
import Derived.Test.YtjengglpbdgmnaaLIMi
import Derived.Test.YtjengglpbdgmnaaLJMi
import Derived.Test.YtjengglpbdgmnaaL4Mi
import Derived.Test.YtjengglpbdgmnaaL5Mi
import Derived.Test.YtjengglpbdgmnaaL6Mi
import Derived.Test.YtjengglpbdgmnaaLCMi
import Derived.Test.YtjengglpbdgmnaaLSMi
import Derived.Test.YtjengglpbdgmnaaLZMi
import Derived.Test.YtjengglpbdgmnaaLVMi
import Derived.Test.YtjengglpbdgmnaaLJ2Mi
import Derived.Test.YtjengglpbdgmnaaMirrMi
import Derived.Test.YtjengglpbdgmnaaMir2Mi
import Derived.Test.YtjengglpbdgmnaaLHMi
import Derived.Test.YtjengglpbdgmnaaLMMi
import Derived.Test.YtjengglpbdgmnaaLNMi
import Derived.Test.YtjengglpbdgmnaaRows
namespace Go.Proofs.Ytjengglpbdgmnaa
open Go Go.RowKit V Go.ChangeShapes Go.WideShapes Go.ChangeAt
set_option linter.unusedVariables false
set_option linter.unusedSimpArgs false
set_option maxRecDepth 100000
set_option maxHeartbeats 4000000 in
theorem laws_FnMirrors_c (ca : Option Addr) (bs : List Int) (cc : Nat) (w : World) (rcode : CellsAt ca (bs.map (Value.int .u8)) w) (hb : ∀ n ∈ bs, (Lit.int .u8 n).wf = true) :
  Calls Try.prog 5 #[.slice ca bs.length cc] w (Ret fun v w' => v = .bool true ∧ Ext w w') := by
 have kcode : Kn w none_ [] (CellsAt ca (bs.map (Value.int .u8))) := fun w' hs => rcode.ext hs.upd
 refine fn (M := none_) (rs := [.tmp 2]) Try.func5 rfl Try.ntmps5 rfl rfl (Sep.start _ _) ?_
 refine hSeq ?_
 refine hReg (sq 0 sz) (by kernel_rfl) ?_
 refine asB rfl rfl rfl ?_
 refine rNil ?_
 refine qSeq rfl ?_
 refine hSeq ?_
 refine hSeq ?_
 refine hReg (sq 0 (sl 1 sz)) (by kernel_rfl) ?_
 refine mvS rfl rfl rfl ?_
 refine callP (v := .bool (decide (4096 < ((bs.length : Nat) : Int)))) Try.call12 trv rfl rfl (fun w hs => laws_big_c _ _ cc w (kcode w hs)) ?_
 refine rNil ?_
 refine qSeq rfl ?_
 refine hIfD rfl (fun c1 => ?_) (fun c1 => ?_)
 ·
  replace c1 : 4096 < ((bs.length : Nat) : Int) := c1
  refine hSeq ?_
  refine hReg (sq 0 sz) (by kernel_rfl) ?_
  refine asB rfl rfl rfl ?_
  refine rNil ?_
  refine qSeq rfl ?_
  refine hRet ?_
  exact fun w hs => ⟨[.bool true], ⟨rfl, trivial⟩, ⟨by first | rfl | exact (bT (by omega)).symm, hs.upd⟩⟩
 ·
  replace c1 : ¬ (4096 < ((bs.length : Nat) : Int)) := c1
  have hok : okBytes bs := ⟨fun x hx => bounds_u8 (hb x hx), by omega⟩
  refine hSkip ?_
  refine qSeq rfl ?_
  refine hSeq ?_
  refine hReg (sq 0 (sl 1 (sl 2 (sl 3 sz)))) (by kernel_rfl) ?_
  refine mvS rfl rfl rfl ?_
  refine callS Try.call31 trv1 rfl rfl (fun w hs => spec_DrawMirrorGame_c _ _ cc w (kcode w hs) (by assumption)) ?_
  rintro ⟨ay1, ny1, cy1, Hy1, y1, ayw1, nyw1, cyw1, Hyw1, yw1, ayv1, nyv1, cyv1, Hyv1, yv1⟩ hr1
  try dsimp only at hr1
  refine rPieces (L' := [RdR ndK ay1 ny1 Hy1 y1, RdR maK ayw1 nyw1 Hyw1 yw1, RdR maK ayv1 nyv1 Hyv1 yv1]) (fun _ h => h) ?_
  refine rKnow (fun w hs => (show RdR ndK ay1 ny1 Hy1 y1 w from hs.at_ 0 rfl).1) (fun lenn1 => ?_)
  refine rKnow (fun w hs => (show RdR maK ayw1 nyw1 Hyw1 yw1 w from hs.at_ 1 rfl).1) (fun lenn2 => ?_)
  refine rKnow (fun w hs => (show RdR maK ayv1 nyv1 Hyv1 yv1 w from hs.at_ 2 rfl).1) (fun lenn3 => ?_)
  refine alc Try.zeroValue43 rfl trv1 rfl rfl (fun bka4 hbka4 => ?_)
  refine stAl (vs := [.slice ay1 ny1 cy1, .slice ayw1 nyw1 cyw1, .slice ayv1 nyv1 cyv1]) 0 rfl Try.sizeOf43 trv rfl rfl rfl rfl rfl (by simp [Value.oneCell']) rfl ?_
  refine rNil ?_
  refine qSeq rfl ?_
  refine hSeq ?_
  refine hReg (sl 0 (sl 1 (sq 2 (sq 3 (sq 4 (sl 5 (sl 6 (sq 7 sz)))))))) (by kernel_rfl) ?_
  refine ldAl Try.isAgg43 Try.sizeOf43 (cBs 0 rfl) trv rfl rfl rfl rfl ?_
  refine callS Try.call32 trv1 rfl rfl (fun w hs => impl_MirrorGame_c _ ny1 cy1 _ _ _ nyw1 cyw1 _ _ _ nyv1 cyv1 _ _ w (hs.at_ 1 rfl) (hs.at_ 2 rfl) (hs.at_ 3 rfl)) ?_
  rintro ⟨ay2, ny2, cy2, Hy2, y2, ayw2, nyw2, cyw2, Hyw2, yw2, ayv2, nyv2, cyv2, Hyv2, yv2, q2⟩ ⟨hr2a, hr2b, hr2c, hr2d⟩
  dsimp only at hr2a hr2b hr2c hr2d
  subst y2
  subst yw2
  subst yv2
  subst q2
  refine rPieces (L' := [OwnR ndK 88 2 ay2 ny2 cy2 Hy2 ((((Math.mirAt y1 yw1 yv1).1.1))), OwnR maK 28 2 ayw2 nyw2 cyw2 Hyw2 ((((Math.mirAt y1 yw1 yv1).1.2.1))), OwnR maK 28 2 ayv2 nyv2 cyv2 Hyv2 ((((Math.mirAt y1 yw1 yv1).1.2.2))), blk bka4 43 [.slice ay1 ny1 cy1, .slice ayw1 nyw1 cyw1, .slice ayv1 nyv1 cyv1], RdR ndK ay1 ny1 Hy1 y1, RdR maK ayw1 nyw1 Hyw1 yw1, RdR maK ayv1 nyv1 Hyv1 yv1]) (fun _ h => h) ?_
  refine rKnow (fun w hs => (show OwnR ndK 88 2 ay2 ny2 cy2 Hy2 ((((Math.mirAt y1 yw1 yv1).1.1))) w from hs.at_ 0 rfl).1) (fun lenn5 => ?_)
  refine rKnow (fun w hs => (show OwnR maK 28 2 ayw2 nyw2 cyw2 Hyw2 ((((Math.mirAt y1 yw1 yv1).1.2.1))) w from hs.at_ 1 rfl).1) (fun lenn6 => ?_)
  refine rKnow (fun w hs => (show OwnR maK 28 2 ayv2 nyv2 cyv2 Hyv2 ((((Math.mirAt y1 yw1 yv1).1.2.2))) w from hs.at_ 2 rfl).1) (fun lenn7 => ?_)
  refine mv rfl rfl rfl ?_
  refine ext rfl rfl rfl rfl ?_
  refine ext rfl rfl rfl rfl ?_
  refine alc Try.zeroValue43 rfl trv1 rfl rfl (fun bka8 hbka8 => ?_)
  refine stAl (vs := [.slice ay2 ny2 cy2, .slice ayw2 nyw2 cyw2, .slice ayv2 nyv2 cyv2]) 0 rfl Try.sizeOf43 trv rfl rfl rfl rfl rfl (by simp [Value.oneCell']) rfl ?_
  refine asI rfl rfl rfl ?_
  refine rNil ?_
  refine qSeq rfl ?_
  refine hSeq ?_
  refine hReg (sl 0 (sl 1 (sq 2 (sq 3 (sq 4 (sl 5 (sl 6 (sq 7 sz)))))))) (by kernel_rfl) ?_
  refine ldAl Try.isAgg43 Try.sizeOf43 (cBs 4 rfl) trv rfl rfl rfl rfl ?_
  refine callS Try.call33 trv1 rfl rfl (fun w hs => spec_MirrorGame_c _ ny1 cy1 _ _ _ nyw1 cyw1 _ _ _ nyv1 cyv1 _ _ w (hs.at_ 5 rfl) (hs.at_ 6 rfl) (hs.at_ 7 rfl)) ?_
  rintro ⟨ay3, ny3, cy3, Hy3, y3, ayw3, nyw3, cyw3, Hyw3, yw3, ayv3, nyv3, cyv3, Hyv3, yv3, q3⟩ ⟨hr3a, hr3b, hr3c, hr3d⟩
  dsimp only at hr3a hr3b hr3c hr3d
  subst y3
  subst yw3
  subst yv3
  subst q3
  refine rPieces (L' := [OwnR ndK 88 2 ay3 ny3 cy3 Hy3 ((((Math.mirAt y1 yw1 yv1).1.1))), OwnR maK 28 2 ayw3 nyw3 cyw3 Hyw3 ((((Math.mirAt y1 yw1 yv1).1.2.1))), OwnR maK 28 2 ayv3 nyv3 cyv3 Hyv3 ((((Math.mirAt y1 yw1 yv1).1.2.2))), blk bka8 43 [.slice ay2 ny2 cy2, .slice ayw2 nyw2 cyw2, .slice ayv2 nyv2 cyv2], OwnR ndK 88 2 ay2 ny2 cy2 Hy2 ((((Math.mirAt y1 yw1 yv1).1.1))), OwnR maK 28 2 ayw2 nyw2 cyw2 Hyw2 ((((Math.mirAt y1 yw1 yv1).1.2.1))), OwnR maK 28 2 ayv2 nyv2 cyv2 Hyv2 ((((Math.mirAt y1 yw1 yv1).1.2.2))), blk bka4 43 [.slice ay1 ny1 cy1, .slice ayw1 nyw1 cyw1, .slice ayv1 nyv1 cyv1], RdR ndK ay1 ny1 Hy1 y1, RdR maK ayw1 nyw1 Hyw1 yw1, RdR maK ayv1 nyv1 Hyv1 yv1]) (fun _ h => h) ?_
  refine rKnow (fun w hs => (show OwnR ndK 88 2 ay3 ny3 cy3 Hy3 ((((Math.mirAt y1 yw1 yv1).1.1))) w from hs.at_ 0 rfl).1) (fun lenn9 => ?_)
  refine rKnow (fun w hs => (show OwnR maK 28 2 ayw3 nyw3 cyw3 Hyw3 ((((Math.mirAt y1 yw1 yv1).1.2.1))) w from hs.at_ 1 rfl).1) (fun lenn10 => ?_)
  refine rKnow (fun w hs => (show OwnR maK 28 2 ayv3 nyv3 cyv3 Hyv3 ((((Math.mirAt y1 yw1 yv1).1.2.2))) w from hs.at_ 2 rfl).1) (fun lenn11 => ?_)
  refine mv rfl rfl rfl ?_
  refine ext rfl rfl rfl rfl ?_
  refine ext rfl rfl rfl rfl ?_
  refine alc Try.zeroValue43 rfl trv1 rfl rfl (fun bka12 hbka12 => ?_)
  refine stAl (vs := [.slice ay3 ny3 cy3, .slice ayw3 nyw3 cyw3, .slice ayv3 nyv3 cyv3]) 0 rfl Try.sizeOf43 trv rfl rfl rfl rfl rfl (by simp [Value.oneCell']) rfl ?_
  refine asI rfl rfl rfl ?_
  refine rNil ?_
  refine qSeq rfl ?_
  refine hSeq ?_
  refine hReg (sq 0 (sl 1 (sq 2 (sq 3 (sq 4 (sq 5 (sq 6 (sl 7 (sl 8 (sq 9 (sq 10 (sq 11 sz)))))))))))) (by kernel_rfl) ?_
  refine mvS rfl rfl rfl ?_
  refine callS Try.call34 trv1 rfl rfl (fun w hs => spec_DrawPayoffAt_c _ _ cc w (Kn.drop (k := 12) kcode w hs) (by assumption)) ?_
  rintro ⟨ay4, ny4, cy4, Hy4, y4, ayw4, nyw4, cyw4, Hyw4, yw4, ayv4, nyv4, cyv4, Hyv4, yv4, q4, qa4, qb4⟩ hr4
  try dsimp only at hr4
  refine rPieces (L' := [RdR ndK ay4 ny4 Hy4 y4, RdR maK ayw4 nyw4 Hyw4 yw4, RdR maK ayv4 nyv4 Hyv4 yv4, blk bka12 43 [.slice ay3 ny3 cy3, .slice ayw3 nyw3 cyw3, .slice ayv3 nyv3 cyv3], OwnR ndK 88 2 ay3 ny3 cy3 Hy3 ((((Math.mirAt y1 yw1 yv1).1.1))), OwnR maK 28 2 ayw3 nyw3 cyw3 Hyw3 ((((Math.mirAt y1 yw1 yv1).1.2.1))), OwnR maK 28 2 ayv3 nyv3 cyv3 Hyv3 ((((Math.mirAt y1 yw1 yv1).1.2.2))), blk bka8 43 [.slice ay2 ny2 cy2, .slice ayw2 nyw2 cyw2, .slice ayv2 nyv2 cyv2], OwnR ndK 88 2 ay2 ny2 cy2 Hy2 ((((Math.mirAt y1 yw1 yv1).1.1))), OwnR maK 28 2 ayw2 nyw2 cyw2 Hyw2 ((((Math.mirAt y1 yw1 yv1).1.2.1))), OwnR maK 28 2 ayv2 nyv2 cyv2 Hyv2 ((((Math.mirAt y1 yw1 yv1).1.2.2))), blk bka4 43 [.slice ay1 ny1 cy1, .slice ayw1 nyw1 cyw1, .slice ayv1 nyv1 cyv1], RdR ndK ay1 ny1 Hy1 y1, RdR maK ayw1 nyw1 Hyw1 yw1, RdR maK ayv1 nyv1 Hyv1 yv1]) (fun _ h => h) ?_
  refine rKnow (fun w hs => (show RdR ndK ay4 ny4 Hy4 y4 w from hs.at_ 0 rfl).1) (fun lenn13 => ?_)
  refine rKnow (fun w hs => (show RdR maK ayw4 nyw4 Hyw4 yw4 w from hs.at_ 1 rfl).1) (fun lenn14 => ?_)
  refine rKnow (fun w hs => (show RdR maK ayv4 nyv4 Hyv4 yv4 w from hs.at_ 2 rfl).1) (fun lenn15 => ?_)
  refine mv rfl rfl rfl ?_
  refine ext rfl rfl rfl rfl ?_
  refine ext rfl rfl rfl rfl ?_
  refine ext rfl rfl rfl rfl ?_
  refine ext rfl rfl rfl rfl ?_
  refine alc Try.zeroValue43 rfl trv1 rfl rfl (fun bka16 hbka16 => ?_)
  refine stAl (vs := [.slice ay4 ny4 cy4, .slice ayw4 nyw4 cyw4, .slice ayv4 nyv4 cyv4]) 0 rfl Try.sizeOf43 trv rfl rfl rfl rfl rfl (by simp [Value.oneCell']) rfl ?_
  refine asI rfl rfl rfl ?_
  refine asI rfl rfl rfl ?_
  refine asI rfl rfl rfl ?_
  refine rNil ?_
  refine qSeq rfl ?_
  refine hSeq ?_
  refine hReg (sl 0 (sq 1 (sq 2 (sq 3 (sl 4 (sq 5 (sq 6 (sq 7 (sq 8 (sq 9 sz)))))))))) (by kernel_rfl) ?_
  refine ldAl Try.isAgg43 Try.sizeOf43 (cBs 0 rfl) trv rfl rfl rfl rfl ?_
  refine mvI rfl rfl rfl ?_
  refine mvI rfl rfl rfl ?_
  refine mvI rfl rfl rfl ?_
  refine callP (v := .tuple #[.int .i64 ((Math.payoffOf y4 yw4 yv4 q4 qa4 qb4).1), .int .i64 ((Math.payoffOf y4 yw4 yv4 q4 qa4 qb4).2)]) Try.call35 trv rfl rfl (fun w hs => impl_PayoffAt_c _ ny4 cy4 _ _ _ nyw4 cyw4 _ _ _ nyv4 cyv4 _ _ _ _ _ w (hs.at_ 1 rfl) (hs.at_ 2 rfl) (hs.at_ 3 rfl)) ?_
  refine mv rfl rfl rfl ?_
  refine ext rfl rfl rfl rfl ?_
  refine ext rfl rfl rfl rfl ?_
  refine asI rfl rfl rfl ?_
  refine asI rfl rfl rfl ?_
  refine rNil ?_
  refine qSeq rfl ?_
  refine hSeq ?_
  refine hReg (sl 0 (sq 1 (sq 2 (sq 3 (sl 4 (sq 5 (sq 6 (sq 7 (sq 8 (sq 9 sz)))))))))) (by kernel_rfl) ?_
  refine ldAl Try.isAgg43 Try.sizeOf43 (cBs 0 rfl) trv rfl rfl rfl rfl ?_
  refine mvI rfl rfl rfl ?_
  refine mvI rfl rfl rfl ?_
  refine mvI rfl rfl rfl ?_
  refine callP (v := .tuple #[.int .i64 ((Math.payoffOf y4 yw4 yv4 q4 qa4 qb4).1), .int .i64 ((Math.payoffOf y4 yw4 yv4 q4 qa4 qb4).2)]) Try.call36 trv rfl rfl (fun w hs => spec_PayoffAt_c _ ny4 cy4 _ _ _ nyw4 cyw4 _ _ _ nyv4 cyv4 _ _ _ _ _ w (hs.at_ 1 rfl) (hs.at_ 2 rfl) (hs.at_ 3 rfl)) ?_
  refine mv rfl rfl rfl ?_
  refine ext rfl rfl rfl rfl ?_
  refine ext rfl rfl rfl rfl ?_
  refine asI rfl rfl rfl ?_
  refine asI rfl rfl rfl ?_
  refine rNil ?_
  refine qSeq rfl ?_
  refine hSeq ?_
  refine hSeq ?_
  refine hReg (sq 0 (sq 1 (sq 2 (sq 3 (sl 4 (sl 5 (sl 6 (sq 7 (sq 8 (sq 9 (sq 10 (sq 11 (sq 12 (sq 13 (sq 14 (sq 15 (sq 16 (sq 17 (sq 18 (sq 19 (sl 20 (sl 21 (sq 22 (sq 23 (sq 24 (sq 25 sz)))))))))))))))))))))))))) (by kernel_rfl) ?_
  refine mvI rfl rfl rfl ?_
  refine mvI rfl rfl rfl ?_
  refine neq rfl rfl rfl rfl ?_
  refine mvB rfl rfl rfl ?_
  refine rBoolD (d := 62) rfl (fun g2 => ?_) (fun g2 => ?_)
  ·
   replace g2 : (((Math.mirAt y1 yw1 yv1).2)) ≠ (((Math.mirAt y1 yw1 yv1).2)) := g2
   exact absurd rfl g2
  ·
   replace g2 : ¬ ((((Math.mirAt y1 yw1 yv1).2)) ≠ (((Math.mirAt y1 yw1 yv1).2))) := g2
   refine ldAl Try.isAgg43 Try.sizeOf43 (cBs 8 rfl) trv rfl rfl rfl rfl ?_
   refine ldAl Try.isAgg43 Try.sizeOf43 (cBs 4 rfl) trv rfl rfl rfl rfl ?_
   refine callP (v := .bool true) Try.call37 trv rfl rfl (fun w hs => laws_likeGames_c _ ny2 cy2 _ _ _ nyw2 cyw2 _ _ _ nyv2 cyv2 _ _ _ ny3 cy3 _ _ _ nyw3 cyw3 _ _ _ nyv3 cyv3 _ _ w (OwnR.rd (hs.at_ 9 rfl) ndK.ok) (OwnR.rd (hs.at_ 10 rfl) maK.ok) (OwnR.rd (hs.at_ 11 rfl) maK.ok) (OwnR.rd (hs.at_ 5 rfl) ndK.ok) (OwnR.rd (hs.at_ 6 rfl) maK.ok) (OwnR.rd (hs.at_ 7 rfl) maK.ok) (by exact ⟨rfl, rfl, rfl⟩)) ?_
   refine not rfl rfl rfl ?_
   refine pickB rfl rfl rfl rfl ?_
   refine mvB rfl rfl rfl ?_
   refine mvI rfl rfl rfl ?_
   refine mvI rfl rfl rfl ?_
   refine neq rfl rfl rfl rfl ?_
   refine pickB rfl rfl rfl rfl ?_
   refine mvB rfl rfl rfl ?_
   refine rBoolD (d := 73) rfl (fun g3 => ?_) (fun g3 => ?_)
   ·
    replace g3 : (Math.payoffOf y4 yw4 yv4 q4 qa4 qb4).2 ≠ (Math.payoffOf y4 yw4 yv4 q4 qa4 qb4).2 := g3
    exact absurd rfl g3
   ·
    replace g3 : ¬ ((Math.payoffOf y4 yw4 yv4 q4 qa4 qb4).2 ≠ (Math.payoffOf y4 yw4 yv4 q4 qa4 qb4).2) := g3
    refine mvI rfl rfl rfl ?_
    refine mvI rfl rfl rfl ?_
    refine neq rfl rfl rfl rfl ?_
    refine pickB rfl rfl rfl rfl ?_
    refine mvB rfl rfl rfl ?_
    refine rBoolD (d := 78) rfl (fun g4 => ?_) (fun g4 => ?_)
    ·
     replace g4 : (Math.payoffOf y4 yw4 yv4 q4 qa4 qb4).1 ≠ (Math.payoffOf y4 yw4 yv4 q4 qa4 qb4).1 := g4
     exact absurd rfl g4
    ·
     replace g4 : ¬ ((Math.payoffOf y4 yw4 yv4 q4 qa4 qb4).1 ≠ (Math.payoffOf y4 yw4 yv4 q4 qa4 qb4).1) := g4
     refine ldAl Try.isAgg43 Try.sizeOf43 (cBs 12 rfl) trv rfl rfl rfl rfl ?_
     refine callP (v := .bool (Math.isGame y1 yw1 yv1)) Try.call38 trv rfl rfl (fun w hs => impl_IsGame_c _ ny1 cy1 _ _ _ nyw1 cyw1 _ _ _ nyv1 cyv1 _ _ w (hs.at_ 13 rfl) (hs.at_ 14 rfl) (hs.at_ 15 rfl)) ?_
     refine mvI rfl rfl rfl ?_
     refine eql rfl rfl rfl rfl ?_
     refine neqB Try.underlying4 rfl rfl rfl rfl ?_
     refine pickB rfl rfl rfl rfl ?_
     refine rNil ?_
     refine qSeq rfl ?_
     refine hIfD rfl (fun c5 => ?_) (fun c5 => ?_)
     ·
      replace c5 : (Math.isGame y1 yw1 yv1) ≠ decide ((((Math.mirAt y1 yw1 yv1).2)) = 0) := c5
      exact absurd (Math.mirAt_iff y1 yw1 yv1) c5
     ·
      replace c5 : ¬ ((Math.isGame y1 yw1 yv1) ≠ decide ((((Math.mirAt y1 yw1 yv1).2)) = 0)) := c5
      refine hSkip ?_
      refine qSeq rfl ?_
      refine hSeq ?_
      refine hSeq ?_
      refine hReg (sq 0 (sq 1 sz)) (by kernel_rfl) ?_
      refine mvI rfl rfl rfl ?_
      refine eql rfl rfl rfl rfl ?_
      refine rNil ?_
      refine qSeq rfl ?_
      refine hIfD rfl (fun c6 => ?_) (fun c6 => ?_)
      ·
       replace c6 : (Math.payoffOf y4 yw4 yv4 q4 qa4 qb4).2 = 0 := c6
       have hpm := Math.payoff_mir c6
       have hpb := Math.payoffOf_bd y4 yw4 yv4 q4 qa4 qb4
       refine hSeq ?_
       refine hReg (sl 0 (sl 1 (sq 2 (sq 3 (sq 4 (sl 5 (sl 6 (sq 7 sz)))))))) (by kernel_rfl) ?_
       refine ldAl Try.isAgg43 Try.sizeOf43 (cBs 0 rfl) trv rfl rfl rfl rfl ?_
       refine callS Try.call32 trv1 rfl rfl (fun w hs => impl_MirrorGame_c _ ny4 cy4 _ _ _ nyw4 cyw4 _ _ _ nyv4 cyv4 _ _ w (hs.at_ 1 rfl) (hs.at_ 2 rfl) (hs.at_ 3 rfl)) ?_
       rintro ⟨ay5, ny5, cy5, Hy5, y5, ayw5, nyw5, cyw5, Hyw5, yw5, ayv5, nyv5, cyv5, Hyv5, yv5, q5⟩ ⟨hr5a, hr5b, hr5c, hr5d⟩
       dsimp only at hr5a hr5b hr5c hr5d
       subst y5
       subst yw5
       subst yv5
       subst q5
       refine rPieces (L' := [OwnR ndK 88 2 ay5 ny5 cy5 Hy5 ((((Math.mirAt y4 yw4 yv4).1.1))), OwnR maK 28 2 ayw5 nyw5 cyw5 Hyw5 ((((Math.mirAt y4 yw4 yv4).1.2.1))), OwnR maK 28 2 ayv5 nyv5 cyv5 Hyv5 ((((Math.mirAt y4 yw4 yv4).1.2.2))), blk bka16 43 [.slice ay4 ny4 cy4, .slice ayw4 nyw4 cyw4, .slice ayv4 nyv4 cyv4], RdR ndK ay4 ny4 Hy4 y4, RdR maK ayw4 nyw4 Hyw4 yw4, RdR maK ayv4 nyv4 Hyv4 yv4, blk bka12 43 [.slice ay3 ny3 cy3, .slice ayw3 nyw3 cyw3, .slice ayv3 nyv3 cyv3], OwnR ndK 88 2 ay3 ny3 cy3 Hy3 ((((Math.mirAt y1 yw1 yv1).1.1))), OwnR maK 28 2 ayw3 nyw3 cyw3 Hyw3 ((((Math.mirAt y1 yw1 yv1).1.2.1))), OwnR maK 28 2 ayv3 nyv3 cyv3 Hyv3 ((((Math.mirAt y1 yw1 yv1).1.2.2))), blk bka8 43 [.slice ay2 ny2 cy2, .slice ayw2 nyw2 cyw2, .slice ayv2 nyv2 cyv2], OwnR ndK 88 2 ay2 ny2 cy2 Hy2 ((((Math.mirAt y1 yw1 yv1).1.1))), OwnR maK 28 2 ayw2 nyw2 cyw2 Hyw2 ((((Math.mirAt y1 yw1 yv1).1.2.1))), OwnR maK 28 2 ayv2 nyv2 cyv2 Hyv2 ((((Math.mirAt y1 yw1 yv1).1.2.2))), blk bka4 43 [.slice ay1 ny1 cy1, .slice ayw1 nyw1 cyw1, .slice ayv1 nyv1 cyv1], RdR ndK ay1 ny1 Hy1 y1, RdR maK ayw1 nyw1 Hyw1 yw1, RdR maK ayv1 nyv1 Hyv1 yv1]) (fun _ h => h) ?_
       refine rKnow (fun w hs => (show OwnR ndK 88 2 ay5 ny5 cy5 Hy5 ((((Math.mirAt y4 yw4 yv4).1.1))) w from hs.at_ 0 rfl).1) (fun lenn17 => ?_)
       refine rKnow (fun w hs => (show OwnR maK 28 2 ayw5 nyw5 cyw5 Hyw5 ((((Math.mirAt y4 yw4 yv4).1.2.1))) w from hs.at_ 1 rfl).1) (fun lenn18 => ?_)
       refine rKnow (fun w hs => (show OwnR maK 28 2 ayv5 nyv5 cyv5 Hyv5 ((((Math.mirAt y4 yw4 yv4).1.2.2))) w from hs.at_ 2 rfl).1) (fun lenn19 => ?_)
       refine mv rfl rfl rfl ?_
       refine ext rfl rfl rfl rfl ?_
       refine ext rfl rfl rfl rfl ?_
       refine alc Try.zeroValue43 rfl trv1 rfl rfl (fun bka20 hbka20 => ?_)
       refine stAl (vs := [.slice ay5 ny5 cy5, .slice ayw5 nyw5 cyw5, .slice ayv5 nyv5 cyv5]) 0 rfl Try.sizeOf43 trv rfl rfl rfl rfl rfl (by simp [Value.oneCell']) rfl ?_
       refine asI rfl rfl rfl ?_
       refine rNil ?_
       refine qSeq rfl ?_
       refine hSeq ?_
       refine hReg (sl 0 (sq 1 (sq 2 (sq 3 (sl 4 (sq 5 (sq 6 (sq 7 (sq 8 (sq 9 sz)))))))))) (by kernel_rfl) ?_
       refine ldAl Try.isAgg43 Try.sizeOf43 (cBs 0 rfl) trv rfl rfl rfl rfl ?_
       refine mvI rfl rfl rfl ?_
       refine mvI rfl rfl rfl ?_
       refine mvI rfl rfl rfl ?_
       refine callP (v := .tuple #[.int .i64 ((Math.payoffOf ((((Math.mirAt y4 yw4 yv4).1.1))) ((((Math.mirAt y4 yw4 yv4).1.2.1))) ((((Math.mirAt y4 yw4 yv4).1.2.2))) q4 qb4 qa4).1), .int .i64 ((Math.payoffOf ((((Math.mirAt y4 yw4 yv4).1.1))) ((((Math.mirAt y4 yw4 yv4).1.2.1))) ((((Math.mirAt y4 yw4 yv4).1.2.2))) q4 qb4 qa4).2)]) Try.call35 trv rfl rfl (fun w hs => impl_PayoffAt_c _ ny5 cy5 _ _ _ nyw5 cyw5 _ _ _ nyv5 cyv5 _ _ _ _ _ w (OwnR.rd (hs.at_ 1 rfl) ndK.ok) (OwnR.rd (hs.at_ 2 rfl) maK.ok) (OwnR.rd (hs.at_ 3 rfl) maK.ok)) ?_
       refine mv rfl rfl rfl ?_
       refine ext rfl rfl rfl rfl ?_
       refine ext rfl rfl rfl rfl ?_
       refine asI rfl rfl rfl ?_
       refine asI rfl rfl rfl ?_
       refine rNil ?_
       refine qSeq rfl ?_
       refine hSeq ?_
       refine hReg (sq 0 (sq 1 (sq 2 (sq 3 (sq 4 (sq 5 (sq 6 (sq 7 (sq 8 (sq 9 (sq 10 (sq 11 sz)))))))))))) (by kernel_rfl) ?_
       refine mvI rfl rfl rfl ?_
       refine neq rfl rfl rfl rfl ?_
       refine mvB rfl rfl rfl ?_
       refine rBoolD (d := 102) rfl (fun g7 => ?_) (fun g7 => ?_)
       ·
        replace g7 : (((Math.mirAt y4 yw4 yv4).2)) ≠ 0 := g7
        exact absurd hpm.1 g7
       ·
        replace g7 : ¬ ((((Math.mirAt y4 yw4 yv4).2)) ≠ 0) := g7
        refine mvI rfl rfl rfl ?_
        refine neq rfl rfl rfl rfl ?_
        refine pickB rfl rfl rfl rfl ?_
        refine mvB rfl rfl rfl ?_
        refine rBoolD (d := 106) rfl (fun g8 => ?_) (fun g8 => ?_)
        ·
         replace g8 : (Math.payoffOf ((((Math.mirAt y4 yw4 yv4).1.1))) ((((Math.mirAt y4 yw4 yv4).1.2.1))) ((((Math.mirAt y4 yw4 yv4).1.2.2))) q4 qb4 qa4).2 ≠ 0 := g8
         exact absurd (by rw [hpm.2]) g8
        ·
         replace g8 : ¬ ((Math.payoffOf ((((Math.mirAt y4 yw4 yv4).1.1))) ((((Math.mirAt y4 yw4 yv4).1.2.1))) ((((Math.mirAt y4 yw4 yv4).1.2.2))) q4 qb4 qa4).2 ≠ 0) := g8
         refine mvI rfl rfl rfl ?_
         refine mvI rfl rfl rfl ?_
         refine neg rfl rfl rfl (by first | omega | (dsimp only; omega)) ?_
         refine neq rfl rfl rfl rfl ?_
         refine pickB rfl rfl rfl rfl ?_
         refine rNil ?_
         refine qSeq rfl ?_
         refine hIfD rfl (fun c9 => ?_) (fun c9 => ?_)
         ·
          replace c9 : (Math.payoffOf ((((Math.mirAt y4 yw4 yv4).1.1))) ((((Math.mirAt y4 yw4 yv4).1.2.1))) ((((Math.mirAt y4 yw4 yv4).1.2.2))) q4 qb4 qa4).1 ≠ (-(Math.payoffOf y4 yw4 yv4 q4 qa4 qb4).1) := c9
          exact absurd (by rw [hpm.2]) c9
         ·
          replace c9 : ¬ ((Math.payoffOf ((((Math.mirAt y4 yw4 yv4).1.1))) ((((Math.mirAt y4 yw4 yv4).1.2.1))) ((((Math.mirAt y4 yw4 yv4).1.2.2))) q4 qb4 qa4).1 ≠ (-(Math.payoffOf y4 yw4 yv4 q4 qa4 qb4).1)) := c9
          refine hSkip ?_
          refine qSeq rfl ?_
          refine hSeq ?_
          refine hSeq ?_
          refine hReg (sq 0 (sq 1 sz)) (by kernel_rfl) ?_
          refine mvI rfl rfl rfl ?_
          refine neq rfl rfl rfl rfl ?_
          refine rNil ?_
          refine qSeq rfl ?_
          refine hIfD rfl (fun c10 => ?_) (fun c10 => ?_)
          ·
           replace c10 : (((Math.mirAt y1 yw1 yv1).2)) ≠ 0 := c10
           refine hSeq ?_
           refine hReg (sq 0 sz) (by kernel_rfl) ?_
           refine asB rfl rfl rfl ?_
           refine rNil ?_
           refine qSeq rfl ?_
           refine hRet ?_
           exact fun w hs => ⟨[.bool true], ⟨rfl, trivial⟩, ⟨by first | rfl | exact (bT (by omega)).symm, hs.upd⟩⟩
          ·
           replace c10 : ¬ ((((Math.mirAt y1 yw1 yv1).2)) ≠ 0) := c10
           have hmm := Math.mir_mir (Classical.not_not.1 c10)
           refine hSkip ?_
           refine qSeq rfl ?_
           refine hSeq ?_
           refine hReg (sl 0 (sl 1 (sq 2 (sq 3 (sq 4 (sl 5 (sl 6 (sq 7 sz)))))))) (by kernel_rfl) ?_
           refine ldAl Try.isAgg43 Try.sizeOf43 (cBs 12 rfl) trv rfl rfl rfl rfl ?_
           refine callS Try.call32 trv1 rfl rfl (fun w hs => impl_MirrorGame_c _ ny2 cy2 _ _ _ nyw2 cyw2 _ _ _ nyv2 cyv2 _ _ w (OwnR.rd (hs.at_ 13 rfl) ndK.ok) (OwnR.rd (hs.at_ 14 rfl) maK.ok) (OwnR.rd (hs.at_ 15 rfl) maK.ok)) ?_
           rintro ⟨ay6, ny6, cy6, Hy6, y6, ayw6, nyw6, cyw6, Hyw6, yw6, ayv6, nyv6, cyv6, Hyv6, yv6, q6⟩ ⟨hr6a, hr6b, hr6c, hr6d⟩
           dsimp only at hr6a hr6b hr6c hr6d
           subst y6
           subst yw6
           subst yv6
           subst q6
           refine rPieces (L' := [OwnR ndK 88 2 ay6 ny6 cy6 Hy6 ((((Math.mirAt ((((Math.mirAt y1 yw1 yv1).1.1))) ((((Math.mirAt y1 yw1 yv1).1.2.1))) ((((Math.mirAt y1 yw1 yv1).1.2.2)))).1.1))), OwnR maK 28 2 ayw6 nyw6 cyw6 Hyw6 ((((Math.mirAt ((((Math.mirAt y1 yw1 yv1).1.1))) ((((Math.mirAt y1 yw1 yv1).1.2.1))) ((((Math.mirAt y1 yw1 yv1).1.2.2)))).1.2.1))), OwnR maK 28 2 ayv6 nyv6 cyv6 Hyv6 ((((Math.mirAt ((((Math.mirAt y1 yw1 yv1).1.1))) ((((Math.mirAt y1 yw1 yv1).1.2.1))) ((((Math.mirAt y1 yw1 yv1).1.2.2)))).1.2.2))), blk bka20 43 [.slice ay5 ny5 cy5, .slice ayw5 nyw5 cyw5, .slice ayv5 nyv5 cyv5], OwnR ndK 88 2 ay5 ny5 cy5 Hy5 ((((Math.mirAt y4 yw4 yv4).1.1))), OwnR maK 28 2 ayw5 nyw5 cyw5 Hyw5 ((((Math.mirAt y4 yw4 yv4).1.2.1))), OwnR maK 28 2 ayv5 nyv5 cyv5 Hyv5 ((((Math.mirAt y4 yw4 yv4).1.2.2))), blk bka16 43 [.slice ay4 ny4 cy4, .slice ayw4 nyw4 cyw4, .slice ayv4 nyv4 cyv4], RdR ndK ay4 ny4 Hy4 y4, RdR maK ayw4 nyw4 Hyw4 yw4, RdR maK ayv4 nyv4 Hyv4 yv4, blk bka12 43 [.slice ay3 ny3 cy3, .slice ayw3 nyw3 cyw3, .slice ayv3 nyv3 cyv3], OwnR ndK 88 2 ay3 ny3 cy3 Hy3 ((((Math.mirAt y1 yw1 yv1).1.1))), OwnR maK 28 2 ayw3 nyw3 cyw3 Hyw3 ((((Math.mirAt y1 yw1 yv1).1.2.1))), OwnR maK 28 2 ayv3 nyv3 cyv3 Hyv3 ((((Math.mirAt y1 yw1 yv1).1.2.2))), blk bka8 43 [.slice ay2 ny2 cy2, .slice ayw2 nyw2 cyw2, .slice ayv2 nyv2 cyv2], OwnR ndK 88 2 ay2 ny2 cy2 Hy2 ((((Math.mirAt y1 yw1 yv1).1.1))), OwnR maK 28 2 ayw2 nyw2 cyw2 Hyw2 ((((Math.mirAt y1 yw1 yv1).1.2.1))), OwnR maK 28 2 ayv2 nyv2 cyv2 Hyv2 ((((Math.mirAt y1 yw1 yv1).1.2.2))), blk bka4 43 [.slice ay1 ny1 cy1, .slice ayw1 nyw1 cyw1, .slice ayv1 nyv1 cyv1], RdR ndK ay1 ny1 Hy1 y1, RdR maK ayw1 nyw1 Hyw1 yw1, RdR maK ayv1 nyv1 Hyv1 yv1]) (fun _ h => h) ?_
           refine rKnow (fun w hs => (show OwnR ndK 88 2 ay6 ny6 cy6 Hy6 ((((Math.mirAt ((((Math.mirAt y1 yw1 yv1).1.1))) ((((Math.mirAt y1 yw1 yv1).1.2.1))) ((((Math.mirAt y1 yw1 yv1).1.2.2)))).1.1))) w from hs.at_ 0 rfl).1) (fun lenn21 => ?_)
           refine rKnow (fun w hs => (show OwnR maK 28 2 ayw6 nyw6 cyw6 Hyw6 ((((Math.mirAt ((((Math.mirAt y1 yw1 yv1).1.1))) ((((Math.mirAt y1 yw1 yv1).1.2.1))) ((((Math.mirAt y1 yw1 yv1).1.2.2)))).1.2.1))) w from hs.at_ 1 rfl).1) (fun lenn22 => ?_)
           refine rKnow (fun w hs => (show OwnR maK 28 2 ayv6 nyv6 cyv6 Hyv6 ((((Math.mirAt ((((Math.mirAt y1 yw1 yv1).1.1))) ((((Math.mirAt y1 yw1 yv1).1.2.1))) ((((Math.mirAt y1 yw1 yv1).1.2.2)))).1.2.2))) w from hs.at_ 2 rfl).1) (fun lenn23 => ?_)
           refine mv rfl rfl rfl ?_
           refine ext rfl rfl rfl rfl ?_
           refine ext rfl rfl rfl rfl ?_
           refine alc Try.zeroValue43 rfl trv1 rfl rfl (fun bka24 hbka24 => ?_)
           refine stAl (vs := [.slice ay6 ny6 cy6, .slice ayw6 nyw6 cyw6, .slice ayv6 nyv6 cyv6]) 0 rfl Try.sizeOf43 trv rfl rfl rfl rfl rfl (by simp [Value.oneCell']) rfl ?_
           refine asI rfl rfl rfl ?_
           refine rNil ?_
           refine qSeq rfl ?_
           refine hSeq ?_
           refine hReg (sq 0 (sq 1 (sq 2 (sl 3 (sl 4 (sl 5 (sq 6 (sq 7 sz)))))))) (by kernel_rfl) ?_
           refine mvI rfl rfl rfl ?_
           refine eql rfl rfl rfl rfl ?_
           refine mvB rfl rfl rfl ?_
           refine rBoolD (d := 121) rfl (fun g11 => ?_) (fun g11 => ?_)
           ·
            replace g11 : (((Math.mirAt ((((Math.mirAt y1 yw1 yv1).1.1))) ((((Math.mirAt y1 yw1 yv1).1.2.1))) ((((Math.mirAt y1 yw1 yv1).1.2.2)))).2)) = 0 := g11
            refine ldAl Try.isAgg43 Try.sizeOf43 (cBs 0 rfl) trv rfl rfl rfl rfl ?_
            refine ldAl Try.isAgg43 Try.sizeOf43 (cBs 20 rfl) trv rfl rfl rfl rfl ?_
            refine callP (v := .bool true) Try.call37 trv rfl rfl (fun w hs => laws_likeGames_c _ ny6 cy6 _ _ _ nyw6 cyw6 _ _ _ nyv6 cyv6 _ _ _ ny1 cy1 _ _ _ nyw1 cyw1 _ _ _ nyv1 cyv1 _ _ w (OwnR.rd (hs.at_ 1 rfl) ndK.ok) (OwnR.rd (hs.at_ 2 rfl) maK.ok) (OwnR.rd (hs.at_ 3 rfl) maK.ok) (hs.at_ 21 rfl) (hs.at_ 22 rfl) (hs.at_ 23 rfl) (by rw [hmm]; exact ⟨rfl, rfl, rfl⟩)) ?_
            refine pickB rfl rfl rfl rfl ?_
            refine asB rfl rfl rfl ?_
            refine rNil ?_
            refine qSeq rfl ?_
            refine hRet ?_
            exact fun w hs => ⟨[.bool true], ⟨rfl, trivial⟩, ⟨by first | rfl | exact (bT (by omega)).symm, hs.upd⟩⟩
           ·
            replace g11 : ¬ ((((Math.mirAt ((((Math.mirAt y1 yw1 yv1).1.1))) ((((Math.mirAt y1 yw1 yv1).1.2.1))) ((((Math.mirAt y1 yw1 yv1).1.2.2)))).2)) = 0) := g11
            exact absurd (by rw [hmm]) g11
      ·
       replace c6 : ¬ ((Math.payoffOf y4 yw4 yv4 q4 qa4 qb4).2 = 0) := c6
       refine hSkip ?_
       refine qSeq rfl ?_
       refine hSeq ?_
       refine hSeq ?_
       refine hReg (sq 0 (sq 1 sz)) (by kernel_rfl) ?_
       refine mvI rfl rfl rfl ?_
       refine neq rfl rfl rfl rfl ?_
       refine rNil ?_
       refine qSeq rfl ?_
       refine hIfD rfl (fun c12 => ?_) (fun c12 => ?_)
       ·
        replace c12 : (((Math.mirAt y1 yw1 yv1).2)) ≠ 0 := c12
        refine hSeq ?_
        refine hReg (sq 0 sz) (by kernel_rfl) ?_
        refine asB rfl rfl rfl ?_
        refine rNil ?_
        refine qSeq rfl ?_
        refine hRet ?_
        exact fun w hs => ⟨[.bool true], ⟨rfl, trivial⟩, ⟨by first | rfl | exact (bT (by omega)).symm, hs.upd⟩⟩
       ·
        replace c12 : ¬ ((((Math.mirAt y1 yw1 yv1).2)) ≠ 0) := c12
        have hmm := Math.mir_mir (Classical.not_not.1 c12)
        refine hSkip ?_
        refine qSeq rfl ?_
        refine hSeq ?_
        refine hReg (sl 0 (sl 1 (sq 2 (sq 3 (sq 4 (sl 5 (sl 6 (sq 7 sz)))))))) (by kernel_rfl) ?_
        refine ldAl Try.isAgg43 Try.sizeOf43 (cBs 8 rfl) trv rfl rfl rfl rfl ?_
        refine callS Try.call32 trv1 rfl rfl (fun w hs => impl_MirrorGame_c _ ny2 cy2 _ _ _ nyw2 cyw2 _ _ _ nyv2 cyv2 _ _ w (OwnR.rd (hs.at_ 9 rfl) ndK.ok) (OwnR.rd (hs.at_ 10 rfl) maK.ok) (OwnR.rd (hs.at_ 11 rfl) maK.ok)) ?_
        rintro ⟨ay7, ny7, cy7, Hy7, y7, ayw7, nyw7, cyw7, Hyw7, yw7, ayv7, nyv7, cyv7, Hyv7, yv7, q7⟩ ⟨hr7a, hr7b, hr7c, hr7d⟩
        dsimp only at hr7a hr7b hr7c hr7d
        subst y7
        subst yw7
        subst yv7
        subst q7
        refine rPieces (L' := [OwnR ndK 88 2 ay7 ny7 cy7 Hy7 ((((Math.mirAt ((((Math.mirAt y1 yw1 yv1).1.1))) ((((Math.mirAt y1 yw1 yv1).1.2.1))) ((((Math.mirAt y1 yw1 yv1).1.2.2)))).1.1))), OwnR maK 28 2 ayw7 nyw7 cyw7 Hyw7 ((((Math.mirAt ((((Math.mirAt y1 yw1 yv1).1.1))) ((((Math.mirAt y1 yw1 yv1).1.2.1))) ((((Math.mirAt y1 yw1 yv1).1.2.2)))).1.2.1))), OwnR maK 28 2 ayv7 nyv7 cyv7 Hyv7 ((((Math.mirAt ((((Math.mirAt y1 yw1 yv1).1.1))) ((((Math.mirAt y1 yw1 yv1).1.2.1))) ((((Math.mirAt y1 yw1 yv1).1.2.2)))).1.2.2))), blk bka16 43 [.slice ay4 ny4 cy4, .slice ayw4 nyw4 cyw4, .slice ayv4 nyv4 cyv4], RdR ndK ay4 ny4 Hy4 y4, RdR maK ayw4 nyw4 Hyw4 yw4, RdR maK ayv4 nyv4 Hyv4 yv4, blk bka12 43 [.slice ay3 ny3 cy3, .slice ayw3 nyw3 cyw3, .slice ayv3 nyv3 cyv3], OwnR ndK 88 2 ay3 ny3 cy3 Hy3 ((((Math.mirAt y1 yw1 yv1).1.1))), OwnR maK 28 2 ayw3 nyw3 cyw3 Hyw3 ((((Math.mirAt y1 yw1 yv1).1.2.1))), OwnR maK 28 2 ayv3 nyv3 cyv3 Hyv3 ((((Math.mirAt y1 yw1 yv1).1.2.2))), blk bka8 43 [.slice ay2 ny2 cy2, .slice ayw2 nyw2 cyw2, .slice ayv2 nyv2 cyv2], OwnR ndK 88 2 ay2 ny2 cy2 Hy2 ((((Math.mirAt y1 yw1 yv1).1.1))), OwnR maK 28 2 ayw2 nyw2 cyw2 Hyw2 ((((Math.mirAt y1 yw1 yv1).1.2.1))), OwnR maK 28 2 ayv2 nyv2 cyv2 Hyv2 ((((Math.mirAt y1 yw1 yv1).1.2.2))), blk bka4 43 [.slice ay1 ny1 cy1, .slice ayw1 nyw1 cyw1, .slice ayv1 nyv1 cyv1], RdR ndK ay1 ny1 Hy1 y1, RdR maK ayw1 nyw1 Hyw1 yw1, RdR maK ayv1 nyv1 Hyv1 yv1]) (fun _ h => h) ?_
        refine rKnow (fun w hs => (show OwnR ndK 88 2 ay7 ny7 cy7 Hy7 ((((Math.mirAt ((((Math.mirAt y1 yw1 yv1).1.1))) ((((Math.mirAt y1 yw1 yv1).1.2.1))) ((((Math.mirAt y1 yw1 yv1).1.2.2)))).1.1))) w from hs.at_ 0 rfl).1) (fun lenn25 => ?_)
        refine rKnow (fun w hs => (show OwnR maK 28 2 ayw7 nyw7 cyw7 Hyw7 ((((Math.mirAt ((((Math.mirAt y1 yw1 yv1).1.1))) ((((Math.mirAt y1 yw1 yv1).1.2.1))) ((((Math.mirAt y1 yw1 yv1).1.2.2)))).1.2.1))) w from hs.at_ 1 rfl).1) (fun lenn26 => ?_)
        refine rKnow (fun w hs => (show OwnR maK 28 2 ayv7 nyv7 cyv7 Hyv7 ((((Math.mirAt ((((Math.mirAt y1 yw1 yv1).1.1))) ((((Math.mirAt y1 yw1 yv1).1.2.1))) ((((Math.mirAt y1 yw1 yv1).1.2.2)))).1.2.2))) w from hs.at_ 2 rfl).1) (fun lenn27 => ?_)
        refine mv rfl rfl rfl ?_
        refine ext rfl rfl rfl rfl ?_
        refine ext rfl rfl rfl rfl ?_
        refine alc Try.zeroValue43 rfl trv1 rfl rfl (fun bka28 hbka28 => ?_)
        refine stAl (vs := [.slice ay7 ny7 cy7, .slice ayw7 nyw7 cyw7, .slice ayv7 nyv7 cyv7]) 0 rfl Try.sizeOf43 trv rfl rfl rfl rfl rfl (by simp [Value.oneCell']) rfl ?_
        refine asI rfl rfl rfl ?_
        refine rNil ?_
        refine qSeq rfl ?_
        refine hSeq ?_
        refine hReg (sq 0 (sq 1 (sq 2 (sl 3 (sl 4 (sl 5 (sq 6 (sq 7 sz)))))))) (by kernel_rfl) ?_
        refine mvI rfl rfl rfl ?_
        refine eql rfl rfl rfl rfl ?_
        refine mvB rfl rfl rfl ?_
        refine rBoolD (d := 121) rfl (fun g13 => ?_) (fun g13 => ?_)
        ·
         replace g13 : (((Math.mirAt ((((Math.mirAt y1 yw1 yv1).1.1))) ((((Math.mirAt y1 yw1 yv1).1.2.1))) ((((Math.mirAt y1 yw1 yv1).1.2.2)))).2)) = 0 := g13
         refine ldAl Try.isAgg43 Try.sizeOf43 (cBs 0 rfl) trv rfl rfl rfl rfl ?_
         refine ldAl Try.isAgg43 Try.sizeOf43 (cBs 16 rfl) trv rfl rfl rfl rfl ?_
         refine callP (v := .bool true) Try.call37 trv rfl rfl (fun w hs => laws_likeGames_c _ ny7 cy7 _ _ _ nyw7 cyw7 _ _ _ nyv7 cyv7 _ _ _ ny1 cy1 _ _ _ nyw1 cyw1 _ _ _ nyv1 cyv1 _ _ w (OwnR.rd (hs.at_ 1 rfl) ndK.ok) (OwnR.rd (hs.at_ 2 rfl) maK.ok) (OwnR.rd (hs.at_ 3 rfl) maK.ok) (hs.at_ 17 rfl) (hs.at_ 18 rfl) (hs.at_ 19 rfl) (by rw [hmm]; exact ⟨rfl, rfl, rfl⟩)) ?_
         refine pickB rfl rfl rfl rfl ?_
         refine asB rfl rfl rfl ?_
         refine rNil ?_
         refine qSeq rfl ?_
         refine hRet ?_
         exact fun w hs => ⟨[.bool true], ⟨rfl, trivial⟩, ⟨by first | rfl | exact (bT (by omega)).symm, hs.upd⟩⟩
        ·
         replace g13 : ¬ ((((Math.mirAt ((((Math.mirAt y1 yw1 yv1).1.1))) ((((Math.mirAt y1 yw1 yv1).1.2.1))) ((((Math.mirAt y1 yw1 yv1).1.2.2)))).2)) = 0) := g13
         exact absurd (by rw [hmm]) g13
theorem cells5 : Try.prog.cellsOf 5 = 1 := by kernel_rfl
set_option maxHeartbeats 2000000 in
theorem fnMirrors_lifted (os : Os) (started : os.Started) (H : Type) (enc : TypeId × Value → H) :
  ReturnsInHanded {} Try.checked os 5 .any (Rows.fnMirrorsSpec.pre6 enc Try.prog Try.f5 Rows.fnMirrorsRow.domain false) (Rows.fnMirrorsSpec.post enc Try.prog Try.f5 false true false false) := by
 refine returnsInHanded_of_change (C := Try.checked) own started (by kernel_rfl) Try.func5
  (ChangeSpec.witness6 (enc := enc) (C := Try.checked) false ⟨#[], #[.slice none 0 0], []⟩ 8 (by kernel_rfl) (by kernel_rfl) (by kernel_rfl) (by kernel_rfl)) ?_
 intro W base args ds gs before hval0 hW hcnd _
 have hval : ∀ (j : Nat) t v, Try.f5.params[j]? = some t → args[j]? = some v → Value.okWide Try.prog W .any base t v := hval0
 have hW' := hW
 obtain ⟨p, q, hA0, hV, rfl, hfz, hnd⟩ := hW
 have hA : DataW.TrodAll enc Try.prog W 0 (fun _ => true) true Try.f5.params.toList args.toList ds p := hA0
 rw [Try.params5] at hA hval
 obtain ⟨v0, vs0, d0, ds0, p0, q0, hargs, rfl, rfl, h0, r0⟩ := trodAll_cons hA
 obtain ⟨rfl, rfl, rfl⟩ := trodAll_nil r0
 obtain rfl : args = #[v0] := by cases args; simp_all
 obtain ⟨rfl, rfl⟩ := trodVars_none hV
 obtain ⟨ca, bs, cc, rfl, hwf, hmax, hca⟩ := open_slice_ints Try.underlying22 Try.underlying5 cells5 (hval 0 22 v0 rfl rfl) h0
 refine (laws_FnMirrors_c ca bs cc W hca hwf).mono fun e W' ⟨v, he, hv, hx⟩ => ?_
 subst he; subst hv
 exact ⟨_, rfl, law_post (tb := 4) hW' rfl rfl Try.underlying4 rfl rfl rfl (by kernel_rfl) hx⟩
theorem fnMirrors_holds : Rows.FnMirrorsSaid :=
 OpenClaim.holds_of_wide 5 Try.f5 rfl rfl rfl rfl rfl rfl rfl ⟨rfl, rfl, rfl, rfl, rfl⟩ rfl rfl rfl rfl rfl (by kernel_rfl) Try.func5 (by kernel_rfl)
  (of_decide_eq_true (by kernel_rfl)) (by unfold Func.isWrapper; first | (rw [if_pos (by decide +kernel)]; kernel_rfl) | (rw [if_neg (by decide +kernel)]; exact ⟨rfl, rfl⟩))
  (fun os started H enc _ => fnMirrors_lifted os started H enc)
#print axioms fnMirrors_holds
end Go.Proofs.Ytjengglpbdgmnaa
