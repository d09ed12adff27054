/- The law FnExactWayTo returns true for all arguments. No condition. -/
import Derived.Test.YtjbdddfjaognfaaEngB
import Derived.Test.YtjbdddfjaognfaaFrame
import Derived.Test.YtjbdddfjaognfaaFrm
import Derived.Test.YtjbdddfjaognfaaTree
import Derived.Test.YtjbdddfjaognfaaL1
import Derived.Test.YtjbdddfjaognfaaL2
import Derived.Test.YtjbdddfjaognfaaL2m
import Derived.Test.YtjbdddfjaognfaaL3
import Derived.Test.YtjbdddfjaognfaaParts
import Derived.Test.YtjbdddfjaognfaaWay
import Derived.Test.YtjbdddfjaognfaaLP
import Derived.Test.YtjbdddfjaognfaaLW
import Derived.Test.YtjbdddfjaognfaaOpn
import Derived.Test.YtjbdddfjaognfaaRows
namespace Go.Proofs.Ytjbdddfjaognfaa
open Go Go.RowKit V Go.ChangeShapes Go.WideShapes Go.ChangeAt
set_option linter.unusedVariables false
set_option linter.unusedSimpArgs false
set_option maxRecDepth 100000



theorem laws_FnExactWayTo_c (az : Option Addr) (nz : Nat) (cz : Nat) (Hz : Nat → Hd) (z : List Nd) (u : Int) (w : World) (rz : RdR ndK az nz Hz z w) :
    Calls Try.prog 10 #[.agg #[.slice az nz cz], .int .i64 u] w (Ret fun v w' => v = .bool true ∧ Ext w w') := by
  have kz : Kn w none_ [] (RdR ndK az nz Hz z) := fun w' hs => rz.ext hs.upd
  have lz : z.length = nz := rz.1
  have mz : nz ≤ 9223372036854775807 := rz.2.1
  refine fn (M := none_) (rs := [.tmp 4]) Try.func10 rfl Try.ntmps10 rfl rfl (Sep.start _ _) ?_
  refine hSeq ?_
  refine hReg (sl 0 (sq 1 sz)) (by kernel_rfl) ?_
  refine box trv1 rfl rfl rfl rfl (fun bkb1 hbkb1 => ?_)
  refine asB rfl rfl rfl ?_
  refine rNil ?_
  refine qSeq rfl ?_
  refine hSeq ?_
  refine hReg (sq 0 sz) (by kernel_rfl) ?_
  refine asI rfl rfl rfl ?_
  refine rNil ?_
  refine qSeq rfl ?_
  refine hSeq ?_
  refine hReg (sl 0 (sq 1 (sl 2 (sq 3 sz)))) (by kernel_rfl) ?_
  refine ldAl Try.isAgg39 Try.sizeOf39 (cBs 0 rfl) trv rfl rfl rfl rfl ?_
  refine mvI rfl rfl rfl ?_
  refine callP (v := .int .i64 ((Math.cut (1048576 : Int) (Math.szK Math.chl z : Int)))) Try.call26 trv rfl rfl (fun w hs => laws_szTree_c _ nz cz _ _ _ w (Kn.drop (k := 1) kz w hs) (by omega)) ?_
  refine asI rfl rfl rfl ?_
  refine rNil ?_
  refine qSeq rfl ?_
  refine hSeq ?_
  refine hSeq ?_
  refine hReg (sq 0 (sq 1 sz)) (by kernel_rfl) ?_
  refine mvI rfl rfl rfl ?_
  refine lss rfl rfl rfl rfl ?_
  refine rNil ?_
  refine qSeq rfl ?_
  refine hIfD rfl (fun c1 => ?_) (fun c1 => ?_)
  · -- c1T
    replace c1 : (Math.cut (1048576 : Int) (Math.szK Math.chl z : Int)) < 0 := c1
    refine hSeq ?_
    refine hReg (sq 0 sz) (by kernel_rfl) ?_
    refine asB rfl rfl rfl ?_
    refine rNil ?_
    refine qSeq rfl ?_
    refine hRet ?_
    exact fun w hs => ⟨[.bool true], ⟨rfl, trivial⟩, ⟨by first | rfl | exact bD (by omega) | exact bT (by omega) | exact bF (by omega) | exact vI (by omega), hs.upd⟩⟩
  · -- c1F
    replace c1 : ¬ ((Math.cut (1048576 : Int) (Math.szK Math.chl z : Int)) < 0) := c1
    have hb : Math.szK Math.chl z ≤ 1048576 := by have := Math.cut_pos c1; omega
    have hf4 := Math.sumK_f4 z
    have hsz : Math.szK Math.chl z = z.length + Math.sumK Math.chl z := rfl
    have hel := Math.wayAt_len z u
    refine hSkip ?_
    refine qSeq rfl ?_
    refine hSeq ?_
    refine hReg (sl 0 (sl 1 (sq 2 (sl 3 (sq 4 (sq 5 (sq 6 (sq 7 (sq 8 sz))))))))) (by kernel_rfl) ?_
    refine ldAl Try.isAgg39 Try.sizeOf39 (cBs 0 rfl) trv rfl rfl rfl rfl ?_
    refine callS Try.call28 trv1 rfl rfl (fun w hs => laws_toTree_c _ nz cz _ _ w (Kn.drop (k := 1) kz w hs) (by first | assumption | omega)) ?_
    rintro ⟨ay1, ny1, cy1, Hy1, y1⟩ hr1
    dsimp only at hr1
    subst y1
    refine rKnow (fun w hs => (show OwnR ndK 76 2 ay1 ny1 cy1 Hy1 z w from hs.at_ 0 rfl).1) (fun lenn2 => ?_)
    refine mvI rfl rfl rfl ?_
    refine callS Try.call38 trv1 rfl rfl (fun w hs => spec_WayTo_c _ ny1 cy1 _ _ _ w (OwnR.rd (hs.at_ 0 rfl) ndK.ok)) ?_
    rintro ⟨ay2, ny2, cy2, y2, q2⟩ ⟨hr2a, hr2b⟩
    dsimp only at hr2a hr2b
    subst y2
    subst q2
    refine rKnow (fun w hs => (show OwnI 2 ay2 ny2 cy2 ((((Math.wayAt z u).1))) w from hs.at_ 0 rfl).lenz) (fun lenn3 => ?_)
    refine mv rfl rfl rfl ?_
    refine ext rfl rfl rfl rfl ?_
    refine ext rfl rfl rfl rfl ?_
    refine asS rfl rfl rfl ?_
    refine asI rfl rfl rfl ?_
    refine rNil ?_
    refine qSeq rfl ?_
    refine hSeq ?_
    refine hReg (sl 0 (sl 1 (sl 2 (sl 3 sz)))) (by kernel_rfl) ?_
    refine ldAl Try.isAgg39 Try.sizeOf39 (cBs 2 rfl) trv rfl rfl rfl rfl ?_
    refine callS Try.call28 trv1 rfl rfl (fun w hs => laws_toTree_c _ nz cz _ _ w (Kn.drop (k := 3) kz w hs) (by first | assumption | omega)) ?_
    rintro ⟨ay3, ny3, cy3, Hy3, y3⟩ hr3
    dsimp only at hr3
    subst y3
    refine rKnow (fun w hs => (show OwnR ndK 76 2 ay3 ny3 cy3 Hy3 z w from hs.at_ 0 rfl).1) (fun lenn4 => ?_)
    refine alc Try.zeroValue31 rfl trv1 rfl rfl (fun bka5 hbka5 => ?_)
    refine stAl (vs := [.slice ay3 ny3 cy3]) 0 rfl Try.sizeOf31 trv rfl rfl rfl rfl rfl (by simp [Value.oneCell']) rfl ?_
    refine rNil ?_
    refine qSeq rfl ?_
    refine hSeq ?_
    refine hReg (sl 0 (sq 1 (sl 2 (sq 3 (sq 4 (sq 5 (sq 6 (sq 7 sz)))))))) (by kernel_rfl) ?_
    refine ldAl Try.isAgg31 Try.sizeOf31 (cBs 0 rfl) trv rfl rfl rfl rfl ?_
    refine mvI rfl rfl rfl ?_
    refine callS Try.call39 trv1 rfl rfl (fun w hs => impl_WayTo_c _ ny3 cy3 _ _ _ w (OwnR.rd (hs.at_ 1 rfl) ndK.ok)) ?_
    rintro ⟨ay4, ny4, cy4, y4, q4⟩ ⟨hr4a, hr4b⟩
    dsimp only at hr4a hr4b
    subst y4
    subst q4
    refine rKnow (fun w hs => (show OwnI 2 ay4 ny4 cy4 ((((Math.wayAt z u).1))) w from hs.at_ 0 rfl).lenz) (fun lenn6 => ?_)
    refine mv rfl rfl rfl ?_
    refine ext rfl rfl rfl rfl ?_
    refine ext rfl rfl rfl rfl ?_
    refine asS rfl rfl rfl ?_
    refine asI rfl rfl rfl ?_
    refine rNil ?_
    refine qSeq rfl ?_
    refine hSeq ?_
    refine hSeq ?_
    refine hReg (sq 0 (sq 1 (sl 2 (sq 3 (sq 4 (sq 5 (sq 6 (sq 7 (sq 8 sz))))))))) (by kernel_rfl) ?_
    refine mvS rfl rfl rfl ?_
    refine mvS rfl rfl rfl ?_
    refine callP (v := .bool true) Try.call18 trv rfl rfl (fun w hs => laws_eqInt64S_c _ ny4 cy4 _ _ ny2 cy2 _ w (OwnI.rd (hs.at_ 0 rfl)) (OwnI.rd (hs.at_ 3 rfl)) (by first | rfl | assumption | (rw [heq]) | (simp only [*]))) ?_
    refine not rfl rfl rfl ?_
    refine mvB rfl rfl rfl ?_
    refine mvI rfl rfl rfl ?_
    refine mvI rfl rfl rfl ?_
    refine neq rfl rfl rfl rfl ?_
    refine pickB rfl rfl rfl rfl ?_
    refine rNil ?_
    refine qSeq rfl ?_
    refine hIfD rfl (fun c2 => ?_) (fun c2 => ?_)
    · -- c2T
      replace c2 : (((Math.wayAt z u).2)) ≠ (((Math.wayAt z u).2)) := c2
      exact absurd rfl c2
    · -- c2F
      replace c2 : ¬ ((((Math.wayAt z u).2)) ≠ (((Math.wayAt z u).2))) := c2
      refine hSkip ?_
      refine qSeq rfl ?_
      refine hSeq ?_
      refine hSeq ?_
      refine hDraw (Ls := [blk bka5 31 [.slice ay3 ny3 cy3], blk bkb1 39 [.slice az nz cz]]) (by kernel_rfl) (sq 0 (sq 1 (sl 2 (sl 3 (sq 4 sz))))) (by kernel_rfl) (.cons _ (.cons_cons _ (.cons _ (.cons _ (.cons _ (.cons_cons _ .slnil)))))) ?_
      refine ldAq Try.isAgg31 Try.sizeOf31 (cBs 0 rfl) rfl rfl rfl rfl ?_
      refine ldAq Try.isAgg39 Try.sizeOf39 (cBs 1 rfl) rfl rfl rfl rfl ?_
      refine callS Try.call28 (by exact (fun _ _ h => h.pick [2, 5])) rfl rfl (fun w hs => laws_toTree_c _ nz cz _ _ w (Kn.drop (k := 6) kz w hs) (by first | assumption | omega)) ?_
      rintro ⟨ay5, ny5, cy5, Hy5, y5⟩ hr5
      dsimp only at hr5
      subst y5
      refine rKnow (fun w hs => (show OwnR ndK 76 2 ay5 ny5 cy5 Hy5 z w from hs.at_ 0 rfl).1) (fun lenn7 => ?_)
      refine callP (v := .bool true) Try.call23 (fun _ h => h.pick [2, 5]) rfl rfl (fun w hs => laws_eqTree_c _ ny3 cy3 _ _ _ ny5 cy5 _ _ w (OwnR.rd (hs.at_ 3 rfl) ndK.ok) (OwnR.rd (hs.at_ 0 rfl) ndK.ok) (by first | rfl | assumption | (rw [heq]) | (simp only [*]))) ?_
      refine not rfl rfl rfl ?_
      refine rNil ?_
      refine qSeq rfl ?_
      refine hIfF rfl ?_
      refine hSkip ?_
      refine qSeq rfl ?_
      refine hSeq ?_
      refine hReg (sq 0 sz) (by kernel_rfl) ?_
      refine asI rfl rfl rfl ?_
      refine rNil ?_
      refine qSeq rfl ?_
      refine hSeq ?_
      refine hReg (sl 0 (sq 1 (sl 2 (sq 3 sz)))) (by kernel_rfl) ?_
      refine ldAl Try.isAgg31 Try.sizeOf31 (cBs 2 rfl) trv rfl rfl rfl rfl ?_
      refine mvI rfl rfl rfl ?_
      refine rPieces (fun _ h => h.pick [3, 0, 0, 0, 0, 0, 0]) ?_
      refine callM (Lf := [OwnR ndK 76 2 ay3 ny3 cy3 Hy3 z]) (Lr := [OwnR ndK 76 2 ay5 ny5 cy5 Hy5 z, OwnI 2 ay4 ny4 cy4 ((((Math.wayAt z u).1))), blk bka5 31 [.slice ay3 ny3 cy3], OwnI 2 ay2 ny2 cy2 ((((Math.wayAt z u).1))), OwnR ndK 76 2 ay1 ny1 cy1 Hy1 z, blk bkb1 39 [.slice az nz cz]]) (φs := fun _ => [OwnR ndK 76 2 ay3 ny3 cy3 Hy3 ((Math.marksN (1 : Int) z))]) (val := fun _ => .int .i64 (((1 : Int) + (Math.sumK Math.f4 z : Int)))) rfl Try.call24 trv1 rfl rfl (fun w M0 hs => laws_markTree_c ay3 ny3 cy3 Hy3 z (1 : Int) w M0 hs (by omega)) ?_
      rintro _ -
      refine asI rfl rfl rfl ?_
      refine rNil ?_
      refine qSeq rfl ?_
      refine hSeq ?_
      refine hSeq ?_
      refine hReg (sq 0 (sq 1 (sq 2 (sq 3 (sq 4 (sl 5 (sq 6 (sq 7 (sq 8 (sq 9 (sq 10 (sq 11 (sq 12 sz))))))))))))) (by kernel_rfl) ?_
      refine mvI rfl rfl rfl ?_
      refine lss rfl rfl rfl rfl ?_
      refine mvB rfl rfl rfl ?_
      refine rBoolD (d := 55) rfl (fun g3 => ?_) (fun g3 => ?_)
      · -- g3T
        replace g3 : ((1 : Int) + (Math.sumK Math.f4 z : Int)) < 0 := g3
        refine rSkipQ rfl rfl ?_
        refine rSkipQ rfl rfl ?_
        refine rSkipL trv rfl rfl ?_
        refine rSkipQ rfl rfl ?_
        refine pickB rfl rfl rfl rfl ?_
        refine mvB rfl rfl rfl ?_
        refine rSkipQ rfl rfl ?_
        refine rSkipQ rfl rfl ?_
        refine rSkipQ rfl rfl ?_
        refine pickB rfl rfl rfl rfl ?_
        refine rNil ?_
        refine qSeq rfl ?_
        refine hIfT rfl ?_
        refine hSeq ?_
        refine hReg (sq 0 sz) (by kernel_rfl) ?_
        refine asB rfl rfl rfl ?_
        refine rNil ?_
        refine qSeq rfl ?_
        refine hRet ?_
        exact fun w hs => ⟨[.bool false], ⟨rfl, trivial⟩, ⟨by exfalso; omega, hs.upd⟩⟩
      · -- g3F
        replace g3 : ¬ (((1 : Int) + (Math.sumK Math.f4 z : Int)) < 0) := g3
        refine mvS rfl rfl rfl ?_
        refine mvS rfl rfl rfl ?_
        refine callP (v := .bool true) Try.call18 trv rfl rfl (fun w hs => laws_eqInt64S_c _ ny4 cy4 _ _ ny2 cy2 _ w (OwnI.rd (hs.at_ 2 rfl)) (OwnI.rd (hs.at_ 4 rfl)) (by first | rfl | assumption | (rw [heq]) | (simp only [*]))) ?_
        refine not rfl rfl rfl ?_
        refine pickB rfl rfl rfl rfl ?_
        refine mvB rfl rfl rfl ?_
        refine mvI rfl rfl rfl ?_
        refine mvI rfl rfl rfl ?_
        refine neq rfl rfl rfl rfl ?_
        refine pickB rfl rfl rfl rfl ?_
        refine rNil ?_
        refine qSeq rfl ?_
        refine hIfD rfl (fun c4 => ?_) (fun c4 => ?_)
        · -- c4T
          replace c4 : (((Math.wayAt z u).2)) ≠ (((Math.wayAt z u).2)) := c4
          exact absurd rfl c4
        · -- c4F
          replace c4 : ¬ ((((Math.wayAt z u).2)) ≠ (((Math.wayAt z u).2))) := c4
          refine hSkip ?_
          refine qSeq rfl ?_
          refine hSeq ?_
          refine hReg (sq 0 sz) (by kernel_rfl) ?_
          refine asI rfl rfl rfl ?_
          refine rNil ?_
          refine qSeq rfl ?_
          refine hSeq ?_
          refine hReg (sq 0 (sq 1 (sl 2 (sq 3 sz)))) (by kernel_rfl) ?_
          refine mvS rfl rfl rfl ?_
          refine mvI rfl rfl rfl ?_
          refine rPieces (fun _ h => h.pick [2, 0, 0, 0, 0, 0, 0]) ?_
          refine callM (Lf := [OwnI 2 ay4 ny4 cy4 ((((Math.wayAt z u).1)))]) (Lr := [OwnR ndK 76 2 ay3 ny3 cy3 Hy3 ((Math.marksN (1 : Int) z)), OwnR ndK 76 2 ay5 ny5 cy5 Hy5 z, blk bka5 31 [.slice ay3 ny3 cy3], OwnI 2 ay2 ny2 cy2 ((((Math.wayAt z u).1))), OwnR ndK 76 2 ay1 ny1 cy1 Hy1 z, blk bkb1 39 [.slice az nz cz]]) (φs := fun _ => [OwnI 2 ay4 ny4 cy4 ((Math.seqL (1 : Int) ny4))]) (val := fun _ => .int .i64 (((1 : Int) + (ny4 : Int)))) rfl Try.call19 trv1 rfl rfl (fun w M0 hs => laws_markInt64S_c ay4 ny4 cy4 ((((Math.wayAt z u).1))) (1 : Int) w M0 hs (by omega)) ?_
          rintro _ -
          refine asI rfl rfl rfl ?_
          refine rNil ?_
          refine qSeq rfl ?_
          refine hSeq ?_
          refine hReg (sq 0 sz) (by kernel_rfl) ?_
          refine asI rfl rfl rfl ?_
          refine rNil ?_
          refine qSeq rfl ?_
          refine hSeq ?_
          refine hReg (sq 0 (sq 1 (sl 2 (sq 3 sz)))) (by kernel_rfl) ?_
          refine mvS rfl rfl rfl ?_
          refine mvI rfl rfl rfl ?_
          refine callP (v := .int .i64 (((1 : Int) + (ny4 : Int)))) Try.call20 trv rfl rfl (fun w hs => laws_heldInt64S_c _ ny4 cy4 _ _ w (OwnI.rd (hs.at_ 0 rfl)) (by omega) (by first | rfl | assumption | (simp only [*]))) ?_
          refine asI rfl rfl rfl ?_
          refine rNil ?_
          refine qSeq rfl ?_
          refine hSeq ?_
          refine hSeq ?_
          refine hReg (sq 0 (sq 1 sz)) (by kernel_rfl) ?_
          refine mvI rfl rfl rfl ?_
          refine lss rfl rfl rfl rfl ?_
          refine rNil ?_
          refine qSeq rfl ?_
          refine hIfD rfl (fun c5 => ?_) (fun c5 => ?_)
          · -- c5T
            replace c5 : ((1 : Int) + (ny4 : Int)) < 0 := c5
            refine hSeq ?_
            refine hReg (sq 0 sz) (by kernel_rfl) ?_
            refine asB rfl rfl rfl ?_
            refine rNil ?_
            refine qSeq rfl ?_
            refine hRet ?_
            exact fun w hs => ⟨[.bool false], ⟨rfl, trivial⟩, ⟨by exfalso; omega, hs.upd⟩⟩
          · -- c5F
            replace c5 : ¬ (((1 : Int) + (ny4 : Int)) < 0) := c5
            refine hSkip ?_
            refine qSeq rfl ?_
            refine hSeq ?_
            refine hSeq ?_
            refine hReg (sq 0 (sq 1 (sq 2 sz))) (by kernel_rfl) ?_
            refine mvI rfl rfl rfl ?_
            refine mvI rfl rfl rfl ?_
            refine neq rfl rfl rfl rfl ?_
            refine rNil ?_
            refine qSeq rfl ?_
            refine hIfD rfl (fun c6 => ?_) (fun c6 => ?_)
            · -- c6T
              replace c6 : ((1 : Int) + (ny4 : Int)) ≠ ((1 : Int) + (ny4 : Int)) := c6
              exact absurd rfl c6
            · -- c6F
              replace c6 : ¬ (((1 : Int) + (ny4 : Int)) ≠ ((1 : Int) + (ny4 : Int))) := c6
              refine hSkip ?_
              refine qSeq rfl ?_
              refine hSeq ?_
              refine hReg (sl 0 (sl 1 (sq 2 (sl 3 (sq 4 (sq 5 (sq 6 (sq 7 (sq 8 sz))))))))) (by kernel_rfl) ?_
              refine ldAl Try.isAgg39 Try.sizeOf39 (cBs 6 rfl) trv rfl rfl rfl rfl ?_
              refine callS Try.call28 trv1 rfl rfl (fun w hs => laws_toTree_c _ nz cz _ _ w (Kn.drop (k := 7) kz w hs) (by first | assumption | omega)) ?_
              rintro ⟨ay6, ny6, cy6, Hy6, y6⟩ hr6
              dsimp only at hr6
              subst y6
              refine rKnow (fun w hs => (show OwnR ndK 76 2 ay6 ny6 cy6 Hy6 z w from hs.at_ 0 rfl).1) (fun lenn8 => ?_)
              refine mvI rfl rfl rfl ?_
              refine callS Try.call39 trv1 rfl rfl (fun w hs => impl_WayTo_c _ ny6 cy6 _ _ _ w (OwnR.rd (hs.at_ 0 rfl) ndK.ok)) ?_
              rintro ⟨ay7, ny7, cy7, y7, q7⟩ ⟨hr7a, hr7b⟩
              dsimp only at hr7a hr7b
              subst y7
              subst q7
              refine rKnow (fun w hs => (show OwnI 2 ay7 ny7 cy7 ((((Math.wayAt z u).1))) w from hs.at_ 0 rfl).lenz) (fun lenn9 => ?_)
              refine mv rfl rfl rfl ?_
              refine ext rfl rfl rfl rfl ?_
              refine ext rfl rfl rfl rfl ?_
              refine asS rfl rfl rfl ?_
              refine asI rfl rfl rfl ?_
              refine rNil ?_
              refine qSeq rfl ?_
              refine hSeq ?_
              refine hSeq ?_
              refine hReg (sq 0 (sq 1 (sl 2 (sq 3 (sq 4 (sq 5 (sq 6 (sq 7 (sq 8 sz))))))))) (by kernel_rfl) ?_
              refine mvS rfl rfl rfl ?_
              refine mvS rfl rfl rfl ?_
              refine callP (v := .bool true) Try.call18 trv rfl rfl (fun w hs => laws_eqInt64S_c _ ny7 cy7 _ _ ny2 cy2 _ w (OwnI.rd (hs.at_ 0 rfl)) (OwnI.rd (hs.at_ 6 rfl)) (by first | rfl | assumption | (rw [heq]) | (simp only [*]))) ?_
              refine not rfl rfl rfl ?_
              refine mvB rfl rfl rfl ?_
              refine mvI rfl rfl rfl ?_
              refine mvI rfl rfl rfl ?_
              refine neq rfl rfl rfl rfl ?_
              refine pickB rfl rfl rfl rfl ?_
              refine rNil ?_
              refine qSeq rfl ?_
              refine hIfD rfl (fun c7 => ?_) (fun c7 => ?_)
              · -- c7T
                replace c7 : (((Math.wayAt z u).2)) ≠ (((Math.wayAt z u).2)) := c7
                exact absurd rfl c7
              · -- c7F
                replace c7 : ¬ ((((Math.wayAt z u).2)) ≠ (((Math.wayAt z u).2))) := c7
                refine hSkip ?_
                refine qSeq rfl ?_
                refine hSeq ?_
                refine hReg (sq 0 sz) (by kernel_rfl) ?_
                refine asI rfl rfl rfl ?_
                refine rNil ?_
                refine qSeq rfl ?_
                refine hSeq ?_
                refine hReg (sq 0 (sq 1 (sl 2 (sq 3 sz)))) (by kernel_rfl) ?_
                refine mvS rfl rfl rfl ?_
                refine mvI rfl rfl rfl ?_
                refine callP (v := .int .i64 (((1 : Int) + (ny4 : Int)))) Try.call20 trv rfl rfl (fun w hs => laws_heldInt64S_c _ ny4 cy4 _ _ w (OwnI.rd (hs.at_ 2 rfl)) (by omega) (by first | rfl | assumption | (simp only [*]))) ?_
                refine asI rfl rfl rfl ?_
                refine rNil ?_
                refine qSeq rfl ?_
                refine hSeq ?_
                refine hSeq ?_
                refine hReg (sq 0 (sq 1 sz)) (by kernel_rfl) ?_
                refine mvI rfl rfl rfl ?_
                refine lss rfl rfl rfl rfl ?_
                refine rNil ?_
                refine qSeq rfl ?_
                refine hIfD rfl (fun c8 => ?_) (fun c8 => ?_)
                · -- c8T
                  replace c8 : ((1 : Int) + (ny4 : Int)) < 0 := c8
                  refine hSeq ?_
                  refine hReg (sq 0 sz) (by kernel_rfl) ?_
                  refine asB rfl rfl rfl ?_
                  refine rNil ?_
                  refine qSeq rfl ?_
                  refine hRet ?_
                  exact fun w hs => ⟨[.bool false], ⟨rfl, trivial⟩, ⟨by exfalso; omega, hs.upd⟩⟩
                · -- c8F
                  replace c8 : ¬ (((1 : Int) + (ny4 : Int)) < 0) := c8
                  refine hSkip ?_
                  refine qSeq rfl ?_
                  refine hSeq ?_
                  refine hSeq ?_
                  refine hReg (sq 0 (sq 1 (sq 2 sz))) (by kernel_rfl) ?_
                  refine mvI rfl rfl rfl ?_
                  refine mvI rfl rfl rfl ?_
                  refine neq rfl rfl rfl rfl ?_
                  refine rNil ?_
                  refine qSeq rfl ?_
                  refine hIfD rfl (fun c9 => ?_) (fun c9 => ?_)
                  · -- c9T
                    replace c9 : ((1 : Int) + (ny4 : Int)) ≠ ((1 : Int) + (ny4 : Int)) := c9
                    exact absurd rfl c9
                  · -- c9F
                    replace c9 : ¬ (((1 : Int) + (ny4 : Int)) ≠ ((1 : Int) + (ny4 : Int))) := c9
                    refine hSkip ?_
                    refine qSeq rfl ?_
                    refine hSeq ?_
                    refine hReg (sq 0 sz) (by kernel_rfl) ?_
                    refine asB rfl rfl rfl ?_
                    refine rNil ?_
                    refine qSeq rfl ?_
                    refine hRet ?_
                    exact fun w hs => ⟨[.bool true], ⟨rfl, trivial⟩, ⟨by first | rfl | exact bD (by omega) | exact bT (by omega) | exact bF (by omega) | exact vI (by omega), hs.upd⟩⟩

set_option maxHeartbeats 2000000 in
theorem fnExactWayTo_lifted (os : Os) (started : os.Started) (H : Type) (enc : TypeId × Value → H) :
    ReturnsInHanded {} Try.checked os 10 .any (Rows.fnExactWayToSpec.pre6 enc Try.prog Try.f10 Rows.fnExactWayToRow.domain false) (Rows.fnExactWayToSpec.post enc Try.prog Try.f10 false true false false) := by
  refine returnsInHanded_of_change (C := Try.checked) own started (by kernel_rfl) Try.func10
    (ChangeSpec.witness6 (enc := enc) (C := Try.checked) false ⟨#[], #[.agg #[.slice none 0 0], .int .i64 0], []⟩ 8 (by kernel_rfl) (by kernel_rfl) (by kernel_rfl) (by kernel_rfl)) ?_
  intro W base args ds gs before hval0 hW hcnd _
  have hval : ∀ (j : Nat) t v, Try.f10.params[j]? = some t → args[j]? = some v → Value.okWide Try.prog W .any base t v := hval0
  have hW' := hW
  obtain ⟨p, q, hA0, hV, rfl, hfz, hnd⟩ := hW
  have hA : DataW.TrodAll enc Try.prog W 0 (fun _ => true) true Try.f10.params.toList args.toList ds p := hA0
  rw [Try.params10] at hA hval
  obtain ⟨v0, vs0, d0, ds0, p0, q0, hargs, rfl, rfl, h0, r0⟩ := trodAll_cons hA
  obtain ⟨v1, vs1, d1, ds1, p1, q1, rfl, rfl, rfl, h1, r1⟩ := trodAll_cons r0
  obtain ⟨rfl, rfl, rfl⟩ := trodAll_nil r1
  obtain rfl : args = #[v0, v1] := by cases args; simp_all
  obtain ⟨rfl, rfl⟩ := trodVars_none hV
  obtain ⟨f0, g0⟩ := h0
  obtain ⟨cs0, rfl, _⟩ := okWide_struct Try.underlying39 (hval 0 39 v0 rfl rfl)
  obtain ⟨aq0_0, nq0_0, cq0_0, hq0_0, zq0_0, e0, rq0_0⟩ := inT39 g0
  obtain rfl : cs0 = #[.slice aq0_0 nq0_0 cq0_0] := by apply Array.ext'; exact e0
  obtain ⟨f1, g1⟩ := h1
  obtain ⟨z1_, rfl⟩ := okWide_int Try.underlying2 (hval 1 2 v1 rfl rfl)
  obtain ⟨zq1_0, e1⟩ := inT2 g1
  simp only [Value.cells, List.cons.injEq, Value.int.injEq, and_true, true_and] at e1
  subst z1_
  refine (laws_FnExactWayTo_c aq0_0 nq0_0 cq0_0 hq0_0 zq0_0 zq1_0 W rq0_0).mono fun e W' ⟨v, he, hv, hx⟩ => ?_
  subst he; subst hv
  exact ⟨_, rfl, law_post (tb := 4) hW' rfl rfl Try.underlying4 rfl rfl rfl (by kernel_rfl) hx⟩
theorem fnExactWayTo_holds : Rows.FnExactWayToSaid :=
  OpenClaim.holds_of_wide 10 Try.f10 rfl rfl rfl rfl rfl rfl rfl ⟨rfl, rfl, rfl, rfl, rfl⟩ rfl rfl rfl rfl rfl (by kernel_rfl) Try.func10 (by kernel_rfl)
    (of_decide_eq_true (by kernel_rfl)) (by unfold Func.isWrapper; first | (rw [if_pos (by decide +kernel)]; kernel_rfl) | (rw [if_neg (by decide +kernel)]; exact ⟨rfl, rfl⟩))
    (fun os started H enc _ => fnExactWayTo_lifted os started H enc)
#print axioms fnExactWayTo_holds

end Go.Proofs.Ytjbdddfjaognfaa
