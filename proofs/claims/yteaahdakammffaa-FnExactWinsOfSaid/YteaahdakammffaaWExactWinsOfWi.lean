/- The law FnExactWinsOf returns true for all arguments. No condition. -/
import Derived.Test.YteaahdakammffaaZ13Wi
import Derived.Test.YteaahdakammffaaZ1Wi
import Derived.Test.YteaahdakammffaaZ2Wi
import Derived.Test.YteaahdakammffaaZ3Wi
import Derived.Test.YteaahdakammffaaZ4Wi
import Derived.Test.YteaahdakammffaaZ5Wi
import Derived.Test.YteaahdakammffaaZ7Wi
import Derived.Test.YteaahdakammffaaZ8Wi
import Derived.Test.YteaahdakammffaaZ9Wi
import Derived.Test.YteaahdakammffaaZ10Wi
import Derived.Test.YteaahdakammffaaRows
namespace Go.Proofs.Yteaahdakammffaa
open Go Go.RowKit V Go.ChangeShapes Go.WideShapes Go.ChangeAt
set_option linter.unusedVariables false
set_option linter.unusedSimpArgs false
set_option maxRecDepth 100000
set_option maxHeartbeats 4000000 in
theorem laws_FnExactWinsOf_c (vn : Int) (az : Option Addr) (nz : Nat) (cz : Nat) (Hz : Nat → Hd) (z : List (List Int)) (aq : Option Addr) (nq : Nat) (cq : Nat) (q : List Int) (ad : Option Addr) (nd : Nat) (cd : Nat) (d : List Int) (p : Int) (w : World) (rz : RdR maK az nz Hz z w) (rq : RdI aq nq q w) (rd : RdI ad nd d w) :
  Calls Try.prog 10 #[.int .i64 vn, .slice az nz cz, .slice aq nq cq, .slice ad nd cd, .int .i64 p] w (Ret fun v w' => v = .bool true ∧ Ext w w') := by
 have kz : Kn w none_ [] (RdR maK az nz Hz z) := fun w' hs => rz.ext hs.upd
 have lz : z.length = nz := rz.1
 have mz : nz ≤ 9223372036854775807 := rz.2.1
 have kq : Kn w none_ [] (RdI aq nq q) := fun w' hs => rq.ext hs.upd
 have lq : q.length = nq := rq.1
 have mq : nq ≤ 9223372036854775807 := rq.2.1
 have kd : Kn w none_ [] (RdI ad nd d) := fun w' hs => rd.ext hs.upd
 have ld : d.length = nd := rd.1
 have md : nd ≤ 9223372036854775807 := rd.2.1
 refine fn (M := none_) (rs := [.tmp 10]) Try.func10 rfl Try.ntmps10 rfl rfl (Sep.start _ _) ?_
 refine hSeq ?_
 refine hReg (sq 0 sz) (by kernel_rfl) ?_
 refine asB rfl rfl rfl ?_
 refine rNil ?_
 refine qSeq rfl ?_
 refine hSeq ?_
 refine hSeq ?_
 refine hReg (sq 0 (sq 1 (sq 2 sz))) (by kernel_rfl) ?_
 refine mvS rfl rfl rfl ?_
 refine lenS Try.runUnderlying23 rfl rfl rfl ?_
 refine gtr rfl rfl rfl rfl ?_
 refine rNil ?_
 refine qSeq rfl ?_
 refine hIfD rfl (fun c1 => ?_) (fun c1 => ?_)
 ·
  replace c1 : 1048576 < (nq : Int) := c1
  refine hSeq ?_
  refine hReg (sq 0 sz) (by kernel_rfl) ?_
  refine asB rfl rfl rfl ?_
  refine rNil ?_
  refine qSeq rfl ?_
  refine hRet ?_
  exact fun w hs => ⟨[.bool true], ⟨rfl, trivial⟩, ⟨by first | rfl | exact bD (by omega) | exact bT (by omega) | exact bF (by omega) | exact vI (by omega), hs.upd⟩⟩
 ·
  replace c1 : ¬ (1048576 < (nq : Int)) := c1
  refine hSkip ?_
  refine qSeq rfl ?_
  refine hSeq ?_
  refine hSeq ?_
  refine hReg (sq 0 (sq 1 (sq 2 sz))) (by kernel_rfl) ?_
  refine mvS rfl rfl rfl ?_
  refine lenS Try.runUnderlying23 rfl rfl rfl ?_
  refine gtr rfl rfl rfl rfl ?_
  refine rNil ?_
  refine qSeq rfl ?_
  refine hIfD rfl (fun c2 => ?_) (fun c2 => ?_)
  ·
   replace c2 : 1048576 < (nd : Int) := c2
   refine hSeq ?_
   refine hReg (sq 0 sz) (by kernel_rfl) ?_
   refine asB rfl rfl rfl ?_
   refine rNil ?_
   refine qSeq rfl ?_
   refine hRet ?_
   exact fun w hs => ⟨[.bool true], ⟨rfl, trivial⟩, ⟨by first | rfl | exact bD (by omega) | exact bT (by omega) | exact bF (by omega) | exact vI (by omega), hs.upd⟩⟩
  ·
   replace c2 : ¬ (1048576 < (nd : Int)) := c2
   refine hSkip ?_
   refine qSeq rfl ?_
   refine hSeq ?_
   refine hReg (sq 0 sz) (by kernel_rfl) ?_
   refine asI rfl rfl rfl ?_
   refine rNil ?_
   refine qSeq rfl ?_
   refine hSeq ?_
   refine hReg (sq 0 (sq 1 (sl 2 (sq 3 sz)))) (by kernel_rfl) ?_
   refine mvS rfl rfl rfl ?_
   refine mvI rfl rfl rfl ?_
   refine callP (v := .int .i64 ((Math.cut (1048576 : Int) (Math.szK Math.rwl z : Int)))) Try.call12 trv rfl rfl (fun w hs => laws_szInt64SS_c _ nz cz _ _ _ w (kz w hs) (by omega)) ?_
   refine asI rfl rfl rfl ?_
   refine rNil ?_
   refine qSeq rfl ?_
   refine hSeq ?_
   refine hSeq ?_
   refine hReg (sq 0 (sq 1 sz)) (by kernel_rfl) ?_
   refine mvI rfl rfl rfl ?_
   refine lss rfl rfl rfl rfl ?_
   refine rNil ?_
   refine qSeq rfl ?_
   refine hIfD rfl (fun c3 => ?_) (fun c3 => ?_)
   ·
    replace c3 : (Math.cut (1048576 : Int) (Math.szK Math.rwl z : Int)) < 0 := c3
    refine hSeq ?_
    refine hReg (sq 0 sz) (by kernel_rfl) ?_
    refine asB rfl rfl rfl ?_
    refine rNil ?_
    refine qSeq rfl ?_
    refine hRet ?_
    exact fun w hs => ⟨[.bool true], ⟨rfl, trivial⟩, ⟨by first | rfl | exact bD (by omega) | exact bT (by omega) | exact bF (by omega) | exact vI (by omega), hs.upd⟩⟩
   ·
    replace c3 : ¬ ((Math.cut (1048576 : Int) (Math.szK Math.rwl z : Int)) < 0) := c3
    have hb : Math.szK Math.rwl z ≤ 1048576 := by have := Math.cut_pos c3; omega
    have hsf := Hd.szK_flat z
    have hsk := Hd.sumK_flat z
    refine hSkip ?_
    refine qSeq rfl ?_
    refine hSeq ?_
    refine hReg (sq 0 (sq 1 (sl 2 (sq 3 (sl 4 (sq 5 (sl 6 (sq 7 (sl 8 (sq 9 (sq 10 (sq 11 (sq 12 (sq 13 (sq 14 (sq 15 sz)))))))))))))))) (by kernel_rfl) ?_
    refine mvI rfl rfl rfl ?_
    refine mvS rfl rfl rfl ?_
    refine callS Try.call14 trv1 rfl rfl (fun w hs => laws_toInt64SS_c _ nz cz _ _ w (kz w hs) (by first | assumption | omega)) ?_
    rintro ⟨ay1, ny1, cy1, Hy1, y1⟩ hr1
    dsimp only at hr1
    subst y1
    refine rPieces (L' := [OwnR maK 23 2 ay1 ny1 cy1 Hy1 z]) (fun _ h => h) ?_
    refine rKnow (fun w hs => (show OwnR maK 23 2 ay1 ny1 cy1 Hy1 z w from hs.at_ 0 rfl).1) (fun lenn1 => ?_)
    refine rKnow (fun w hs => OwnR.caps (show OwnR maK 23 2 ay1 ny1 cy1 Hy1 z w from hs.at_ 0 rfl)) (fun lcpn1 => ?_)
    refine rVal (v' := .slice ay1 ny1 cy1) rfl ?_
    refine mvS rfl rfl rfl ?_
    refine callS Try.call15 trv1 rfl rfl (fun w hs => laws_toInt64S_c _ nq cq _ w (Kn.drop (k := 1) kq w hs) (by omega)) ?_
    rintro ⟨ay2, ny2, cy2, y2⟩ hr2
    dsimp only at hr2
    subst y2
    refine rPieces (L' := [OwnI 2 ay2 ny2 cy2 q, OwnR maK 23 2 ay1 ny1 cy1 Hy1 z]) (fun _ h => h) ?_
    refine rKnow (fun w hs => (show OwnI 2 ay2 ny2 cy2 q w from hs.at_ 0 rfl).lenz) (fun lenn2 => ?_)
    refine rKnow (fun w hs => (show OwnI 2 ay2 ny2 cy2 q w from hs.at_ 0 rfl).capz) (fun lcpn2 => ?_)
    refine rVal (v' := .slice ay2 ny2 cy2) rfl ?_
    refine mvS rfl rfl rfl ?_
    refine callS Try.call15 trv1 rfl rfl (fun w hs => laws_toInt64S_c _ nd cd _ w (Kn.drop (k := 2) kd w hs) (by omega)) ?_
    rintro ⟨ay3, ny3, cy3, y3⟩ hr3
    dsimp only at hr3
    subst y3
    refine rPieces (L' := [OwnI 2 ay3 ny3 cy3 d, OwnI 2 ay2 ny2 cy2 q, OwnR maK 23 2 ay1 ny1 cy1 Hy1 z]) (fun _ h => h) ?_
    refine rKnow (fun w hs => (show OwnI 2 ay3 ny3 cy3 d w from hs.at_ 0 rfl).lenz) (fun lenn3 => ?_)
    refine rKnow (fun w hs => (show OwnI 2 ay3 ny3 cy3 d w from hs.at_ 0 rfl).capz) (fun lcpn3 => ?_)
    refine rVal (v' := .slice ay3 ny3 cy3) rfl ?_
    refine mvI rfl rfl rfl ?_
    refine callS Try.call56 trv1 rfl rfl (fun w hs => spec_WinsOf_c _ _ ny1 cy1 _ _ _ ny2 cy2 _ _ ny3 cy3 _ _ w (OwnR.rd (hs.at_ 2 rfl) maK.ok) (OwnI.rd (hs.at_ 1 rfl)) (OwnI.rd (hs.at_ 0 rfl)) (by omega) (by first | omega | (simp only [List.length_nil]; omega)) (by omega) (by omega) (by assumption) (by first | assumption | omega)) ?_
    rintro ⟨u4, t4, e4⟩ ⟨hr4a, hr4b, hr4c⟩
    dsimp only at hr4a hr4b hr4c
    subst u4
    subst t4
    subst e4
    refine rPieces (L' := [OwnI 2 ay3 ny3 cy3 d, OwnI 2 ay2 ny2 cy2 q, OwnR maK 23 2 ay1 ny1 cy1 Hy1 z]) (fun _ h => h) ?_
    refine rVal (v' := .tuple #[.int .i64 (Hd.wiA vn z q d p), .int .i64 (Hd.wiB vn z q d p), .int .i64 (Hd.wiC vn z q d p)]) rfl ?_
    refine mv rfl rfl rfl ?_
    refine ext rfl rfl rfl rfl ?_
    refine ext rfl rfl rfl rfl ?_
    refine ext rfl rfl rfl rfl ?_
    refine asI rfl rfl rfl ?_
    refine asI rfl rfl rfl ?_
    refine asI rfl rfl rfl ?_
    refine rNil ?_
    refine qSeq rfl ?_
    refine hSeq ?_
    refine hReg (sq 0 (sl 1 (sq 2 sz))) (by kernel_rfl) ?_
    refine mvS rfl rfl rfl ?_
    refine callS Try.call14 trv1 rfl rfl (fun w hs => laws_toInt64SS_c _ nz cz _ _ w (Kn.drop (k := 3) kz w hs) (by first | assumption | omega)) ?_
    rintro ⟨ay5, ny5, cy5, Hy5, y5⟩ hr5
    dsimp only at hr5
    subst y5
    refine rPieces (L' := [OwnR maK 23 2 ay5 ny5 cy5 Hy5 z, OwnI 2 ay3 ny3 cy3 d, OwnI 2 ay2 ny2 cy2 q, OwnR maK 23 2 ay1 ny1 cy1 Hy1 z]) (fun _ h => h) ?_
    refine rKnow (fun w hs => (show OwnR maK 23 2 ay5 ny5 cy5 Hy5 z w from hs.at_ 0 rfl).1) (fun lenn4 => ?_)
    refine rKnow (fun w hs => OwnR.caps (show OwnR maK 23 2 ay5 ny5 cy5 Hy5 z w from hs.at_ 0 rfl)) (fun lcpn4 => ?_)
    refine rVal (v' := .slice ay5 ny5 cy5) rfl ?_
    refine asS rfl rfl rfl ?_
    refine rNil ?_
    refine qSeq rfl ?_
    refine hSeq ?_
    refine hReg (sq 0 (sl 1 (sq 2 sz))) (by kernel_rfl) ?_
    refine mvS rfl rfl rfl ?_
    refine callS Try.call15 trv1 rfl rfl (fun w hs => laws_toInt64S_c _ nq cq _ w (Kn.drop (k := 4) kq w hs) (by omega)) ?_
    rintro ⟨ay6, ny6, cy6, y6⟩ hr6
    dsimp only at hr6
    subst y6
    refine rPieces (L' := [OwnI 2 ay6 ny6 cy6 q, OwnR maK 23 2 ay5 ny5 cy5 Hy5 z, OwnI 2 ay3 ny3 cy3 d, OwnI 2 ay2 ny2 cy2 q, OwnR maK 23 2 ay1 ny1 cy1 Hy1 z]) (fun _ h => h) ?_
    refine rKnow (fun w hs => (show OwnI 2 ay6 ny6 cy6 q w from hs.at_ 0 rfl).lenz) (fun lenn5 => ?_)
    refine rKnow (fun w hs => (show OwnI 2 ay6 ny6 cy6 q w from hs.at_ 0 rfl).capz) (fun lcpn5 => ?_)
    refine rVal (v' := .slice ay6 ny6 cy6) rfl ?_
    refine asS rfl rfl rfl ?_
    refine rNil ?_
    refine qSeq rfl ?_
    refine hSeq ?_
    refine hReg (sq 0 (sl 1 (sq 2 sz))) (by kernel_rfl) ?_
    refine mvS rfl rfl rfl ?_
    refine callS Try.call15 trv1 rfl rfl (fun w hs => laws_toInt64S_c _ nd cd _ w (Kn.drop (k := 5) kd w hs) (by omega)) ?_
    rintro ⟨ay7, ny7, cy7, y7⟩ hr7
    dsimp only at hr7
    subst y7
    refine rPieces (L' := [OwnI 2 ay7 ny7 cy7 d, OwnI 2 ay6 ny6 cy6 q, OwnR maK 23 2 ay5 ny5 cy5 Hy5 z, OwnI 2 ay3 ny3 cy3 d, OwnI 2 ay2 ny2 cy2 q, OwnR maK 23 2 ay1 ny1 cy1 Hy1 z]) (fun _ h => h) ?_
    refine rKnow (fun w hs => (show OwnI 2 ay7 ny7 cy7 d w from hs.at_ 0 rfl).lenz) (fun lenn6 => ?_)
    refine rKnow (fun w hs => (show OwnI 2 ay7 ny7 cy7 d w from hs.at_ 0 rfl).capz) (fun lcpn6 => ?_)
    refine rVal (v' := .slice ay7 ny7 cy7) rfl ?_
    refine asS rfl rfl rfl ?_
    refine rNil ?_
    refine qSeq rfl ?_
    refine hSeq ?_
    refine hReg (sq 0 (sq 1 (sq 2 (sq 3 (sq 4 (sl 5 (sq 6 (sq 7 (sq 8 (sq 9 (sq 10 (sq 11 (sq 12 sz))))))))))))) (by kernel_rfl) ?_
    refine mvI rfl rfl rfl ?_
    refine mvS rfl rfl rfl ?_
    refine mvS rfl rfl rfl ?_
    refine mvS rfl rfl rfl ?_
    refine mvI rfl rfl rfl ?_
    refine callS Try.call28 trv1 rfl rfl (fun w hs => impl_WinsOf_c _ _ ny5 cy5 _ _ _ ny6 cy6 _ _ ny7 cy7 _ _ w (OwnR.rd (hs.at_ 2 rfl) maK.ok) (OwnI.rd (hs.at_ 1 rfl)) (OwnI.rd (hs.at_ 0 rfl)) (by omega) (by first | omega | (simp only [List.length_nil]; omega)) (by omega) (by omega)) ?_
    rintro ⟨u8, t8, e8⟩ ⟨hr8a, hr8b, hr8c⟩
    dsimp only at hr8a hr8b hr8c
    subst u8
    subst t8
    subst e8
    refine rPieces (L' := [OwnI 2 ay7 ny7 cy7 d, OwnI 2 ay6 ny6 cy6 q, OwnR maK 23 2 ay5 ny5 cy5 Hy5 z, OwnI 2 ay3 ny3 cy3 d, OwnI 2 ay2 ny2 cy2 q, OwnR maK 23 2 ay1 ny1 cy1 Hy1 z]) (fun _ h => h) ?_
    refine rVal (v' := .tuple #[.int .i64 (Hd.wiA vn z q d p), .int .i64 (Hd.wiB vn z q d p), .int .i64 (Hd.wiC vn z q d p)]) rfl ?_
    refine mv rfl rfl rfl ?_
    refine ext rfl rfl rfl rfl ?_
    refine ext rfl rfl rfl rfl ?_
    refine ext rfl rfl rfl rfl ?_
    refine asI rfl rfl rfl ?_
    refine asI rfl rfl rfl ?_
    refine asI rfl rfl rfl ?_
    refine rNil ?_
    refine qSeq rfl ?_
    refine hSeq ?_
    refine hSeq ?_
    refine hReg (sq 0 (sq 1 (sq 2 (sq 3 (sq 4 (sq 5 (sq 6 (sq 7 (sq 8 (sq 9 (sq 10 (sq 11 (sq 12 sz))))))))))))) (by kernel_rfl) ?_
    refine mvI rfl rfl rfl ?_
    refine mvI rfl rfl rfl ?_
    refine neq rfl rfl rfl rfl ?_
    refine mvB rfl rfl rfl ?_
    refine rBoolD (d := 64) rfl (fun g4 => ?_) (fun g4 => ?_)
    ·
     replace g4 : (Hd.wiA vn z q d p) ≠ (Hd.wiA vn z q d p) := g4
     exact absurd rfl g4
    ·
     replace g4 : ¬ ((Hd.wiA vn z q d p) ≠ (Hd.wiA vn z q d p)) := g4
     refine mvI rfl rfl rfl ?_
     refine mvI rfl rfl rfl ?_
     refine neq rfl rfl rfl rfl ?_
     refine pickB rfl rfl rfl rfl ?_
     refine mvB rfl rfl rfl ?_
     refine rBoolD (d := 69) rfl (fun g5 => ?_) (fun g5 => ?_)
     ·
      replace g5 : (Hd.wiB vn z q d p) ≠ (Hd.wiB vn z q d p) := g5
      exact absurd rfl g5
     ·
      replace g5 : ¬ ((Hd.wiB vn z q d p) ≠ (Hd.wiB vn z q d p)) := g5
      refine mvI rfl rfl rfl ?_
      refine mvI rfl rfl rfl ?_
      refine neq rfl rfl rfl rfl ?_
      refine pickB rfl rfl rfl rfl ?_
      refine rNil ?_
      refine qSeq rfl ?_
      refine hIfD rfl (fun c6 => ?_) (fun c6 => ?_)
      ·
       replace c6 : (Hd.wiC vn z q d p) ≠ (Hd.wiC vn z q d p) := c6
       exact absurd rfl c6
      ·
       replace c6 : ¬ ((Hd.wiC vn z q d p) ≠ (Hd.wiC vn z q d p)) := c6
       refine hSkip ?_
       refine qSeq rfl ?_
       refine hSeq ?_
       refine hSeq ?_
       refine hReg (sq 0 (sq 1 (sl 2 (sl 3 (sq 4 sz))))) (by kernel_rfl) ?_
       refine mvS rfl rfl rfl ?_
       refine mvS rfl rfl rfl ?_
       refine callS Try.call14 trv1 rfl rfl (fun w hs => laws_toInt64SS_c _ nz cz _ _ w (Kn.drop (k := 6) kz w hs) (by first | assumption | omega)) ?_
       rintro ⟨ay9, ny9, cy9, Hy9, y9⟩ hr9
       dsimp only at hr9
       subst y9
       refine rPieces (L' := [OwnR maK 23 2 ay9 ny9 cy9 Hy9 z, OwnI 2 ay7 ny7 cy7 d, OwnI 2 ay6 ny6 cy6 q, OwnR maK 23 2 ay5 ny5 cy5 Hy5 z, OwnI 2 ay3 ny3 cy3 d, OwnI 2 ay2 ny2 cy2 q, OwnR maK 23 2 ay1 ny1 cy1 Hy1 z]) (fun _ h => h) ?_
       refine rKnow (fun w hs => (show OwnR maK 23 2 ay9 ny9 cy9 Hy9 z w from hs.at_ 0 rfl).1) (fun lenn7 => ?_)
       refine rKnow (fun w hs => OwnR.caps (show OwnR maK 23 2 ay9 ny9 cy9 Hy9 z w from hs.at_ 0 rfl)) (fun lcpn7 => ?_)
       refine rVal (v' := .slice ay9 ny9 cy9) rfl ?_
       refine callP (v := .bool true) Try.call17 trv rfl rfl (fun w hs => laws_eqInt64SS_c _ ny5 cy5 _ _ _ ny9 cy9 _ _ w (OwnR.rd (hs.at_ 3 rfl) maK.ok) (OwnR.rd (hs.at_ 0 rfl) maK.ok) (by first | rfl | assumption | (rw [heq]) | (simp only [*]))) ?_
       refine not rfl rfl rfl ?_
       refine rNil ?_
       refine qSeq rfl ?_
       refine hIfF rfl ?_
       refine hSkip ?_
       refine qSeq rfl ?_
       refine hSeq ?_
       refine hSeq ?_
       refine hReg (sq 0 (sq 1 (sl 2 (sl 3 (sq 4 sz))))) (by kernel_rfl) ?_
       refine mvS rfl rfl rfl ?_
       refine mvS rfl rfl rfl ?_
       refine callS Try.call15 trv1 rfl rfl (fun w hs => laws_toInt64S_c _ nq cq _ w (Kn.drop (k := 7) kq w hs) (by omega)) ?_
       rintro ⟨ay10, ny10, cy10, y10⟩ hr10
       dsimp only at hr10
       subst y10
       refine rPieces (L' := [OwnI 2 ay10 ny10 cy10 q, OwnR maK 23 2 ay9 ny9 cy9 Hy9 z, OwnI 2 ay7 ny7 cy7 d, OwnI 2 ay6 ny6 cy6 q, OwnR maK 23 2 ay5 ny5 cy5 Hy5 z, OwnI 2 ay3 ny3 cy3 d, OwnI 2 ay2 ny2 cy2 q, OwnR maK 23 2 ay1 ny1 cy1 Hy1 z]) (fun _ h => h) ?_
       refine rKnow (fun w hs => (show OwnI 2 ay10 ny10 cy10 q w from hs.at_ 0 rfl).lenz) (fun lenn8 => ?_)
       refine rKnow (fun w hs => (show OwnI 2 ay10 ny10 cy10 q w from hs.at_ 0 rfl).capz) (fun lcpn8 => ?_)
       refine rVal (v' := .slice ay10 ny10 cy10) rfl ?_
       refine callP (v := .bool true) Try.call18 trv rfl rfl (fun w hs => laws_eqInt64S_c _ ny6 cy6 _ _ ny10 cy10 _ w (OwnI.rd (hs.at_ 3 rfl)) (OwnI.rd (hs.at_ 0 rfl)) (by first | rfl | assumption | (rw [heq]) | (simp only [*]))) ?_
       refine not rfl rfl rfl ?_
       refine rNil ?_
       refine qSeq rfl ?_
       refine hIfF rfl ?_
       refine hSkip ?_
       refine qSeq rfl ?_
       refine hSeq ?_
       refine hSeq ?_
       refine hReg (sq 0 (sq 1 (sl 2 (sl 3 (sq 4 sz))))) (by kernel_rfl) ?_
       refine mvS rfl rfl rfl ?_
       refine mvS rfl rfl rfl ?_
       refine callS Try.call15 trv1 rfl rfl (fun w hs => laws_toInt64S_c _ nd cd _ w (Kn.drop (k := 8) kd w hs) (by omega)) ?_
       rintro ⟨ay11, ny11, cy11, y11⟩ hr11
       dsimp only at hr11
       subst y11
       refine rPieces (L' := [OwnI 2 ay11 ny11 cy11 d, OwnI 2 ay10 ny10 cy10 q, OwnR maK 23 2 ay9 ny9 cy9 Hy9 z, OwnI 2 ay7 ny7 cy7 d, OwnI 2 ay6 ny6 cy6 q, OwnR maK 23 2 ay5 ny5 cy5 Hy5 z, OwnI 2 ay3 ny3 cy3 d, OwnI 2 ay2 ny2 cy2 q, OwnR maK 23 2 ay1 ny1 cy1 Hy1 z]) (fun _ h => h) ?_
       refine rKnow (fun w hs => (show OwnI 2 ay11 ny11 cy11 d w from hs.at_ 0 rfl).lenz) (fun lenn9 => ?_)
       refine rKnow (fun w hs => (show OwnI 2 ay11 ny11 cy11 d w from hs.at_ 0 rfl).capz) (fun lcpn9 => ?_)
       refine rVal (v' := .slice ay11 ny11 cy11) rfl ?_
       refine callP (v := .bool true) Try.call18 trv rfl rfl (fun w hs => laws_eqInt64S_c _ ny7 cy7 _ _ ny11 cy11 _ w (OwnI.rd (hs.at_ 3 rfl)) (OwnI.rd (hs.at_ 0 rfl)) (by first | rfl | assumption | (rw [heq]) | (simp only [*]))) ?_
       refine not rfl rfl rfl ?_
       refine rNil ?_
       refine qSeq rfl ?_
       refine hIfF rfl ?_
       refine hSkip ?_
       refine qSeq rfl ?_
       refine hSeq ?_
       refine hReg (sq 0 sz) (by kernel_rfl) ?_
       refine asB rfl rfl rfl ?_
       refine rNil ?_
       refine qSeq rfl ?_
       refine hRet ?_
       exact fun w hs => ⟨[.bool true], ⟨rfl, trivial⟩, ⟨by first | rfl | exact bD (by omega) | exact bT (by omega) | exact bF (by omega) | exact vI (by omega), hs.upd⟩⟩
set_option maxHeartbeats 2000000 in
theorem fnExactWinsOf_lifted (os : Os) (started : os.Started) (H : Type) (enc : TypeId × Value → H) :
  ReturnsInHanded {} Try.checked os 10 .any (Rows.fnExactWinsOfSpec.pre6 enc Try.prog Try.f10 Rows.fnExactWinsOfRow.domain false) (Rows.fnExactWinsOfSpec.post enc Try.prog Try.f10 false true false false) := by
 refine returnsInHanded_of_change (C := Try.checked) own started (by kernel_rfl) Try.func10
  (ChangeSpec.witness6 (enc := enc) (C := Try.checked) false ⟨#[], #[.int .i64 0, .slice none 0 0, .slice none 0 0, .slice none 0 0, .int .i64 0], []⟩ 8 (by kernel_rfl) (by kernel_rfl) (by kernel_rfl) (by kernel_rfl)) ?_
 intro W base args ds gs before hval0 hW hcnd _
 have hval : ∀ (j : Nat) t v, Try.f10.params[j]? = some t → args[j]? = some v → Value.okWide Try.prog W .any base t v := hval0
 have hW' := hW
 obtain ⟨p, q, hA0, hV, rfl, hfz, hnd⟩ := hW
 have hA : DataW.TrodAll enc Try.prog W 0 (fun _ => true) true Try.f10.params.toList args.toList ds p := hA0
 rw [Try.params10] at hA hval
 obtain ⟨v0, vs0, d0, ds0, p0, q0, hargs, rfl, rfl, h0, r0⟩ := trodAll_cons hA
 obtain ⟨v1, vs1, d1, ds1, p1, q1, rfl, rfl, rfl, h1, r1⟩ := trodAll_cons r0
 obtain ⟨v2, vs2, d2, ds2, p2, q2, rfl, rfl, rfl, h2, r2⟩ := trodAll_cons r1
 obtain ⟨v3, vs3, d3, ds3, p3, q3, rfl, rfl, rfl, h3, r3⟩ := trodAll_cons r2
 obtain ⟨v4, vs4, d4, ds4, p4, q4, rfl, rfl, rfl, h4, r4⟩ := trodAll_cons r3
 obtain ⟨rfl, rfl, rfl⟩ := trodAll_nil r4
 obtain rfl : args = #[v0, v1, v2, v3, v4] := by cases args; simp_all
 obtain ⟨rfl, rfl⟩ := trodVars_none hV
 obtain ⟨f0, g0⟩ := h0
 obtain ⟨z0_, rfl⟩ := okWide_int Try.underlying2 (hval 0 2 v0 rfl rfl)
 obtain ⟨zq0_0, e0⟩ := inT2 g0
 simp only [Value.cells, List.cons.injEq, Value.int.injEq, and_true, true_and] at e0
 subst z0_
 obtain ⟨f1, g1⟩ := h1
 obtain ⟨a1_, n1_, c1_, rfl⟩ := okWide_slice Try.underlying22 (hval 1 22 v1 rfl rfl)
 obtain ⟨aq1_0, nq1_0, cq1_0, hq1_0, zq1_0, e1, rq1_0⟩ := inT22 g1
 simp only [Value.cells, List.cons.injEq, Value.slice.injEq, and_true, true_and] at e1
 obtain ⟨ea, en, ec⟩ := e1
 subst a1_; subst n1_; subst c1_
 obtain ⟨f2, g2⟩ := h2
 obtain ⟨a2_, n2_, c2_, rfl⟩ := okWide_slice Try.underlying23 (hval 2 23 v2 rfl rfl)
 obtain ⟨aq2_0, nq2_0, cq2_0, zq2_0, e2, rq2_0⟩ := inT23 g2
 simp only [Value.cells, List.cons.injEq, Value.slice.injEq, and_true, true_and] at e2
 obtain ⟨ea, en, ec⟩ := e2
 subst a2_; subst n2_; subst c2_
 obtain ⟨f3, g3⟩ := h3
 obtain ⟨a3_, n3_, c3_, rfl⟩ := okWide_slice Try.underlying23 (hval 3 23 v3 rfl rfl)
 obtain ⟨aq3_0, nq3_0, cq3_0, zq3_0, e3, rq3_0⟩ := inT23 g3
 simp only [Value.cells, List.cons.injEq, Value.slice.injEq, and_true, true_and] at e3
 obtain ⟨ea, en, ec⟩ := e3
 subst a3_; subst n3_; subst c3_
 obtain ⟨f4, g4⟩ := h4
 obtain ⟨z4_, rfl⟩ := okWide_int Try.underlying2 (hval 4 2 v4 rfl rfl)
 obtain ⟨zq4_0, e4⟩ := inT2 g4
 simp only [Value.cells, List.cons.injEq, Value.int.injEq, and_true, true_and] at e4
 subst z4_
 refine (laws_FnExactWinsOf_c zq0_0 aq1_0 nq1_0 cq1_0 hq1_0 zq1_0 aq2_0 nq2_0 cq2_0 zq2_0 aq3_0 nq3_0 cq3_0 zq3_0 zq4_0 W rq1_0 rq2_0 rq3_0).mono fun e W' ⟨v, he, hv, hx⟩ => ?_
 subst he; subst hv
 exact ⟨_, rfl, law_post (tb := 4) hW' rfl rfl Try.underlying4 rfl rfl rfl (by kernel_rfl) hx⟩
theorem fnExactWinsOf_holds : Rows.FnExactWinsOfSaid :=
 OpenClaim.holds_of_wide 10 Try.f10 rfl rfl rfl rfl rfl rfl rfl ⟨rfl, rfl, rfl, rfl, rfl⟩ rfl rfl rfl rfl rfl (by kernel_rfl) Try.func10 (by kernel_rfl)
  (of_decide_eq_true (by kernel_rfl)) (by unfold Func.isWrapper; first | (rw [if_pos (by decide +kernel)]; kernel_rfl) | (rw [if_neg (by decide +kernel)]; exact ⟨rfl, rfl⟩))
  (fun os started H enc _ => fnExactWinsOf_lifted os started H enc)
#print axioms fnExactWinsOf_holds
end Go.Proofs.Yteaahdakammffaa
