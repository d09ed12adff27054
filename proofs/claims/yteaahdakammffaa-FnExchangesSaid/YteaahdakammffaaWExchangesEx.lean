/- The law FnExchanges returns true for all arguments. No condition. -/
import Derived.Test.YteaahdakammffaaZ6Ex
import Derived.Test.YteaahdakammffaaZ1Ex
import Derived.Test.YteaahdakammffaaZ2Ex
import Derived.Test.YteaahdakammffaaZ3Ex
import Derived.Test.YteaahdakammffaaZ4Ex
import Derived.Test.YteaahdakammffaaZ5Ex
import Derived.Test.YteaahdakammffaaRows
namespace Go.Proofs.Yteaahdakammffaa
open Go Go.RowKit V Go.ChangeShapes Go.WideShapes Go.ChangeAt
set_option linter.unusedVariables false
set_option linter.unusedSimpArgs false
set_option maxRecDepth 100000
set_option maxHeartbeats 4000000 in
theorem laws_FnExchanges_c (ca : Option Addr) (bs : List Int) (cc : Nat) (w : World) (rcode : CellsAt ca (bs.map (Value.int .u8)) w) (hb : ∀ n ∈ bs, (Lit.int .u8 n).wf = true) :
  Calls Try.prog 6 #[.slice ca bs.length cc] w (Ret fun v w' => v = .bool true ∧ Ext w w') := by
 have kcode : Kn w none_ [] (CellsAt ca (bs.map (Value.int .u8))) := fun w' hs => rcode.ext hs.upd
 refine fn (M := none_) (rs := [.tmp 2]) Try.func6 rfl Try.ntmps6 rfl rfl (Sep.start _ _) ?_
 refine hSeq ?_
 refine hReg (sq 0 sz) (by kernel_rfl) ?_
 refine asB rfl rfl rfl ?_
 refine rNil ?_
 refine qSeq rfl ?_
 refine hSeq ?_
 refine hSeq ?_
 refine hReg (sq 0 (sl 1 sz)) (by kernel_rfl) ?_
 refine mvS rfl rfl rfl ?_
 refine callP (v := .bool (decide (4096 < ((bs.length : Nat) : Int)))) Try.call19 trv rfl rfl (fun w hs => laws_big_c _ _ cc w (kcode w hs)) ?_
 refine rNil ?_
 refine qSeq rfl ?_
 refine hIfD rfl (fun c1 => ?_) (fun c1 => ?_)
 ·
  replace c1 : 4096 < ((bs.length : Nat) : Int) := c1
  refine hSeq ?_
  refine hReg (sq 0 sz) (by kernel_rfl) ?_
  refine asB rfl rfl rfl ?_
  refine rNil ?_
  refine qSeq rfl ?_
  refine hRet ?_
  exact fun w hs => ⟨[.bool true], ⟨rfl, trivial⟩, ⟨by first | rfl | exact (bT (by omega)).symm, hs.upd⟩⟩
 ·
  replace c1 : ¬ (4096 < ((bs.length : Nat) : Int)) := c1
  have hok : okBytes bs := ⟨fun x hx => bounds_u8 (hb x hx), by omega⟩
  refine hSkip ?_
  refine qSeq rfl ?_
  refine hSeq ?_
  refine hReg (sq 0 (sl 1 (sq 2 sz))) (by kernel_rfl) ?_
  refine mvS rfl rfl rfl ?_
  refine callS Try.call39 trv1 rfl rfl (fun w hs => spec_DrawFixingExchanges_c _ _ cc w (kcode w hs) (by assumption)) ?_
  rintro ⟨ay1, ny1, cy1, Hy1, y1⟩ hr1
  try dsimp only at hr1
  refine rPieces (L' := [OwnR maK 23 2 ay1 ny1 cy1 Hy1 y1]) (fun _ h => h) ?_
  refine rKnow (fun w hs => (show OwnR maK 23 2 ay1 ny1 cy1 Hy1 y1 w from hs.at_ 0 rfl).1) (fun lenn1 => ?_)
  refine rVal (v' := .slice ay1 ny1 cy1) rfl ?_
  refine asS rfl rfl rfl ?_
  refine rNil ?_
  refine qSeq rfl ?_
  refine hSeq ?_
  refine hReg (sq 0 (sl 1 (sq 2 (sq 3 (sq 4 (sq 5 (sq 6 sz))))))) (by kernel_rfl) ?_
  refine mvS rfl rfl rfl ?_
  refine callS Try.call40 trv1 rfl rfl (fun w hs => impl_FixingExchanges_c _ ny1 cy1 _ _ w (OwnR.rd (hs.at_ 0 rfl) maK.ok)) ?_
  rintro ⟨ay2, ny2, cy2, Hy2, y2, q2⟩ ⟨hr2a, hr2b⟩
  dsimp only at hr2a hr2b
  subst y2
  subst q2
  refine rPieces (L' := [RdR maK ay2 ny2 Hy2 (Iso.feY y1), OwnR maK 23 2 ay1 ny1 cy1 Hy1 y1]) (fun _ h => h) ?_
  refine rKnow (fun w hs => (show RdR maK ay2 ny2 Hy2 (Iso.feY y1) w from hs.at_ 0 rfl).1) (fun lenn2 => ?_)
  refine rVal (v' := .tuple #[.slice ay2 ny2 cy2, .int .i64 (Iso.codeS y1)]) rfl ?_
  refine mv rfl rfl rfl ?_
  refine ext rfl rfl rfl rfl ?_
  refine ext rfl rfl rfl rfl ?_
  refine asS rfl rfl rfl ?_
  refine asI rfl rfl rfl ?_
  refine rNil ?_
  refine qSeq rfl ?_
  refine hSeq ?_
  refine hReg (sq 0 (sl 1 (sq 2 (sq 3 (sq 4 (sq 5 (sq 6 sz))))))) (by kernel_rfl) ?_
  refine mvS rfl rfl rfl ?_
  refine callS Try.call41 trv1 rfl rfl (fun w hs => spec_FixingExchanges_c _ ny1 cy1 _ _ w (OwnR.rd (hs.at_ 1 rfl) maK.ok)) ?_
  rintro ⟨ay3, ny3, cy3, Hy3, y3, q3⟩ ⟨hr3a, hr3b⟩
  dsimp only at hr3a hr3b
  subst y3
  subst q3
  refine rPieces (L' := [RdR maK ay3 ny3 Hy3 (Iso.feY y1), RdR maK ay2 ny2 Hy2 (Iso.feY y1), OwnR maK 23 2 ay1 ny1 cy1 Hy1 y1]) (fun _ h => h) ?_
  refine rKnow (fun w hs => (show RdR maK ay3 ny3 Hy3 (Iso.feY y1) w from hs.at_ 0 rfl).1) (fun lenn3 => ?_)
  refine rVal (v' := .tuple #[.slice ay3 ny3 cy3, .int .i64 (Iso.codeS y1)]) rfl ?_
  refine mv rfl rfl rfl ?_
  refine ext rfl rfl rfl rfl ?_
  refine ext rfl rfl rfl rfl ?_
  refine asS rfl rfl rfl ?_
  refine asI rfl rfl rfl ?_
  refine rNil ?_
  refine qSeq rfl ?_
  refine hSeq ?_
  refine hReg (sq 0 (sl 1 (sq 2 (sq 3 (sq 4 (sq 5 (sq 6 sz))))))) (by kernel_rfl) ?_
  refine mvS rfl rfl rfl ?_
  refine callS Try.call42 trv1 rfl rfl (fun w hs => spec_DrawExchangeCards_c _ _ cc w (Kn.drop (k := 3) kcode w hs) (by assumption)) ?_
  rintro ⟨ay4, ny4, cy4, y4, au4, nu4, cu4, u4⟩ hr4
  try dsimp only at hr4
  refine rPieces (L' := [OwnI 2 ay4 ny4 cy4 y4, OwnI 2 au4 nu4 cu4 u4, RdR maK ay3 ny3 Hy3 (Iso.feY y1), RdR maK ay2 ny2 Hy2 (Iso.feY y1), OwnR maK 23 2 ay1 ny1 cy1 Hy1 y1]) (fun _ h => h) ?_
  refine rKnow (fun w hs => (show OwnI 2 ay4 ny4 cy4 y4 w from hs.at_ 0 rfl).lenz) (fun lenn4 => ?_)
  refine rKnow (fun w hs => (show OwnI 2 au4 nu4 cu4 u4 w from hs.at_ 1 rfl).lenz) (fun lenn5 => ?_)
  refine rVal (v' := .tuple #[.slice ay4 ny4 cy4, .slice au4 nu4 cu4]) rfl ?_
  refine mv rfl rfl rfl ?_
  refine ext rfl rfl rfl rfl ?_
  refine ext rfl rfl rfl rfl ?_
  refine asS rfl rfl rfl ?_
  refine asS rfl rfl rfl ?_
  refine rNil ?_
  refine qSeq rfl ?_
  refine hSeq ?_
  refine hReg (sq 0 (sq 1 (sl 2 (sq 3 (sq 4 (sq 5 (sq 6 (sq 7 sz)))))))) (by kernel_rfl) ?_
  refine mvS rfl rfl rfl ?_
  refine mvS rfl rfl rfl ?_
  refine callS Try.call38 trv1 rfl rfl (fun w hs => impl_ExchangeCards_c _ ny4 cy4 _ _ nu4 cu4 _ w (OwnI.rd (hs.at_ 0 rfl)) (OwnI.rd (hs.at_ 1 rfl))) ?_
  rintro ⟨ay5, ny5, cy5, y5, q5⟩ ⟨hr5a, hr5b⟩
  dsimp only at hr5a hr5b
  subst y5
  subst q5
  refine rPieces (L' := [OwnI 2 ay5 ny5 cy5 (Iso.exY y4 u4), OwnI 2 ay4 ny4 cy4 y4, OwnI 2 au4 nu4 cu4 u4, RdR maK ay3 ny3 Hy3 (Iso.feY y1), RdR maK ay2 ny2 Hy2 (Iso.feY y1), OwnR maK 23 2 ay1 ny1 cy1 Hy1 y1]) (fun _ h => h) ?_
  refine rKnow (fun w hs => (show OwnI 2 ay5 ny5 cy5 (Iso.exY y4 u4) w from hs.at_ 0 rfl).lenz) (fun lenn6 => ?_)
  refine rVal (v' := .tuple #[.slice ay5 ny5 cy5, .int .i64 (Iso.exE y4 u4)]) rfl ?_
  refine mv rfl rfl rfl ?_
  refine ext rfl rfl rfl rfl ?_
  refine ext rfl rfl rfl rfl ?_
  refine asS rfl rfl rfl ?_
  refine asI rfl rfl rfl ?_
  refine rNil ?_
  refine qSeq rfl ?_
  refine hSeq ?_
  refine hReg (sq 0 (sq 1 (sl 2 (sq 3 (sq 4 (sq 5 (sq 6 (sq 7 sz)))))))) (by kernel_rfl) ?_
  refine mvS rfl rfl rfl ?_
  refine mvS rfl rfl rfl ?_
  refine callS Try.call43 trv1 rfl rfl (fun w hs => spec_ExchangeCards_c _ ny4 cy4 _ _ nu4 cu4 _ w (OwnI.rd (hs.at_ 1 rfl)) (OwnI.rd (hs.at_ 2 rfl)) (by omega)) ?_
  rintro ⟨ay6, ny6, cy6, y6, q6⟩ ⟨hr6a, hr6b⟩
  dsimp only at hr6a hr6b
  subst y6
  subst q6
  refine rPieces (L' := [OwnI 2 ay6 ny6 cy6 (Iso.exY y4 u4), OwnI 2 ay5 ny5 cy5 (Iso.exY y4 u4), OwnI 2 ay4 ny4 cy4 y4, OwnI 2 au4 nu4 cu4 u4, RdR maK ay3 ny3 Hy3 (Iso.feY y1), RdR maK ay2 ny2 Hy2 (Iso.feY y1), OwnR maK 23 2 ay1 ny1 cy1 Hy1 y1]) (fun _ h => h) ?_
  refine rKnow (fun w hs => (show OwnI 2 ay6 ny6 cy6 (Iso.exY y4 u4) w from hs.at_ 0 rfl).lenz) (fun lenn7 => ?_)
  refine rVal (v' := .tuple #[.slice ay6 ny6 cy6, .int .i64 (Iso.exE y4 u4)]) rfl ?_
  refine mv rfl rfl rfl ?_
  refine ext rfl rfl rfl rfl ?_
  refine ext rfl rfl rfl rfl ?_
  refine asS rfl rfl rfl ?_
  refine asI rfl rfl rfl ?_
  refine rNil ?_
  refine qSeq rfl ?_
  refine hSeq ?_
  refine hSeq ?_
  refine hReg (sq 0 (sq 1 (sq 2 (sq 3 (sq 4 (sq 5 (sl 6 (sq 7 (sq 8 (sq 9 (sq 10 (sq 11 (sq 12 (sq 13 (sq 14 (sq 15 (sq 16 (sl 17 (sq 18 (sq 19 sz)))))))))))))))))))) (by kernel_rfl) ?_
  refine mvI rfl rfl rfl ?_
  refine mvI rfl rfl rfl ?_
  refine neq rfl rfl rfl rfl ?_
  refine mvB rfl rfl rfl ?_
  refine rBoolD (d := 53) rfl (fun g2 => ?_) (fun g2 => ?_)
  ·
   replace g2 : (Iso.codeS y1) ≠ (Iso.codeS y1) := g2
   exact absurd rfl g2
  ·
   replace g2 : ¬ ((Iso.codeS y1) ≠ (Iso.codeS y1)) := g2
   refine mvS rfl rfl rfl ?_
   refine mvS rfl rfl rfl ?_
   refine callP (v := .bool true) Try.call44 trv rfl rfl (fun w hs => laws_likeLists_c _ ny2 cy2 _ _ _ ny3 cy3 _ _ w (hs.at_ 5 rfl) (hs.at_ 4 rfl) (by first | rfl | assumption | (rw [heq]) | (simp only [*]))) ?_
   refine not rfl rfl rfl ?_
   refine pickB rfl rfl rfl rfl ?_
   refine mvB rfl rfl rfl ?_
   refine mvI rfl rfl rfl ?_
   refine mvI rfl rfl rfl ?_
   refine neq rfl rfl rfl rfl ?_
   refine pickB rfl rfl rfl rfl ?_
   refine mvB rfl rfl rfl ?_
   refine rBoolD (d := 64) rfl (fun g3 => ?_) (fun g3 => ?_)
   ·
    replace g3 : (Iso.exE y4 u4) ≠ (Iso.exE y4 u4) := g3
    exact absurd rfl g3
   ·
    replace g3 : ¬ ((Iso.exE y4 u4) ≠ (Iso.exE y4 u4)) := g3
    refine mvS rfl rfl rfl ?_
    refine mvS rfl rfl rfl ?_
    refine callP (v := .bool true) Try.call23 trv rfl rfl (fun w hs => laws_likeInts_c _ ny5 cy5 _ _ ny6 cy6 _ w (OwnI.rd (hs.at_ 1 rfl)) (OwnI.rd (hs.at_ 0 rfl)) (by first | rfl | assumption | (rw [heq]) | (simp only [*]))) ?_
    refine not rfl rfl rfl ?_
    refine pickB rfl rfl rfl rfl ?_
    refine rNil ?_
    refine qSeq rfl ?_
    refine hIfF rfl ?_
    refine hSkip ?_
    refine qSeq rfl ?_
    refine hSeq ?_
    refine hSeq ?_
    refine hReg (sq 0 (sq 1 sz)) (by kernel_rfl) ?_
    refine mvI rfl rfl rfl ?_
    refine neq rfl rfl rfl rfl ?_
    refine rNil ?_
    refine qSeq rfl ?_
    refine hIfD rfl (fun c4 => ?_) (fun c4 => ?_)
    ·
     replace c4 : (Iso.codeS y1) ≠ 0 := c4
     refine hSeq ?_
     refine hReg (sq 0 sz) (by kernel_rfl) ?_
     refine asB rfl rfl rfl ?_
     refine rNil ?_
     refine qSeq rfl ?_
     refine hRet ?_
     exact fun w hs => ⟨[.bool true], ⟨rfl, trivial⟩, ⟨by first | rfl | exact (bT (by omega)).symm, hs.upd⟩⟩
    ·
     replace c4 : ¬ ((Iso.codeS y1) ≠ 0) := c4
     have hc0 : Iso.codeS y1 = 0 := by simpa using c4
     have h24 := Iso.fe_24 hc0
     refine hSkip ?_
     refine qSeq rfl ?_
     refine hSeq ?_
     refine hSeq ?_
     refine hReg (sq 0 sz) (by kernel_rfl) ?_
     refine asI rfl rfl rfl ?_
     refine rNil ?_
     refine qSeq rfl ?_
     refine hBlk ?_
     refine hLoop (α := Nat) (fun i => i ≤ ny2) (fun i => ny2 - i) (fun i => [OwnI 2 ay6 ny6 cy6 (Iso.exY y4 u4), OwnI 2 ay5 ny5 cy5 (Iso.exY y4 u4), OwnI 2 ay4 ny4 cy4 y4, OwnI 2 au4 nu4 cu4 u4, RdR maK ay3 ny3 Hy3 (Iso.feY y1), RdR maK ay2 ny2 Hy2 (Iso.feY y1), OwnR maK 23 2 ay1 ny1 cy1 Hy1 y1]) (fun i => [(3, .slice ay1 ny1 cy1), (4, .slice ay2 ny2 cy2), (14, .int .i64 (i : Int))]) 0 (Nat.zero_le _) (fun _ h => h.pick [0, 0, 0, 0, 0, 0, 0]) ⟨rfl, rfl, rfl, trivial⟩ ?_
     rintro i τ1 hi
     refine hSeq ?_
     refine hSeq ?_
     refine hReg (sq 0 (sq 1 (sq 2 (sq 3 sz)))) (by kernel_rfl) ?_
     refine mvI rfl rfl rfl ?_
     refine mvS rfl rfl rfl ?_
     refine lenS Try.runUnderlying22 rfl rfl rfl ?_
     refine lss rfl rfl rfl rfl ?_
     refine rNil ?_
     refine qSeq rfl ?_
     refine hIfD rfl (fun c5 => ?_) (fun c5 => ?_)
     ·
      replace c5 : (i : Int) < (ny2 : Int) := c5
      refine hSkip ?_
      refine qSeq rfl ?_
      refine hSeq ?_
      refine hBlk ?_
      refine hSeq ?_
      refine hReg (sq 0 sz) (by kernel_rfl) ?_
      refine asI rfl rfl rfl ?_
      refine rNil ?_
      refine qSeq rfl ?_
      refine hBlk ?_
      refine hLoop (α := Nat) (fun k => k ≤ ny1) (fun k => ny1 - k) (fun k => [OwnI 2 ay6 ny6 cy6 (Iso.exY y4 u4), OwnI 2 ay5 ny5 cy5 (Iso.exY y4 u4), OwnI 2 ay4 ny4 cy4 y4, OwnI 2 au4 nu4 cu4 u4, RdR maK ay3 ny3 Hy3 (Iso.feY y1), RdR maK ay2 ny2 Hy2 (Iso.feY y1), OwnR maK 23 2 ay1 ny1 cy1 Hy1 y1]) (fun k => [(3, .slice ay1 ny1 cy1), (4, .slice ay2 ny2 cy2), (14, .int .i64 (i : Int)), (15, .int .i64 (k : Int))]) 0 (Nat.zero_le _) (fun _ h => h.pick [0, 0, 0, 0, 0, 0, 0]) ⟨rfl, rfl, rfl, rfl, trivial⟩ ?_
      rintro k τ2 hk
      refine hSeq ?_
      refine hSeq ?_
      refine hReg (sq 0 (sq 1 (sq 2 (sq 3 sz)))) (by kernel_rfl) ?_
      refine mvI rfl rfl rfl ?_
      refine mvS rfl rfl rfl ?_
      refine lenS Try.runUnderlying22 rfl rfl rfl ?_
      refine lss rfl rfl rfl rfl ?_
      refine rNil ?_
      refine qSeq rfl ?_
      refine hIfD rfl (fun c6 => ?_) (fun c6 => ?_)
      ·
       replace c6 : (k : Int) < (ny1 : Int) := c6
       have hfe := Iso.fe_ex (z := y1) (i := i) (k := k) hc0 (by omega) (by omega)
       have hpl := Iso.areP_len (Iso.codeS_at hc0 (show k < y1.length by omega))
       refine hSkip ?_
       refine qSeq rfl ?_
       refine hSeq ?_
       refine hBlk ?_
       refine hSeq ?_
       refine hDraw (Ls := [OwnI 2 ay6 ny6 cy6 (Iso.exY y4 u4), OwnI 2 ay5 ny5 cy5 (Iso.exY y4 u4), OwnI 2 ay4 ny4 cy4 y4, OwnI 2 au4 nu4 cu4 u4, RdR maK ay3 ny3 Hy3 (Iso.feY y1), RdR maK ay2 ny2 Hy2 (Iso.feY y1), OwnR maK 23 2 ay1 ny1 cy1 Hy1 y1]) (by kernel_rfl) (sq 0 (sq 1 (sq 2 (sq 3 (sq 4 (sq 5 (sq 6 (sq 7 (sl 8 (sq 9 (sq 10 (sq 11 (sq 12 (sq 13 sz)))))))))))))) (by kernel_rfl) (.cons_cons _ (.cons_cons _ (.cons_cons _ (.cons_cons _ (.cons_cons _ (.cons_cons _ (.cons_cons _ .slnil))))))) ?_
       refine mvS rfl rfl rfl ?_
       refine mvI rfl rfl rfl ?_
       refine ixRq (zn := k) (y1.getD k []) el22 ((Kn.at_ 6 rfl).imp fun _ h => OwnR.rd h maK.ok) (fun _ h => h.pick [0, 0, 0, 0, 0, 0, 0]) rfl rfl rfl rfl (by omega) (by omega) rfl (nth [] (by omega)) ?_
       intro be7 oe7 e7
       refine ldq Try.isAgg23 (Kn.fld e7 0 rfl) rfl rfl rfl ?_
       refine mvS rfl rfl rfl ?_
       refine mvI rfl rfl rfl ?_
       refine ixRq (zn := i) ((Iso.feY y1).getD i []) el22 (Kn.at_ 5 rfl) (fun _ h => h.pick [0, 0, 0, 0, 0, 0, 0]) rfl rfl rfl rfl (by omega) (by omega) rfl (nth [] (by omega)) ?_
       intro be8 oe8 e8
       refine ldq Try.isAgg23 (Kn.fld e8 0 rfl) rfl rfl rfl ?_
       refine callS Try.call38 (by exact (fun _ _ h => h.pick [1, 1, 1, 1, 1, 1, 1])) rfl rfl (fun w hs => impl_ExchangeCards_c _ ((y1.getD k []).length) ((Hy1 k).2) _ _ (((Iso.feY y1).getD i []).length) ((Hy2 i).2) _ w ((Kn.imp ((Kn.at_ (φ := OwnR maK 23 2 ay1 ny1 cy1 Hy1 y1) 6 rfl).imp fun _ h => OwnR.rd h maK.ok) fun _ h => h.kidM (nth [] (by omega))) w hs) ((Kn.imp (Kn.at_ 5 rfl) fun _ h => h.kidM (nth [] (by omega))) w hs)) ?_
       rintro ⟨ay9, ny9, cy9, y9, q9⟩ ⟨hr9a, hr9b⟩
       dsimp only at hr9a hr9b
       subst y9
       subst q9
       refine rPieces (L' := [OwnI 2 ay9 ny9 cy9 (((Iso.exY (y1.getD k []) (((Iso.feY y1).getD i []))))), OwnI 2 ay6 ny6 cy6 (Iso.exY y4 u4), OwnI 2 ay5 ny5 cy5 (Iso.exY y4 u4), OwnI 2 ay4 ny4 cy4 y4, OwnI 2 au4 nu4 cu4 u4, RdR maK ay3 ny3 Hy3 (Iso.feY y1), RdR maK ay2 ny2 Hy2 (Iso.feY y1), OwnR maK 23 2 ay1 ny1 cy1 Hy1 y1]) (fun _ h => h) ?_
       refine rKnow (fun w hs => (show OwnI 2 ay9 ny9 cy9 (((Iso.exY (y1.getD k []) (((Iso.feY y1).getD i []))))) w from hs.at_ 0 rfl).lenz) (fun lenn8 => ?_)
       refine rVal (v' := .tuple #[.slice ay9 ny9 cy9, .int .i64 (((Iso.exE (y1.getD k []) (((Iso.feY y1).getD i [])))))]) rfl ?_
       refine mv rfl rfl rfl ?_
       refine ext rfl rfl rfl rfl ?_
       refine ext rfl rfl rfl rfl ?_
       refine asS rfl rfl rfl ?_
       refine asI rfl rfl rfl ?_
       refine rNil ?_
       refine qSeq rfl ?_
       refine hSeq ?_
       refine hSeq ?_
       refine hReg (sq 0 (sq 1 (sq 2 (sq 3 (sq 4 (sq 5 (sq 6 (sq 7 (sl 8 (sq 9 (sq 10 (sq 11 sz)))))))))))) (by kernel_rfl) ?_
       refine mvI rfl rfl rfl ?_
       refine neq rfl rfl rfl rfl ?_
       refine mvB rfl rfl rfl ?_
       refine rBoolD (d := 98) rfl (fun g7 => ?_) (fun g7 => ?_)
       ·
        replace g7 : ((Iso.exE (y1.getD k []) (((Iso.feY y1).getD i [])))) ≠ 0 := g7
        exact absurd hfe.1 g7
       ·
        replace g7 : ¬ (((Iso.exE (y1.getD k []) (((Iso.feY y1).getD i [])))) ≠ 0) := g7
        refine mvS rfl rfl rfl ?_
        refine lenS Try.runUnderlying23 rfl rfl rfl ?_
        refine mvS rfl rfl rfl ?_
        refine mvI rfl rfl rfl ?_
        refine ixRl (zn := k) (y1.getD k []) el22 ((Kn.at_ 7 rfl).imp fun _ h => OwnR.rd h maK.ok) rfl rfl rfl rfl (by omega) (by omega) rfl (nth [] (by omega)) ?_
        intro be10 oe10 e10
        refine ldl Try.isAgg23 (Kn.fld e10 0 rfl) trv rfl rfl rfl ?_
        refine lenS Try.runUnderlying23 rfl rfl rfl ?_
        refine neq rfl rfl rfl rfl ?_
        refine pickB rfl rfl rfl rfl ?_
        refine rNil ?_
        refine qSeq rfl ?_
        refine hIfD rfl (fun c8 => ?_) (fun c8 => ?_)
        ·
         replace c8 : (ny9 : Int) ≠ (((y1.getD k []).length : Nat) : Int) := c8
         exact absurd (by have := hfe.2.1; omega) c8
        ·
         replace c8 : ¬ ((ny9 : Int) ≠ (((y1.getD k []).length : Nat) : Int)) := c8
         refine hSkip ?_
         refine qSeq rfl ?_
         refine hSeq ?_
         refine hReg (sq 0 sz) (by kernel_rfl) ?_
         refine asI rfl rfl rfl ?_
         refine rNil ?_
         refine qSeq rfl ?_
         refine hBlk ?_
         refine hLoop (α := Nat) (fun j => j ≤ ny9) (fun j => ny9 - j) (fun j => [OwnI 2 ay9 ny9 cy9 (((Iso.exY (y1.getD k []) (((Iso.feY y1).getD i []))))), OwnI 2 ay6 ny6 cy6 (Iso.exY y4 u4), OwnI 2 ay5 ny5 cy5 (Iso.exY y4 u4), OwnI 2 ay4 ny4 cy4 y4, OwnI 2 au4 nu4 cu4 u4, RdR maK ay3 ny3 Hy3 (Iso.feY y1), RdR maK ay2 ny2 Hy2 (Iso.feY y1), OwnR maK 23 2 ay1 ny1 cy1 Hy1 y1]) (fun j => [(3, .slice ay1 ny1 cy1), (4, .slice ay2 ny2 cy2), (14, .int .i64 (i : Int)), (15, .int .i64 (k : Int)), (16, .slice ay9 ny9 cy9), (18, .int .i64 (j : Int))]) 0 (Nat.zero_le _) (fun _ h => h.pick [0, 0, 0, 0, 0, 0, 0, 0]) ⟨rfl, rfl, rfl, rfl, rfl, rfl, trivial⟩ ?_
         rintro j τ3 hj
         refine hSeq ?_
         refine hSeq ?_
         refine hReg (sq 0 (sq 1 (sq 2 (sq 3 sz)))) (by kernel_rfl) ?_
         refine mvI rfl rfl rfl ?_
         refine mvS rfl rfl rfl ?_
         refine lenS Try.runUnderlying23 rfl rfl rfl ?_
         refine lss rfl rfl rfl rfl ?_
         refine rNil ?_
         refine qSeq rfl ?_
         refine hIfD rfl (fun c9 => ?_) (fun c9 => ?_)
         ·
          replace c9 : (j : Int) < (ny9 : Int) := c9
          refine hSkip ?_
          refine qSeq rfl ?_
          refine hSeq ?_
          refine hBlk ?_
          refine hSeq ?_
          refine hDraw (Ls := [OwnI 2 ay9 ny9 cy9 (((Iso.exY (y1.getD k []) (((Iso.feY y1).getD i []))))), OwnI 2 ay6 ny6 cy6 (Iso.exY y4 u4), OwnI 2 ay5 ny5 cy5 (Iso.exY y4 u4), OwnI 2 ay4 ny4 cy4 y4, OwnI 2 au4 nu4 cu4 u4, RdR maK ay3 ny3 Hy3 (Iso.feY y1), RdR maK ay2 ny2 Hy2 (Iso.feY y1), OwnR maK 23 2 ay1 ny1 cy1 Hy1 y1]) (by kernel_rfl) (sq 0 (sq 1 (sq 2 (sq 3 (sq 4 (sq 5 (sq 6 (sq 7 (sl 8 (sq 9 sz)))))))))) (by kernel_rfl) (.cons_cons _ (.cons_cons _ (.cons_cons _ (.cons_cons _ (.cons_cons _ (.cons_cons _ (.cons_cons _ (.cons_cons _ .slnil)))))))) ?_
          refine mvS rfl rfl rfl ?_
          refine mvI rfl rfl rfl ?_
          refine ixRq (zn := k) (y1.getD k []) el22 ((Kn.at_ 7 rfl).imp fun _ h => OwnR.rd h maK.ok) (fun _ h => h.pick [0, 0, 0, 0, 0, 0, 0, 0]) rfl rfl rfl rfl (by omega) (by omega) rfl (nth [] (by omega)) ?_
          intro be11 oe11 e11
          refine ldq Try.isAgg23 (Kn.fld e11 0 rfl) rfl rfl rfl ?_
          refine mvS rfl rfl rfl ?_
          refine mvI rfl rfl rfl ?_
          refine ixIq (zn := j) el23 ((Kn.at_ 0 rfl).imp fun _ h => OwnI.rd h) (fun _ h => h.pick [0, 0, 0, 0, 0, 0, 0, 0]) rfl rfl rfl rfl (by omega) (by omega) rfl ?_
          intro ae12 e12
          refine ldq Try.isAgg2 (e12) rfl rfl rfl ?_
          refine callP (v := .bool (((y1.getD k []).contains (((((Iso.exY (y1.getD k []) (((Iso.feY y1).getD i []))))).getD j 0))))) Try.call29 (fun _ h => h.pick [0, 0, 0, 0, 0, 0, 0, 0]) rfl rfl (fun w hs => laws_hasInt_c _ ((y1.getD k []).length) ((Hy1 k).2) _ _ w ((Kn.imp ((Kn.at_ (φ := OwnR maK 23 2 ay1 ny1 cy1 Hy1 y1) 7 rfl).imp fun _ h => OwnR.rd h maK.ok) fun _ h => h.kidM (nth [] (by omega))) w hs)) ?_
          refine not rfl rfl rfl ?_
          refine rNil ?_
          refine qSeq rfl ?_
          refine hIfN rfl (fun c10 => ?_) (fun c10 => ?_)
          ·
           replace c10 : ((y1.getD k []).contains (((((Iso.exY (y1.getD k []) (((Iso.feY y1).getD i []))))).getD j 0))) = false := c10
           exact absurd (hfe.2.2 j (by omega)) (by rw [c10]; decide)
          ·
           replace c10 : ((y1.getD k []).contains (((((Iso.exY (y1.getD k []) (((Iso.feY y1).getD i []))))).getD j 0))) = true := c10
           refine hSkip ?_
           refine qSeq rfl ?_
           refine hReg (sq 0 (sq 1 (sq 2 sz))) (by kernel_rfl) ?_
           refine mvI rfl rfl rfl ?_
           refine add rfl rfl rfl rfl (by first | omega | (dsimp only; omega)) ?_
           refine asI rfl rfl rfl ?_
           refine rNil ?_
           exact qNext rfl (j + 1) (by omega) (by omega) ⟨rfl, rfl, rfl, rfl, rfl, rfl, trivial⟩ (fun _ h => h.pick [0, 0, 0, 0, 0, 0, 0, 0])
         ·
          replace c9 : ¬ ((j : Int) < (ny9 : Int)) := c9
          refine hExit rfl ?_
          refine qSeq rfl ?_
          refine hReg (sq 0 (sq 1 (sq 2 sz))) (by kernel_rfl) ?_
          refine mvI rfl rfl rfl ?_
          refine add rfl rfl rfl rfl (by first | omega | (dsimp only; omega)) ?_
          refine asI rfl rfl rfl ?_
          refine rNil ?_
          exact qNext rfl (k + 1) (by omega) (by omega) ⟨rfl, rfl, rfl, rfl, trivial⟩ (fun _ h => h.pick [1, 1, 1, 1, 1, 1, 1])
      ·
       replace c6 : ¬ ((k : Int) < (ny1 : Int)) := c6
       refine hExit rfl ?_
       refine qSeq rfl ?_
       refine hReg (sq 0 (sq 1 (sq 2 sz))) (by kernel_rfl) ?_
       refine mvI rfl rfl rfl ?_
       refine add rfl rfl rfl rfl (by first | omega | (dsimp only; omega)) ?_
       refine asI rfl rfl rfl ?_
       refine rNil ?_
       exact qNext rfl (i + 1) (by omega) (by omega) ⟨rfl, rfl, rfl, trivial⟩ (fun _ h => h.pick [0, 0, 0, 0, 0, 0, 0])
     ·
      replace c5 : ¬ ((i : Int) < (ny2 : Int)) := c5
      refine hExit rfl ?_
      refine qSeq rfl ?_
      refine hSeq ?_
      refine hReg (sq 0 (sq 1 (sq 2 (sq 3 (sq 4 (sq 5 (sq 6 (sq 7 (sq 8 (sq 9 sz)))))))))) (by kernel_rfl) ?_
      refine mvS rfl rfl rfl ?_
      refine lenS Try.runUnderlying22 rfl rfl rfl ?_
      refine gtr rfl rfl rfl rfl ?_
      refine mvB rfl rfl rfl ?_
      refine rBoolD (d := 127) rfl (fun g11 => ?_) (fun g11 => ?_)
      ·
       replace g11 : 0 < (ny2 : Int) := g11
       refine mvS rfl rfl rfl ?_
       refine lenS Try.runUnderlying22 rfl rfl rfl ?_
       refine rem rfl rfl rfl rfl (by first | omega | (dsimp only; omega)) ?_
       refine eql rfl rfl rfl rfl ?_
       refine pickB rfl rfl rfl rfl ?_
       refine asB rfl rfl rfl ?_
       refine rNil ?_
       refine qSeq rfl ?_
       refine hRet ?_
       exact fun w hs => ⟨[.bool (decide ((24 % (ny2 : Int)) = 0))], ⟨rfl, trivial⟩, ⟨(bT (Iso.mod24 (by have h := h24.2.1; rwa [show (Iso.feY y1).length = ny2 by omega] at h))).symm, hs.upd⟩⟩
      ·
       replace g11 : ¬ (0 < (ny2 : Int)) := g11
       exact absurd (by omega) g11
theorem cells5 : Try.prog.cellsOf 5 = 1 := by kernel_rfl
set_option maxHeartbeats 2000000 in
theorem fnExchanges_lifted (os : Os) (started : os.Started) (H : Type) (enc : TypeId × Value → H) :
  ReturnsInHanded {} Try.checked os 6 .any (Rows.fnExchangesSpec.pre6 enc Try.prog Try.f6 Rows.fnExchangesRow.domain false) (Rows.fnExchangesSpec.post enc Try.prog Try.f6 false true false false) := by
 refine returnsInHanded_of_change (C := Try.checked) own started (by kernel_rfl) Try.func6
  (ChangeSpec.witness6 (enc := enc) (C := Try.checked) false ⟨#[], #[.slice none 0 0], []⟩ 8 (by kernel_rfl) (by kernel_rfl) (by kernel_rfl) (by kernel_rfl)) ?_
 intro W base args ds gs before hval0 hW hcnd _
 have hval : ∀ (j : Nat) t v, Try.f6.params[j]? = some t → args[j]? = some v → Value.okWide Try.prog W .any base t v := hval0
 have hW' := hW
 obtain ⟨p, q, hA0, hV, rfl, hfz, hnd⟩ := hW
 have hA : DataW.TrodAll enc Try.prog W 0 (fun _ => true) true Try.f6.params.toList args.toList ds p := hA0
 rw [Try.params6] at hA hval
 obtain ⟨v0, vs0, d0, ds0, p0, q0, hargs, rfl, rfl, h0, r0⟩ := trodAll_cons hA
 obtain ⟨rfl, rfl, rfl⟩ := trodAll_nil r0
 obtain rfl : args = #[v0] := by cases args; simp_all
 obtain ⟨rfl, rfl⟩ := trodVars_none hV
 obtain ⟨ca, bs, cc, rfl, hwf, hmax, hca⟩ := open_slice_ints Try.underlying32 Try.underlying5 cells5 (hval 0 32 v0 rfl rfl) h0
 refine (laws_FnExchanges_c ca bs cc W hca hwf).mono fun e W' ⟨v, he, hv, hx⟩ => ?_
 subst he; subst hv
 exact ⟨_, rfl, law_post (tb := 4) hW' rfl rfl Try.underlying4 rfl rfl rfl (by kernel_rfl) hx⟩
theorem fnExchanges_holds : Rows.FnExchangesSaid :=
 OpenClaim.holds_of_wide 6 Try.f6 rfl rfl rfl rfl rfl rfl rfl ⟨rfl, rfl, rfl, rfl, rfl⟩ rfl rfl rfl rfl rfl (by kernel_rfl) Try.func6 (by kernel_rfl)
  (of_decide_eq_true (by kernel_rfl)) (by unfold Func.isWrapper; first | (rw [if_pos (by decide +kernel)]; kernel_rfl) | (rw [if_neg (by decide +kernel)]; exact ⟨rfl, rfl⟩))
  (fun os started H enc _ => fnExchanges_lifted os started H enc)
#print axioms fnExchanges_holds
end Go.Proofs.Yteaahdakammffaa
