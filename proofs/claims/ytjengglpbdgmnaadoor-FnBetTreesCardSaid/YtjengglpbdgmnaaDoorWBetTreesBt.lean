/- The law FnBetTrees returns true for all arguments. No condition but what the card ties. -/
import Derived.Test.YtjengglpbdgmnaaDoorZ9Bt
import Derived.Test.YtjengglpbdgmnaaDoorZ1Bt
import Derived.Test.YtjengglpbdgmnaaDoorZ2Bt
import Derived.Test.YtjengglpbdgmnaaDoorZ3Bt
import Derived.Test.YtjengglpbdgmnaaDoorZ4Bt
import Derived.Test.YtjengglpbdgmnaaDoorZ5Bt
import Derived.Test.YtjengglpbdgmnaaDoorZ6Bt
import Derived.Test.YtjengglpbdgmnaaDoorZ7Bt
import Derived.Test.YtjengglpbdgmnaaDoorZ8Bt
import Derived.Test.YtjengglpbdgmnaaDoorRows
import Derived.Test.YtjengglpbdgmnaaDoorCards
import Derived.Test.YtjengglpbdgmnaaDoorTie
import Derived.SevenTiedAt
import Derived.LaidMore
import Derived.Lay
import Derived.Stop.Joined
namespace Go.Proofs.YtjengglpbdgmnaaDoor
open Go Go.RowKit V Go.ChangeShapes Go.WideShapes Go.ChangeAt
set_option linter.unusedVariables false
set_option linter.unusedSimpArgs false
set_option maxRecDepth 100000
set_option maxHeartbeats 4000000 in
theorem laws_FnBetTrees_c (ca : Option Addr) (bs : List Int) (cc : Nat) (w : World) (rcode : CellsAt ca (bs.map (Value.int .u8)) w) (rtab : TabP w) (hb : ∀ n ∈ bs, (Lit.int .u8 n).wf = true) :
  Calls Tryd.prog 4 #[.slice ca bs.length cc] w (Ret fun v w' => v = .bool true ∧ Ext w w') := by
 have kcode : Kn w none_ [] (CellsAt ca (bs.map (Value.int .u8))) := fun w' hs => rcode.ext hs.upd
 have ktab : Kn w none_ [] (TabP) := fun w' hs => rtab.ext hs.upd
 refine fn (M := none_) (rs := [.tmp 2]) Tryd.func4 rfl Tryd.ntmps4 rfl rfl (Sep.start _ _) ?_
 refine hSeq ?_
 refine hReg (sq 0 sz) (by kernel_rfl) ?_
 refine asB rfl rfl rfl ?_
 refine rNil ?_
 refine qSeq rfl ?_
 refine hSeq ?_
 refine hSeq ?_
 refine hReg (sq 0 (sl 1 sz)) (by kernel_rfl) ?_
 refine mvS rfl rfl rfl ?_
 refine callP (v := .bool (decide (4096 < ((bs.length : Nat) : Int)))) Tryd.call5 trv rfl rfl (fun w hs => laws_big_c _ _ cc w (kcode w hs)) ?_
 refine rNil ?_
 refine qSeq rfl ?_
 refine hIfD rfl (fun c1 => ?_) (fun c1 => ?_)
 ·
  replace c1 : 4096 < ((bs.length : Nat) : Int) := c1
  refine hSeq ?_
  refine hReg (sq 0 sz) (by kernel_rfl) ?_
  refine asB rfl rfl rfl ?_
  refine rNil ?_
  refine qSeq rfl ?_
  refine hRet ?_
  exact fun w hs => ⟨[.bool true], ⟨rfl, trivial⟩, ⟨by first | rfl | exact (bT (by rw [hbd])).symm, hs.upd⟩⟩
 ·
  replace c1 : ¬ (4096 < ((bs.length : Nat) : Int)) := c1
  have hok : okBytes bs := ⟨fun x hx => bounds_u8 (hb x hx), by omega⟩
  refine hSkip ?_
  refine qSeq rfl ?_
  refine hSeq ?_
  refine hReg (sq 0 (sl 1 (sq 2 (sq 3 (sq 4 (sq 5 (sq 6 (sq 7 (sq 8 sz))))))))) (by kernel_rfl) ?_
  refine mvS rfl rfl rfl ?_
  refine callS Tryd.call14 trv1 rfl rfl (fun w hs => spec_DrawBetTree_c _ _ cc w (kcode w hs) (by assumption)) ?_
  rintro ⟨q1, qa1, qb1⟩ hr1
  try dsimp only at hr1
  refine rPieces (L' := []) (fun _ h => h) ?_
  refine rVal (v' := .tuple #[.int .i64 q1, .int .i64 qa1, .int .i64 qb1]) rfl ?_
  refine mv rfl rfl rfl ?_
  refine ext rfl rfl rfl rfl ?_
  refine ext rfl rfl rfl rfl ?_
  refine ext rfl rfl rfl rfl ?_
  refine asI rfl rfl rfl ?_
  refine asI rfl rfl rfl ?_
  refine asI rfl rfl rfl ?_
  refine rNil ?_
  refine qSeq rfl ?_
  refine hSeq ?_
  refine hReg (sq 0 (sq 1 (sq 2 (sl 3 (sq 4 (sq 5 (sq 6 (sl 7 (sl 8 (sq 9 sz)))))))))) (by kernel_rfl) ?_
  refine mvI rfl rfl rfl ?_
  refine mvI rfl rfl rfl ?_
  refine mvI rfl rfl rfl ?_
  refine callS Tryd.call15 trv1 rfl rfl (fun w hs => impl_BetTree_c _ _ _ w ) ?_
  rintro ⟨ay2, ny2, cy2, Hy2, y2, q2⟩ ⟨hr2a, hr2b⟩
  dsimp only at hr2a hr2b
  subst y2
  subst q2
  refine rPieces (L' := [OwnR ndK 52 2 ay2 ny2 cy2 Hy2 ((((Math.betAt q1 qa1 qb1).1)))]) (fun _ h => h) ?_
  refine rKnow (fun w hs => (show OwnR ndK 52 2 ay2 ny2 cy2 Hy2 ((((Math.betAt q1 qa1 qb1).1))) w from hs.at_ 0 rfl).1) (fun lenn1 => ?_)
  refine rVal (v' := .tuple #[.agg #[.slice ay2 ny2 cy2], .int .i64 ((((Math.betAt q1 qa1 qb1).2)))]) rfl ?_
  refine mv rfl rfl rfl ?_
  refine ext rfl rfl rfl rfl ?_
  refine ext rfl rfl rfl rfl ?_
  refine alc Tryd.zeroValue26 rfl trv1 rfl rfl (fun bka2 hbka2 => ?_)
  refine stAl (vs := [.slice ay2 ny2 cy2]) 0 rfl Tryd.sizeOf26 trv rfl rfl rfl rfl rfl (by simp [Value.oneCell']) rfl ?_
  refine asI rfl rfl rfl ?_
  refine rNil ?_
  refine qSeq rfl ?_
  refine hSeq ?_
  refine hReg (sq 0 (sq 1 (sq 2 (sl 3 (sq 4 (sq 5 (sq 6 (sl 7 (sl 8 (sq 9 sz)))))))))) (by kernel_rfl) ?_
  refine mvI rfl rfl rfl ?_
  refine mvI rfl rfl rfl ?_
  refine mvI rfl rfl rfl ?_
  refine callS Tryd.call16 trv1 rfl rfl (fun w hs => spec_BetTree_c _ _ _ w ) ?_
  rintro ⟨ay3, ny3, cy3, Hy3, y3, q3⟩ ⟨hr3a, hr3b⟩
  dsimp only at hr3a hr3b
  subst y3
  subst q3
  refine rPieces (L' := [OwnR ndK 52 2 ay3 ny3 cy3 Hy3 ((((Math.betAt q1 qa1 qb1).1))), blk bka2 26 [.slice ay2 ny2 cy2], OwnR ndK 52 2 ay2 ny2 cy2 Hy2 ((((Math.betAt q1 qa1 qb1).1)))]) (fun _ h => h) ?_
  refine rKnow (fun w hs => (show OwnR ndK 52 2 ay3 ny3 cy3 Hy3 ((((Math.betAt q1 qa1 qb1).1))) w from hs.at_ 0 rfl).1) (fun lenn3 => ?_)
  refine rVal (v' := .tuple #[.agg #[.slice ay3 ny3 cy3], .int .i64 ((((Math.betAt q1 qa1 qb1).2)))]) rfl ?_
  refine mv rfl rfl rfl ?_
  refine ext rfl rfl rfl rfl ?_
  refine ext rfl rfl rfl rfl ?_
  refine alc Tryd.zeroValue26 rfl trv1 rfl rfl (fun bka4 hbka4 => ?_)
  refine stAl (vs := [.slice ay3 ny3 cy3]) 0 rfl Tryd.sizeOf26 trv rfl rfl rfl rfl rfl (by simp [Value.oneCell']) rfl ?_
  refine asI rfl rfl rfl ?_
  refine rNil ?_
  refine qSeq rfl ?_
  refine hSeq ?_
  refine hReg (sq 0 (sl 1 (sl 2 (sl 3 sz)))) (by kernel_rfl) ?_
  refine mvS rfl rfl rfl ?_
  refine callS Tryd.call17 trv1 rfl rfl (fun w hs => spec_DrawTreeText_c _ _ cc w (Kn.drop (k := 4) kcode w hs) (by assumption)) ?_
  rintro ⟨ay4, ny4, cy4, Hy4, y4⟩ hr4
  try dsimp only at hr4
  refine rPieces (L' := [RdR ndK ay4 ny4 Hy4 y4, blk bka4 26 [.slice ay3 ny3 cy3], OwnR ndK 52 2 ay3 ny3 cy3 Hy3 ((((Math.betAt q1 qa1 qb1).1))), blk bka2 26 [.slice ay2 ny2 cy2], OwnR ndK 52 2 ay2 ny2 cy2 Hy2 ((((Math.betAt q1 qa1 qb1).1)))]) (fun _ h => h) ?_
  refine rKnow (fun w hs => (show RdR ndK ay4 ny4 Hy4 y4 w from hs.at_ 0 rfl).1) (fun lenn5 => ?_)
  refine rVal (v' := .agg #[.slice ay4 ny4 cy4]) rfl ?_
  refine alc Tryd.zeroValue26 rfl trv1 rfl rfl (fun bka6 hbka6 => ?_)
  refine stAl (vs := [.slice ay4 ny4 cy4]) 0 rfl Tryd.sizeOf26 trv rfl rfl rfl rfl rfl (by simp [Value.oneCell']) rfl ?_
  refine rNil ?_
  refine qSeq rfl ?_
  refine hSeq ?_
  refine hReg (sl 0 (sl 1 (sq 2 (sq 3 (sq 4 (sq 5 (sq 6 sz))))))) (by kernel_rfl) ?_
  refine ldAl Tryd.isAgg26 Tryd.sizeOf26 (cBs 0 rfl) trv rfl rfl rfl rfl ?_
  refine callP (v := .tuple #[sv ((Math.textAt y4).1), .int .i64 ((Math.textAt y4).2)]) Tryd.call18 trv rfl rfl (fun w hs => impl_TreeText_c _ ny4 cy4 _ _ w (hs.at_ 1 rfl) (Kn.drop (k := 6) ktab w hs)) ?_
  refine mv rfl rfl rfl ?_
  refine ext rfl rfl rfl rfl ?_
  refine ext rfl rfl rfl rfl ?_
  refine asn (v := sv ((Math.textAt y4).1)) rfl rfl rfl ?_
  refine asI rfl rfl rfl ?_
  refine rNil ?_
  refine qSeq rfl ?_
  refine hSeq ?_
  refine hReg (sl 0 (sl 1 (sq 2 (sq 3 (sq 4 (sq 5 (sq 6 sz))))))) (by kernel_rfl) ?_
  refine ldAl Tryd.isAgg26 Tryd.sizeOf26 (cBs 0 rfl) trv rfl rfl rfl rfl ?_
  refine callP (v := .tuple #[sv ((Math.textAt y4).1), .int .i64 ((Math.textAt y4).2)]) Tryd.call19 trv rfl rfl (fun w hs => spec_TreeText_c _ ny4 cy4 _ _ w (hs.at_ 1 rfl)) ?_
  refine mv rfl rfl rfl ?_
  refine ext rfl rfl rfl rfl ?_
  refine ext rfl rfl rfl rfl ?_
  refine asn (v := sv ((Math.textAt y4).1)) rfl rfl rfl ?_
  refine asI rfl rfl rfl ?_
  refine rNil ?_
  refine qSeq rfl ?_
  refine hSeq ?_
  refine hSeq ?_
  refine hReg (sq 0 (sq 1 (sq 2 (sq 3 (sl 4 (sl 5 (sl 6 (sq 7 (sq 8 (sq 9 (sq 10 (sq 11 (sq 12 (sq 13 (sq 14 (sq 15 (sq 16 (sq 17 (sq 18 (sq 19 (sl 20 (sl 21 (sq 22 (sq 23 (sq 24 (sq 25 sz)))))))))))))))))))))))))) (by kernel_rfl) ?_
  refine mvI rfl rfl rfl ?_
  refine mvI rfl rfl rfl ?_
  refine neq rfl rfl rfl rfl ?_
  refine mvB rfl rfl rfl ?_
  refine rBoolD (d := 55) rfl (fun g2 => ?_) (fun g2 => ?_)
  ·
   replace g2 : (((Math.betAt q1 qa1 qb1).2)) ≠ (((Math.betAt q1 qa1 qb1).2)) := g2
   exact absurd rfl g2
  ·
   replace g2 : ¬ ((((Math.betAt q1 qa1 qb1).2)) ≠ (((Math.betAt q1 qa1 qb1).2))) := g2
   refine ldAl Tryd.isAgg26 Tryd.sizeOf26 (cBs 4 rfl) trv rfl rfl rfl rfl ?_
   refine ldAl Tryd.isAgg26 Tryd.sizeOf26 (cBs 2 rfl) trv rfl rfl rfl rfl ?_
   refine callP (v := .bool true) Tryd.call20 trv rfl rfl (fun w hs => laws_likeTrees_c _ ny2 cy2 _ _ _ ny3 cy3 _ _ w (OwnR.rd (hs.at_ 5 rfl) ndK.ok) (OwnR.rd (hs.at_ 3 rfl) ndK.ok) (by first | rfl | assumption | (rw [heq]) | (simp only [*]))) ?_
   refine not rfl rfl rfl ?_
   refine pickB rfl rfl rfl rfl ?_
   refine mvB rfl rfl rfl ?_
   refine mvI rfl rfl rfl ?_
   refine mvI rfl rfl rfl ?_
   refine neq rfl rfl rfl rfl ?_
   refine pickB rfl rfl rfl rfl ?_
   refine mvB rfl rfl rfl ?_
   refine rBoolD (d := 66) rfl (fun g3 => ?_) (fun g3 => ?_)
   ·
    replace g3 : (Math.textAt y4).2 ≠ (Math.textAt y4).2 := g3
    exact absurd rfl g3
   ·
    replace g3 : ¬ ((Math.textAt y4).2 ≠ (Math.textAt y4).2) := g3
    refine mv (v := sv ((Math.textAt y4).1)) rfl rfl rfl ?_
    refine mv (v := sv ((Math.textAt y4).1)) rfl rfl rfl ?_
    refine strNeq rfl rfl rfl rfl ?_
    refine pickB rfl rfl rfl rfl ?_
    refine mvB rfl rfl rfl ?_
    refine rBoolD (d := 71) rfl (fun g4 => ?_) (fun g4 => ?_)
    ·
     replace g4 : (Math.textAt y4).1 ≠ (Math.textAt y4).1 := g4
     exact absurd rfl g4
    ·
     replace g4 : ¬ ((Math.textAt y4).1 ≠ (Math.textAt y4).1) := g4
     refine ldAl Tryd.isAgg26 Tryd.sizeOf26 (cBs 0 rfl) trv rfl rfl rfl rfl ?_
     refine callP (v := .bool (Math.isTree y4)) Tryd.call21 trv rfl rfl (fun w hs => impl_IsTree_c _ ny4 cy4 _ _ w (hs.at_ 1 rfl)) ?_
     refine mvI rfl rfl rfl ?_
     refine eql rfl rfl rfl rfl ?_
     refine neqB Tryd.underlying4 rfl rfl rfl rfl ?_
     refine pickB rfl rfl rfl rfl ?_
     refine rNil ?_
     refine qSeq rfl ?_
     refine hIfD rfl (fun c5 => ?_) (fun c5 => ?_)
     ·
      replace c5 : (Math.isTree y4) ≠ decide ((Math.textAt y4).2 = 0) := c5
      exact absurd (Math.textAt_iff y4) c5
     ·
      replace c5 : ¬ ((Math.isTree y4) ≠ decide ((Math.textAt y4).2 = 0)) := c5
      refine hSkip ?_
      refine qSeq rfl ?_
      refine hSeq ?_
      refine hSeq ?_
      refine hReg (sq 0 (sq 1 sz)) (by kernel_rfl) ?_
      refine mvI rfl rfl rfl ?_
      refine neq rfl rfl rfl rfl ?_
      refine rNil ?_
      refine qSeq rfl ?_
      refine hIfD rfl (fun c6 => ?_) (fun c6 => ?_)
      ·
       replace c6 : (((Math.betAt q1 qa1 qb1).2)) ≠ 0 := c6
       refine hSeq ?_
       refine hReg (sq 0 sz) (by kernel_rfl) ?_
       refine asB rfl rfl rfl ?_
       refine rNil ?_
       refine qSeq rfl ?_
       refine hRet ?_
       exact fun w hs => ⟨[.bool true], ⟨rfl, trivial⟩, ⟨by first | rfl | exact (bT (by rw [hbd])).symm, hs.upd⟩⟩
      ·
       replace c6 : ¬ ((((Math.betAt q1 qa1 qb1).2)) ≠ 0) := c6
       have hbz := Classical.not_not.1 c6
       have hbo := Math.bet_ok hbz
       have hbd := Math.bet_depth hbz
       have hbl := Math.betAt_bd q1 qa1 qb1
       refine hSkip ?_
       refine qSeq rfl ?_
       refine hSeq ?_
       refine hSeq ?_
       refine hReg (sq 0 sz) (by kernel_rfl) ?_
       refine asI rfl rfl rfl ?_
       refine rNil ?_
       refine qSeq rfl ?_
       refine hBlk ?_
       refine hLoop (α := Nat) (fun i => i ≤ ny2) (fun i => ny2 - i) (fun i => [blk bka6 26 [.slice ay4 ny4 cy4], RdR ndK ay4 ny4 Hy4 y4, blk bka4 26 [.slice ay3 ny3 cy3], OwnR ndK 52 2 ay3 ny3 cy3 Hy3 ((((Math.betAt q1 qa1 qb1).1))), blk bka2 26 [.slice ay2 ny2 cy2], OwnR ndK 52 2 ay2 ny2 cy2 Hy2 ((((Math.betAt q1 qa1 qb1).1)))]) (fun i => [(3, .int .i64 q1), (4, .int .i64 qa1), (5, .int .i64 qb1), (6, .pointer (some ⟨bka2, 0, none⟩)), (15, .int .i64 (i : Int))]) 0 (Nat.zero_le _) (fun _ h => h) ⟨rfl, rfl, rfl, rfl, rfl, trivial⟩ ?_
       rintro i τ1 hi
       refine hSeq ?_
       refine hSeq ?_
       refine hReg (sq 0 (sq 1 (sl 2 (sq 3 (sq 4 sz))))) (by kernel_rfl) ?_
       refine mvI rfl rfl rfl ?_
       refine fld fl26_0 rfl rfl rfl ?_
       refine ldl Tryd.isAgg24 (cB 4 rfl rfl) trv rfl rfl rfl ?_
       refine lenS Tryd.runUnderlying24 rfl rfl rfl ?_
       refine lss rfl rfl rfl rfl ?_
       refine rNil ?_
       refine qSeq rfl ?_
       refine hIfD rfl (fun c7 => ?_) (fun c7 => ?_)
       ·
        replace c7 : (i : Int) < (ny2 : Int) := c7
        have hpm := hbo.2.2.1 _ (Math.getD_mem dN (show i < (Math.betAt q1 qa1 qb1).1.length by omega))
        refine hSkip ?_
        refine qSeq rfl ?_
        refine hSeq ?_
        refine hBlk ?_
        refine hSeq ?_
        refine hReg (sq 0 (sl 1 (sq 2 (sq 3 (sq 4 (sl 5 (sq 6 (sq 7 (sq 8 (sq 9 (sl 10 (sq 11 (sq 12 (sq 13 (sl 14 (sq 15 (sq 16 (sq 17 (sq 18 (sq 19 (sq 20 (sq 21 (sq 22 (sq 23 (sq 24 (sl 25 (sq 26 (sq 27 (sq 28 (sl 29 (sq 30 (sq 31 (sq 32 (sq 33 (sq 34 (sl 35 (sq 36 (sq 37 (sq 38 (sl 39 (sq 40 (sq 41 (sq 42 (sq 43 (sq 44 (sq 45 (sq 46 (sq 47 sz)))))))))))))))))))))))))))))))))))))))))))))))) (by kernel_rfl) ?_
        refine fld fl26_0 rfl rfl rfl ?_
        refine ldl Tryd.isAgg24 (cB 4 rfl rfl) trv rfl rfl rfl ?_
        refine mvI rfl rfl rfl ?_
        refine ixRl (zn := i) (((((Math.betAt q1 qa1 qb1).1))).getD i dN) el24 ((Kn.at_ 5 rfl).imp fun _ h => OwnR.rd h ndK.ok) rfl rfl rfl rfl (by omega) (by omega) rfl (nth dN (by omega)) ?_
        intro be5 oe5 e5
        refine fld fl52_1 rfl rfl rfl ?_
        refine ldl Tryd.isAgg2 (Kn.fld e5 1 rfl) trv rfl rfl rfl ?_
        refine mvI rfl rfl rfl ?_
        refine lss rfl rfl rfl rfl ?_
        refine mvB rfl rfl rfl ?_
        refine rBoolD (d := 95) rfl (fun g8 => ?_) (fun g8 => ?_)
        ·
         replace g8 : (((((Math.betAt q1 qa1 qb1).1))).getD i dN).p0 < q1 := g8
         exfalso; omega
        ·
         replace g8 : ¬ ((((((Math.betAt q1 qa1 qb1).1))).getD i dN).p0 < q1) := g8
         refine fld fl26_0 rfl rfl rfl ?_
         refine ldl Tryd.isAgg24 (cB 4 rfl rfl) trv rfl rfl rfl ?_
         refine mvI rfl rfl rfl ?_
         refine ixRl (zn := i) (((((Math.betAt q1 qa1 qb1).1))).getD i dN) el24 ((Kn.at_ 5 rfl).imp fun _ h => OwnR.rd h ndK.ok) rfl rfl rfl rfl (by omega) (by omega) rfl (nth dN (by omega)) ?_
         intro be6 oe6 e6
         refine fld fl52_1 rfl rfl rfl ?_
         refine ldl Tryd.isAgg2 (Kn.fld e6 1 rfl) trv rfl rfl rfl ?_
         refine mvI rfl rfl rfl ?_
         refine mvI rfl rfl rfl ?_
         refine mvI rfl rfl rfl ?_
         refine add rfl rfl rfl rfl (by first | omega | (dsimp only; omega)) ?_
         refine mul rfl rfl rfl rfl (by first | omega | (dsimp only; omega)) ?_
         refine add rfl rfl rfl rfl (by first | omega | (dsimp only; omega)) ?_
         refine gtr rfl rfl rfl rfl ?_
         refine pickB rfl rfl rfl rfl ?_
         refine mvB rfl rfl rfl ?_
         refine rBoolD (d := 110) rfl (fun g9 => ?_) (fun g9 => ?_)
         ·
          replace g9 : (q1 + (qa1 * (qb1 + 1))) < (((((Math.betAt q1 qa1 qb1).1))).getD i dN).p0 := g9
          exfalso; omega
         ·
          replace g9 : ¬ ((q1 + (qa1 * (qb1 + 1))) < (((((Math.betAt q1 qa1 qb1).1))).getD i dN).p0) := g9
          refine fld fl26_0 rfl rfl rfl ?_
          refine ldl Tryd.isAgg24 (cB 4 rfl rfl) trv rfl rfl rfl ?_
          refine mvI rfl rfl rfl ?_
          refine ixRl (zn := i) (((((Math.betAt q1 qa1 qb1).1))).getD i dN) el24 ((Kn.at_ 5 rfl).imp fun _ h => OwnR.rd h ndK.ok) rfl rfl rfl rfl (by omega) (by omega) rfl (nth dN (by omega)) ?_
          intro be7 oe7 e7
          refine fld fl52_2 rfl rfl rfl ?_
          refine ldl Tryd.isAgg2 (Kn.fld e7 2 rfl) trv rfl rfl rfl ?_
          refine mvI rfl rfl rfl ?_
          refine lss rfl rfl rfl rfl ?_
          refine pickB rfl rfl rfl rfl ?_
          refine mvB rfl rfl rfl ?_
          refine rBoolD (d := 120) rfl (fun g10 => ?_) (fun g10 => ?_)
          ·
           replace g10 : (((((Math.betAt q1 qa1 qb1).1))).getD i dN).p1 < q1 := g10
           exfalso; omega
          ·
           replace g10 : ¬ ((((((Math.betAt q1 qa1 qb1).1))).getD i dN).p1 < q1) := g10
           refine fld fl26_0 rfl rfl rfl ?_
           refine ldl Tryd.isAgg24 (cB 4 rfl rfl) trv rfl rfl rfl ?_
           refine mvI rfl rfl rfl ?_
           refine ixRl (zn := i) (((((Math.betAt q1 qa1 qb1).1))).getD i dN) el24 ((Kn.at_ 5 rfl).imp fun _ h => OwnR.rd h ndK.ok) rfl rfl rfl rfl (by omega) (by omega) rfl (nth dN (by omega)) ?_
           intro be8 oe8 e8
           refine fld fl52_2 rfl rfl rfl ?_
           refine ldl Tryd.isAgg2 (Kn.fld e8 2 rfl) trv rfl rfl rfl ?_
           refine mvI rfl rfl rfl ?_
           refine mvI rfl rfl rfl ?_
           refine mvI rfl rfl rfl ?_
           refine add rfl rfl rfl rfl (by first | omega | (dsimp only; omega)) ?_
           refine mul rfl rfl rfl rfl (by first | omega | (dsimp only; omega)) ?_
           refine add rfl rfl rfl rfl (by first | omega | (dsimp only; omega)) ?_
           refine gtr rfl rfl rfl rfl ?_
           refine pickB rfl rfl rfl rfl ?_
           refine rNil ?_
           refine qSeq rfl ?_
           refine hIfD rfl (fun c11 => ?_) (fun c11 => ?_)
           ·
            replace c11 : (q1 + (qa1 * (qb1 + 1))) < (((((Math.betAt q1 qa1 qb1).1))).getD i dN).p1 := c11
            exfalso; omega
           ·
            replace c11 : ¬ ((q1 + (qa1 * (qb1 + 1))) < (((((Math.betAt q1 qa1 qb1).1))).getD i dN).p1) := c11
            refine hSkip ?_
            refine qSeq rfl ?_
            refine hReg (sq 0 (sq 1 (sq 2 sz))) (by kernel_rfl) ?_
            refine mvI rfl rfl rfl ?_
            refine add rfl rfl rfl rfl (by first | omega | (dsimp only; omega)) ?_
            refine asI rfl rfl rfl ?_
            refine rNil ?_
            exact qNext rfl (i + 1) (by omega) (by omega) ⟨rfl, rfl, rfl, rfl, rfl, trivial⟩ (fun _ h => h)
       ·
        replace c7 : ¬ ((i : Int) < (ny2 : Int)) := c7
        refine hExit rfl ?_
        refine qSeq rfl ?_
        refine hSeq ?_
        refine hReg (sl 0 (sl 1 (sq 2 (sq 3 (sq 4 (sq 5 (sq 6 sz))))))) (by kernel_rfl) ?_
        refine ldAl Tryd.isAgg26 Tryd.sizeOf26 (cBs 4 rfl) trv rfl rfl rfl rfl ?_
        refine callP (v := .tuple #[.int .i64 ((Math.depthOf ((((Math.betAt q1 qa1 qb1).1)))).1), .int .i64 ((Math.depthOf ((((Math.betAt q1 qa1 qb1).1)))).2)]) Tryd.call22 trv rfl rfl (fun w hs => impl_DepthOf_c _ ny2 cy2 _ _ w (OwnR.rd (hs.at_ 5 rfl) ndK.ok)) ?_
        refine mv rfl rfl rfl ?_
        refine ext rfl rfl rfl rfl ?_
        refine ext rfl rfl rfl rfl ?_
        refine asI rfl rfl rfl ?_
        refine asI rfl rfl rfl ?_
        refine rNil ?_
        refine qSeq rfl ?_
        refine hSeq ?_
        refine hReg (sl 0 (sl 1 (sq 2 (sq 3 (sq 4 (sq 5 (sq 6 (sq 7 (sq 8 (sq 9 (sq 10 (sq 11 (sq 12 sz))))))))))))) (by kernel_rfl) ?_
        refine ldAl Tryd.isAgg26 Tryd.sizeOf26 (cBs 4 rfl) trv rfl rfl rfl rfl ?_
        refine callP (v := .bool ((Math.isTree ((((Math.betAt q1 qa1 qb1).1)))))) Tryd.call21 trv rfl rfl (fun w hs => impl_IsTree_c _ ny2 cy2 _ _ w (OwnR.rd (hs.at_ 5 rfl) ndK.ok)) ?_
        refine mvB rfl rfl rfl ?_
        refine rBool (d := 142) rfl (fun g12 => ?_) (fun g12 => ?_)
        ·
         replace g12 : (Math.isTree ((((Math.betAt q1 qa1 qb1).1)))) = true := g12
         refine mvI rfl rfl rfl ?_
         refine eql rfl rfl rfl rfl ?_
         refine pickB rfl rfl rfl rfl ?_
         refine mvB rfl rfl rfl ?_
         refine rBoolD (d := 146) rfl (fun g13 => ?_) (fun g13 => ?_)
         ·
          replace g13 : (Math.depthOf ((((Math.betAt q1 qa1 qb1).1)))).2 = 0 := g13
          refine mvI rfl rfl rfl ?_
          refine mvI rfl rfl rfl ?_
          refine add rfl rfl rfl rfl (by first | omega | (dsimp only; omega)) ?_
          refine eql rfl rfl rfl rfl ?_
          refine pickB rfl rfl rfl rfl ?_
          refine asB rfl rfl rfl ?_
          refine rNil ?_
          refine qSeq rfl ?_
          refine hRet ?_
          exact fun w hs => ⟨[.bool (decide ((Math.depthOf ((((Math.betAt q1 qa1 qb1).1)))).1 = (qb1 + 3)))], ⟨rfl, trivial⟩, ⟨by first | rfl | exact (bT (by rw [hbd])).symm, hs.upd⟩⟩
         ·
          replace g13 : ¬ ((Math.depthOf ((((Math.betAt q1 qa1 qb1).1)))).2 = 0) := g13
          exact absurd (by rw [hbd]) g13
        ·
         replace g12 : (Math.isTree ((((Math.betAt q1 qa1 qb1).1)))) = false := g12
         exact absurd hbo.1 (by rw [g12]; decide)
theorem cells5 : Tryd.prog.cellsOf 5 = 1 := by kernel_rfl
set_option maxHeartbeats 2000000 in
theorem fnBetTrees_lifted (os : Os) (started : os.Started) (H : Type) (enc : TypeId × Value → H) :
  ReturnsInHanded {} Tryd.checked os 4 .any (fun w args => (Rows.fnBetTreesSpec.pre enc Tryd.prog Tryd.f4 Rows.fnBetTreesRow.domain false w args ∧ laidMetH Tryd.prog Rows.fnBetTreesRow.laid w) ∧ sizedMet enc Tryd.prog Tryd.f4 (OpenSpec.ofChange Rows.fnBetTreesSpec) false w args) (Rows.fnBetTreesSpec.post enc Tryd.prog Tryd.f4 false true false false) := by
 refine returnsInHanded_of_change_and (C := Tryd.checked) (X := fun w _ => laidMetH Tryd.prog Rows.fnBetTreesRow.laid w) (fun _ _ _ hh h => h.of_heap hh) own started (by kernel_rfl) Tryd.func4
  (ChangeSpec.witness_shaped (enc := enc) (C := Tryd.checked) (os := os) (X := fun w _ => laidMetH Tryd.prog Rows.fnBetTreesRow.laid w) false (World.laidAll Tryd.prog os Rows.fnBetTreesRow.laid) #[.slice none 0 0] 8 (World.laidAll_os _ _ _)
   (World.shaped_of_ZipB (by kernel_rfl) (by kernel_rfl)) (by kernel_rfl) (by kernel_rfl) (by kernel_rfl)
   (by rw [MakeChecks.laidMetH_plain _ _ _ (by kernel_rfl)]; exact laidMet_laidAll _ (by kernel_rfl) (by kernel_rfl))) ?_
 intro W base args ds gs before hval0 hW hcnd _ hL _
 have hval : ∀ (j : Nat) t v, Tryd.f4.params[j]? = some t → args[j]? = some v → Value.okWide Tryd.prog W .any base t v := hval0
 have hW' := hW
 obtain ⟨p, q, hA0, hV, rfl, hfz, hnd⟩ := hW
 have hA : DataW.TrodAll enc Tryd.prog W 0 (fun _ => true) true Tryd.f4.params.toList args.toList ds p := hA0
 rw [Tryd.params4] at hA hval
 obtain ⟨v0, vs0, d0, ds0, p0, q0, hargs, rfl, rfl, h0, r0⟩ := trodAll_cons hA
 obtain ⟨rfl, rfl, rfl⟩ := trodAll_nil r0
 obtain rfl : args = #[v0] := by cases args; simp_all
 obtain ⟨rfl, rfl⟩ := trodVars_none hV
 obtain ⟨ca, bs, cc, rfl, hwf, hmax, hca⟩ := open_slice_ints Tryd.underlying22 Tryd.underlying5 cells5 (hval 0 22 v0 rfl rfl) h0
 rw [MakeChecks.laidMetH_plain _ _ _ (by kernel_rfl)] at hL
 have htab : TabP W := tab_of_laid hL
 refine (laws_FnBetTrees_c ca bs cc W hca htab hwf).mono fun e W' ⟨v, he, hv, hx⟩ => ?_
 subst he; subst hv
 exact ⟨_, rfl, law_post (tb := 4) hW' rfl rfl Tryd.underlying4 rfl rfl rfl (by kernel_rfl) hx⟩
theorem fnBetTrees_said : Rows.FnBetTreesSaid :=
 OpenClaim.holds_of_wide 4 Tryd.f4 rfl rfl rfl rfl rfl rfl rfl ⟨rfl, rfl, rfl, rfl, rfl⟩ rfl rfl rfl rfl rfl (by kernel_rfl) Tryd.func4 (by kernel_rfl)
  (of_decide_eq_true (by kernel_rfl)) (by unfold Func.isWrapper; first | (rw [if_pos (by decide +kernel)]; kernel_rfl) | (rw [if_neg (by decide +kernel)]; exact ⟨rfl, rfl⟩))
  (fun os started H enc _ => fnBetTrees_lifted os started H enc)
theorem fnBetTrees_holds : Rows.FnBetTreesCardSaid :=
 Claim7.holds_tied_plain_at .later [] [.data, .data, .data] true (true, "7a75c735fb0a2551848e1d757fef301137d27a755cc5cbdc4277a3f2da2f1ff4") false fnBetTrees_said (fun _ h => by cases h) (by kernel_rfl) (fun _ h => by cases h) fnBetTrees_row_tie rfl ⟨rfl, rfl⟩ (by kernel_rfl) rfl
  (fun f fn hf hfn => by
   obtain rfl : f = 4 := Option.some.inj ((show Tryd.prog.funcNamed "loop.example/g00910/laws.FnBetTrees" = some 4 by kernel_rfl).symm.trans hf) |>.symm
   obtain rfl : fn = Tryd.f4 := (Option.some.inj (Tryd.func4.symm.trans hfn)).symm
   exact ⟨by kernel_rfl, fun j t ht => by
    rw [Tryd.params4] at ht
    have hm : t ∈ [22] := by simpa using Array.mem_of_getElem? ht
    have hall : ([22].all fun u => !Tryd.prog.wantsStandIn u) = true := by kernel_rfl
    exact (show Tryd.prog.wantsStandIn t = false by simpa using List.all_eq_true.1 hall t hm)⟩)
  (by kernel_rfl)
#print axioms fnBetTrees_holds
end Go.Proofs.YtjengglpbdgmnaaDoor
