/- Contracts of games that are drawn. Their conditions stand in each. -/
import Derived.Test.YtjengglpbdgmnaaDoorZ8Mx
import Derived.Test.YtjengglpbdgmnaaDoorZ1Mx
import Derived.Test.YtjengglpbdgmnaaDoorZ2Mx
import Derived.Test.YtjengglpbdgmnaaDoorZ3Mx
import Derived.Test.YtjengglpbdgmnaaDoorZ4Mx
import Derived.Test.YtjengglpbdgmnaaDoorZ7Mx
import Derived.Test.YtjengglpbdgmnaaDoorZ5Mx
import Derived.Test.YtjengglpbdgmnaaDoorZ6Mx
import Derived.Test.YtjengglpbdgmnaaDoorRows
namespace Go.Proofs.YtjengglpbdgmnaaDoor
open Go Go.RowKit V
set_option linter.unusedVariables false
set_option linter.unusedSimpArgs false
set_option maxRecDepth 100000
set_option maxHeartbeats 4000000 in
theorem spec_l21Valid_c (bk : Nat) (ca : Option Addr) (bs : List Int) (cc : Nat) (w : World) (M0 : Nat → Prop) (hs0 : Sep w M0 [srcP bk ca bs cc] w) (kcode : Kn w M0 [] (CellsAt ca (bs.map (Value.int .u8)))) (hok : okBytes bs) :
  Calls Tryd.prog 73 #[.pointer (some ⟨bk, 0, none⟩)] w (Ret fun v w' => ∃ x : Option Addr × Nat × Nat × (Nat → Hd) × List Nd × Option Addr × Nat × Nat × (Nat → Hd) × List (List Int) × Option Addr × Nat × Nat × (Nat → Hd) × List (List Int), v = .agg #[.slice x.1 x.2.1 x.2.2.1, .slice x.2.2.2.2.2.1 x.2.2.2.2.2.2.1 x.2.2.2.2.2.2.2.1, .slice x.2.2.2.2.2.2.2.2.2.2.1 x.2.2.2.2.2.2.2.2.2.2.2.1 x.2.2.2.2.2.2.2.2.2.2.2.2.1] ∧ (((1 ≤ x.2.1 ∧ x.2.1 ≤ 200) ∧ (1 ≤ x.2.2.2.2.2.2.1 ∧ x.2.2.2.2.2.2.1 ≤ 4 ∧ x.2.2.2.2.2.2.2.2.2.2.2.1 = x.2.2.2.2.2.2.1)) ∧ Math.kidsB x.2.2.2.2.1 ∧ Math.rect x.2.2.2.2.2.2.2.2.2.1 x.2.2.2.2.2.2.1 ∧ Math.rect x.2.2.2.2.2.2.2.2.2.2.2.2.2.2 x.2.2.2.2.2.2.2.2.2.2.2.1) ∧ Sep w M0 [srcP bk ca bs cc, OwnR ndK 52 2 x.1 x.2.1 x.2.2.1 x.2.2.2.1 x.2.2.2.2.1, OwnR maK 50 2 x.2.2.2.2.2.1 x.2.2.2.2.2.2.1 x.2.2.2.2.2.2.2.1 x.2.2.2.2.2.2.2.2.1 x.2.2.2.2.2.2.2.2.2.1, OwnR maK 50 2 x.2.2.2.2.2.2.2.2.2.2.1 x.2.2.2.2.2.2.2.2.2.2.2.1 x.2.2.2.2.2.2.2.2.2.2.2.2.1 x.2.2.2.2.2.2.2.2.2.2.2.2.2.1 x.2.2.2.2.2.2.2.2.2.2.2.2.2.2] w') := by
 refine fn (M := M0) (rs := [.cell 2 29]) Tryd.func73 rfl Tryd.ntmps73 rfl rfl hs0 ?_
 refine hSeq ?_
 refine hReg (sl 0 sz) (by kernel_rfl) ?_
 refine alc Tryd.zeroValue29 rfl trv1 rfl rfl (fun bka1 hbka1 => ?_)
 refine rNil ?_
 refine qSeq rfl ?_
 refine hSeq ?_
 refine hSeq ?_
 refine hReg (sq 0 (sl 1 sz)) (by kernel_rfl) ?_
 refine mvP rfl rfl rfl ?_
 refine rPieces (L' := [srcP bk ca bs cc, blk bka1 29 [.slice none 0 0, .slice none 0 0, .slice none 0 0]]) (fun _ h => h.perm (pull (i := 1) rfl)) ?_
 refine callMK (α := Int) (Lf := [srcP bk ca bs cc]) (Lr := [blk bka1 29 [.slice none 0 0, .slice none 0 0, .slice none 0 0]]) (good := fun x => 0 ≤ x ∧ (x < (6 : Int) ∨ x = 0)) (φs := fun x => [srcP bk ca bs cc]) (val := fun x => .int .i64 x) rfl Tryd.call24 trv1 rfl rfl (fun w M1 hs hk => src_next bk ca bs cc (6 : Int) w M1 hs (hk _ kcode) hok) ?_
 intro x1 hx1
 replace hx1 : 0 ≤ x1 ∧ x1 < (6 : Int) := by omega
 try dsimp only at hx1
 refine rPieces (L' := [srcP bk ca bs cc, blk bka1 29 [.slice none 0 0, .slice none 0 0, .slice none 0 0]]) (fun _ h => h) ?_
 refine rNil ?_
 refine qSeq rfl ?_
 refine hBlk ?_
 refine hSeq ?_
 refine hReg (sq 0 (sq 1 sz)) (by kernel_rfl) ?_
 refine eql rfl rfl rfl rfl ?_
 refine asB rfl rfl rfl ?_
 refine rNil ?_
 refine qSeq rfl ?_
 refine hIfD rfl (fun c1 => ?_) (fun c1 => ?_)
 ·
  replace c1 : x1 = 0 := c1
  refine hSeq ?_
  refine hReg (sl 0 (sl 1 sz)) (by kernel_rfl) ?_
  refine callS Tryd.call79 trv1 rfl rfl (fun w hs => spec_KuhnGame_c  w ) ?_
  rintro ⟨ay2, ny2, cy2, Hy2, y2, ayw2, nyw2, cyw2, Hyw2, yw2, ayv2, nyv2, cyv2, Hyv2, yv2⟩ ⟨hr2a, hr2b, hr2c⟩
  dsimp only at hr2a hr2b hr2c
  subst y2
  subst yw2
  subst yv2
  refine rPieces (L' := [OwnR ndK 52 2 ay2 ny2 cy2 Hy2 ((((Math.betAt 1 1 0).1))), OwnR maK 50 2 ayw2 nyw2 cyw2 Hyw2 (Math.hcW 3 false 3), OwnR maK 50 2 ayv2 nyv2 cyv2 Hyv2 (Math.hcV 3 3), srcP bk ca bs cc, blk bka1 29 [.slice none 0 0, .slice none 0 0, .slice none 0 0]]) (fun _ h => h) ?_
  refine rKnow (fun w hs => (show OwnR ndK 52 2 ay2 ny2 cy2 Hy2 ((((Math.betAt 1 1 0).1))) w from hs.at_ 0 rfl).1) (fun lenn2 => ?_)
  refine rKnow (fun w hs => (show OwnR maK 50 2 ayw2 nyw2 cyw2 Hyw2 (Math.hcW 3 false 3) w from hs.at_ 1 rfl).1) (fun lenn3 => ?_)
  refine rKnow (fun w hs => (show OwnR maK 50 2 ayv2 nyv2 cyv2 Hyv2 (Math.hcV 3 3) w from hs.at_ 2 rfl).1) (fun lenn4 => ?_)
  refine stAl (vs := [.slice ay2 ny2 cy2, .slice ayw2 nyw2 cyw2, .slice ayv2 nyv2 cyv2]) 4 rfl Tryd.sizeOf29 trv rfl rfl rfl rfl rfl (by simp [Value.oneCell']) rfl ?_
  refine rNil ?_
  refine qSeq rfl ?_
  refine hRet ?_
  exact fun w hs => ⟨[_], ⟨⟨_, rfl, run_load_agg Tryd.isAgg29 Tryd.sizeOf29 rfl (cBs 4 rfl w hs)⟩, trivial⟩, ⟨(ay2, ny2, cy2, Hy2, (((Math.betAt 1 1 0).1)), ayw2, nyw2, cyw2, Hyw2, (Math.hcW 3 false 3), ayv2, nyv2, cyv2, Hyv2, (Math.hcV 3 3)), rfl, by have hw_ : Math.rect (Math.hcW 3 false 3) _ := Math.rect_hcW 3 false; have hv_ := Math.rect_hcV 3; have hw1 := hw_.1; have hv1 := hv_.1; have := Math.betAt_bd 1 1 0; have := Math.betAt_pos (ante := 1) (bet := 1) (r := 0) (by decide); exact ⟨⟨by dsimp only; omega, by dsimp only; omega⟩, Math.betAt_kids 1 1 0, Math.rect_to hw_ (by first | assumption | omega | (dsimp only; omega)), Math.rect_to hv_ (by first | assumption | omega | (dsimp only; omega))⟩, hs.pick [3, 0, 0, 0]⟩⟩
 ·
  replace c1 : ¬ (x1 = 0) := c1
  refine hSeq ?_
  refine hReg (sq 0 (sq 1 sz)) (by kernel_rfl) ?_
  refine eql rfl rfl rfl rfl ?_
  refine asB rfl rfl rfl ?_
  refine rNil ?_
  refine qSeq rfl ?_
  refine hIfD rfl (fun c2 => ?_) (fun c2 => ?_)
  ·
   replace c2 : x1 = 1 := c2
   refine hSeq ?_
   refine hReg (sq 0 (sl 1 (sq 2 (sl 3 (sq 4 (sl 5 (sl 6 sz))))))) (by kernel_rfl) ?_
   refine mvP rfl rfl rfl ?_
   refine callMK (α := Option Addr × Nat × Nat × (Nat → Hd) × List Nd) (Lf := [srcP bk ca bs cc]) (Lr := [blk bka1 29 [.slice none 0 0, .slice none 0 0, .slice none 0 0]]) (good := fun x => (1 ≤ x.2.1 ∧ x.2.1 ≤ 200) ∧ Math.kidsB x.2.2.2.2) (φs := fun x => [srcP bk ca bs cc, OwnR ndK 52 2 x.1 x.2.1 x.2.2.1 x.2.2.2.1 x.2.2.2.2]) (val := fun x => .agg #[.slice x.1 x.2.1 x.2.2.1]) rfl Tryd.call70 trv1 rfl rfl (fun w M1 hs hk => spec_l20Valid_c bk ca bs cc  w M1 hs (hk _ kcode) hok ) ?_
   rintro ⟨ay3, ny3, cy3, Hy3, y3⟩ hr3
   try dsimp only at hr3
   refine rPieces (L' := [srcP bk ca bs cc, OwnR ndK 52 2 ay3 ny3 cy3 Hy3 y3, blk bka1 29 [.slice none 0 0, .slice none 0 0, .slice none 0 0]]) (fun _ h => h) ?_
   refine rKnow (fun w hs => (show OwnR ndK 52 2 ay3 ny3 cy3 Hy3 y3 w from hs.at_ 1 rfl).1) (fun lenn5 => ?_)
   refine mvP rfl rfl rfl ?_
   refine callMK (α := Int) (Lf := [srcP bk ca bs cc]) (Lr := [OwnR ndK 52 2 ay3 ny3 cy3 Hy3 y3, blk bka1 29 [.slice none 0 0, .slice none 0 0, .slice none 0 0]]) (good := fun x => 0 ≤ x ∧ (x < (2 : Int) ∨ x = 0)) (φs := fun x => [srcP bk ca bs cc]) (val := fun x => .int .i64 x) rfl Tryd.call24 trv1 rfl rfl (fun w M1 hs hk => src_next bk ca bs cc (2 : Int) w M1 hs (hk _ kcode) hok) ?_
   intro x4 hx4
   replace hx4 : 0 ≤ x4 ∧ x4 < (2 : Int) := by omega
   try dsimp only at hx4
   refine rPieces (L' := [srcP bk ca bs cc, OwnR ndK 52 2 ay3 ny3 cy3 Hy3 y3, blk bka1 29 [.slice none 0 0, .slice none 0 0, .slice none 0 0]]) (fun _ h => h) ?_
   refine add rfl rfl rfl rfl (by omega) ?_
   refine callS Tryd.call80 trv1 rfl rfl (fun w hs => spec_l21HighCard_c _ ny3 cy3 _ _ _ _ w (OwnR.rd (hs.at_ 1 rfl) ndK.ok) (by first | omega | (have := Math.tree_len (by assumption : Math.isTree _ = true); omega)) (by first | assumption | exact (by assumption : _ ∧ Math.kidsB _).2 | exact Math.tree_kids (by assumption)) (by omega)) ?_
   rintro ⟨ay5, ny5, cy5, Hy5, y5, ayw5, nyw5, cyw5, Hyw5, yw5, ayv5, nyv5, cyv5, Hyv5, yv5⟩ ⟨hr5a, hr5b, hr5c⟩
   dsimp only at hr5a hr5b hr5c
   subst y5
   subst yw5
   subst yv5
   refine rPieces (L' := [OwnR ndK 52 2 ay5 ny5 cy5 Hy5 y3, OwnR maK 50 2 ayw5 nyw5 cyw5 Hyw5 (((Math.hcW (2 + x4).toNat true (2 + x4).toNat))), OwnR maK 50 2 ayv5 nyv5 cyv5 Hyv5 (((Math.hcV (2 + x4).toNat (2 + x4).toNat))), srcP bk ca bs cc, OwnR ndK 52 2 ay3 ny3 cy3 Hy3 y3, blk bka1 29 [.slice none 0 0, .slice none 0 0, .slice none 0 0]]) (fun _ h => h) ?_
   refine rKnow (fun w hs => (show OwnR ndK 52 2 ay5 ny5 cy5 Hy5 y3 w from hs.at_ 0 rfl).1) (fun lenn6 => ?_)
   refine rKnow (fun w hs => (show OwnR maK 50 2 ayw5 nyw5 cyw5 Hyw5 (((Math.hcW (2 + x4).toNat true (2 + x4).toNat))) w from hs.at_ 1 rfl).1) (fun lenn7 => ?_)
   refine rKnow (fun w hs => (show OwnR maK 50 2 ayv5 nyv5 cyv5 Hyv5 (((Math.hcV (2 + x4).toNat (2 + x4).toNat))) w from hs.at_ 2 rfl).1) (fun lenn8 => ?_)
   refine stAl (vs := [.slice ay5 ny5 cy5, .slice ayw5 nyw5 cyw5, .slice ayv5 nyv5 cyv5]) 5 rfl Tryd.sizeOf29 trv rfl rfl rfl rfl rfl (by simp [Value.oneCell']) rfl ?_
   refine rNil ?_
   refine qSeq rfl ?_
   refine hRet ?_
   exact fun w hs => ⟨[_], ⟨⟨_, rfl, run_load_agg Tryd.isAgg29 Tryd.sizeOf29 rfl (cBs 5 rfl w hs)⟩, trivial⟩, ⟨(ay5, ny5, cy5, Hy5, y3, ayw5, nyw5, cyw5, Hyw5, ((Math.hcW (2 + x4).toNat true (2 + x4).toNat)), ayv5, nyv5, cyv5, Hyv5, ((Math.hcV (2 + x4).toNat (2 + x4).toNat))), rfl, by have hw_ : Math.rect (((Math.hcW (2 + x4).toNat true (2 + x4).toNat))) _ := Math.rect_hcW ((2 + x4).toNat) true; have hv_ := Math.rect_hcV ((2 + x4).toNat); have hw1 := hw_.1; have hv1 := hv_.1; exact ⟨⟨by dsimp only; omega, by dsimp only; omega⟩, by first | assumption | exact (by assumption : _ ∧ Math.kidsB _).2, Math.rect_to hw_ (by first | assumption | omega | (dsimp only; omega)), Math.rect_to hv_ (by first | assumption | omega | (dsimp only; omega))⟩, hs.pick [3, 0, 0, 0]⟩⟩
  ·
   replace c2 : ¬ (x1 = 1) := c2
   clear c2 c1 hx1
   refine hSkip ?_
   refine qSeq rfl ?_
   refine hSeq ?_
   refine hReg (sq 0 (sl 1 (sq 2 (sq 3 sz)))) (by kernel_rfl) ?_
   refine mvP rfl rfl rfl ?_
   refine callMK (α := Int) (Lf := [srcP bk ca bs cc]) (Lr := [blk bka1 29 [.slice none 0 0, .slice none 0 0, .slice none 0 0]]) (good := fun x => 0 ≤ x ∧ (x < (3 : Int) ∨ x = 0)) (φs := fun x => [srcP bk ca bs cc]) (val := fun x => .int .i64 x) rfl Tryd.call24 trv1 rfl rfl (fun w M1 hs hk => src_next bk ca bs cc (3 : Int) w M1 hs (hk _ kcode) hok) ?_
   intro x6 hx6
   replace hx6 : 0 ≤ x6 ∧ x6 < (3 : Int) := by omega
   try dsimp only at hx6
   refine rPieces (L' := [srcP bk ca bs cc, blk bka1 29 [.slice none 0 0, .slice none 0 0, .slice none 0 0]]) (fun _ h => h) ?_
   refine add rfl rfl rfl rfl (by omega) ?_
   refine asI rfl rfl rfl ?_
   refine rNil ?_
   refine qSeq rfl ?_
   refine hSeq ?_
   refine hReg (sq 0 (sl 1 (sq 2 (sl 3 (sl 4 (sl 5 sz)))))) (by kernel_rfl) ?_
   refine mvP rfl rfl rfl ?_
   refine callMK (α := Option Addr × Nat × Nat × (Nat → Hd) × List Nd) (Lf := [srcP bk ca bs cc]) (Lr := [blk bka1 29 [.slice none 0 0, .slice none 0 0, .slice none 0 0]]) (good := fun x => (1 ≤ x.2.1 ∧ x.2.1 ≤ 200) ∧ Math.kidsB x.2.2.2.2) (φs := fun x => [srcP bk ca bs cc, OwnR ndK 52 2 x.1 x.2.1 x.2.2.1 x.2.2.2.1 x.2.2.2.2]) (val := fun x => .agg #[.slice x.1 x.2.1 x.2.2.1]) rfl Tryd.call70 trv1 rfl rfl (fun w M1 hs hk => spec_l20Valid_c bk ca bs cc  w M1 hs (hk _ kcode) hok ) ?_
   rintro ⟨ay7, ny7, cy7, Hy7, y7⟩ hr7
   try dsimp only at hr7
   refine rPieces (L' := [srcP bk ca bs cc, OwnR ndK 52 2 ay7 ny7 cy7 Hy7 y7, blk bka1 29 [.slice none 0 0, .slice none 0 0, .slice none 0 0]]) (fun _ h => h) ?_
   refine rKnow (fun w hs => (show OwnR ndK 52 2 ay7 ny7 cy7 Hy7 y7 w from hs.at_ 1 rfl).1) (fun lenn9 => ?_)
   refine mvI rfl rfl rfl ?_
   refine callS Tryd.call80 trv1 rfl rfl (fun w hs => spec_l21HighCard_c _ ny7 cy7 _ _ _ _ w (OwnR.rd (hs.at_ 1 rfl) ndK.ok) (by first | omega | (have := Math.tree_len (by assumption : Math.isTree _ = true); omega)) (by first | assumption | exact (by assumption : _ ∧ Math.kidsB _).2 | exact Math.tree_kids (by assumption)) (by omega)) ?_
   rintro ⟨ay8, ny8, cy8, Hy8, y8, ayw8, nyw8, cyw8, Hyw8, yw8, ayv8, nyv8, cyv8, Hyv8, yv8⟩ ⟨hr8a, hr8b, hr8c⟩
   dsimp only at hr8a hr8b hr8c
   subst y8
   subst yw8
   subst yv8
   refine rPieces (L' := [OwnR ndK 52 2 ay8 ny8 cy8 Hy8 y7, OwnR maK 50 2 ayw8 nyw8 cyw8 Hyw8 (((Math.hcW (1 + x6).toNat true (1 + x6).toNat))), OwnR maK 50 2 ayv8 nyv8 cyv8 Hyv8 (((Math.hcV (1 + x6).toNat (1 + x6).toNat))), srcP bk ca bs cc, OwnR ndK 52 2 ay7 ny7 cy7 Hy7 y7, blk bka1 29 [.slice none 0 0, .slice none 0 0, .slice none 0 0]]) (fun _ h => h) ?_
   refine rKnow (fun w hs => (show OwnR ndK 52 2 ay8 ny8 cy8 Hy8 y7 w from hs.at_ 0 rfl).1) (fun lenn10 => ?_)
   refine rKnow (fun w hs => (show OwnR maK 50 2 ayw8 nyw8 cyw8 Hyw8 (((Math.hcW (1 + x6).toNat true (1 + x6).toNat))) w from hs.at_ 1 rfl).1) (fun lenn11 => ?_)
   refine rKnow (fun w hs => (show OwnR maK 50 2 ayv8 nyv8 cyv8 Hyv8 (((Math.hcV (1 + x6).toNat (1 + x6).toNat))) w from hs.at_ 2 rfl).1) (fun lenn12 => ?_)
   refine alc Tryd.zeroValue29 rfl trv1 rfl rfl (fun bka13 hbka13 => ?_)
   refine stAl (vs := [.slice ay8 ny8 cy8, .slice ayw8 nyw8 cyw8, .slice ayv8 nyv8 cyv8]) 0 rfl Tryd.sizeOf29 trv rfl rfl rfl rfl rfl (by simp [Value.oneCell']) rfl ?_
   refine rNil ?_
   refine qSeq rfl ?_
   refine hSeq ?_
   refine hSeq ?_
   refine hReg (sq 0 sz) (by kernel_rfl) ?_
   refine asI rfl rfl rfl ?_
   refine rNil ?_
   refine qSeq rfl ?_
   refine hBlk ?_
   have hwl_ := (Math.rect_hcW ((1 + x6)).toNat true).1
   have hvl_ := (Math.rect_hcV ((1 + x6)).toNat).1
   refine hLoop (α := Nat × List (List Int) × List (List Int)) (fun x => x.1 ≤ ((1 + x6)).toNat ∧ Math.rect x.2.1 ((1 + x6)).toNat ∧ Math.rect x.2.2 ((1 + x6)).toNat) (fun x => ((1 + x6)).toNat - x.1) (fun x => [blk bka13 29 [.slice ay8 ny8 cy8, .slice ayw8 nyw8 cyw8, .slice ayv8 nyv8 cyv8], OwnR ndK 52 2 ay8 ny8 cy8 Hy8 y7, OwnR maK 50 2 ayw8 nyw8 cyw8 Hyw8 x.2.1, OwnR maK 50 2 ayv8 nyv8 cyv8 Hyv8 x.2.2, srcP bk ca bs cc, OwnR ndK 52 2 ay7 ny7 cy7 Hy7 y7, blk bka1 29 [.slice none 0 0, .slice none 0 0, .slice none 0 0]]) (fun x => [(0, .pointer (some ⟨bk, 0, none⟩)), (2, .pointer (some ⟨bka1, 0, none⟩)), (3, .int .i64 (1 + x6)), (4, .pointer (some ⟨bka13, 0, none⟩)), (5, .int .i64 (x.1 : Int))]) ((0, ((Math.hcW (1 + x6).toNat true (1 + x6).toNat)), ((Math.hcV (1 + x6).toNat (1 + x6).toNat)))) ⟨Nat.zero_le _, Math.rect_hcW _ _, Math.rect_hcV _⟩ (fun _ h => h.pick [0, 0, 0, 0, 0, 0, 0]) ⟨rfl, rfl, rfl, rfl, rfl, trivial⟩ ?_
   rintro ⟨i, u, v⟩ τ1 ⟨hi, hu, hv⟩
   dsimp only at hi hu hv
   refine hRe [(0, .pointer (some ⟨bk, 0, none⟩)), (2, .pointer (some ⟨bka1, 0, none⟩)), (3, .int .i64 (1 + x6)), (4, .pointer (some ⟨bka13, 0, none⟩)), (5, .int .i64 (i : Int))] [blk bka13 29 [.slice ay8 ny8 cy8, .slice ayw8 nyw8 cyw8, .slice ayv8 nyv8 cyv8], OwnR ndK 52 2 ay8 ny8 cy8 Hy8 y7, OwnR maK 50 2 ayw8 nyw8 cyw8 Hyw8 u, OwnR maK 50 2 ayv8 nyv8 cyv8 Hyv8 v, srcP bk ca bs cc, OwnR ndK 52 2 ay7 ny7 cy7 Hy7 y7, blk bka1 29 [.slice none 0 0, .slice none 0 0, .slice none 0 0]] rfl rfl ?_
   have hul0 := hu.1
   have hvl0 := hv.1
   have hur0 := hu.2 0 (by omega)
   have hnw_ : nyw8 = ((1 + x6)).toNat := by omega
   have hnv_ : nyv8 = ((1 + x6)).toNat := by omega
   refine hSeq ?_
   refine hSeq ?_
   refine hReg (sq 0 (sq 1 (sq 2 sz))) (by kernel_rfl) ?_
   refine mvI rfl rfl rfl ?_
   refine mvI rfl rfl rfl ?_
   refine lss rfl rfl rfl rfl ?_
   refine rNil ?_
   refine qSeq rfl ?_
   refine hIfD rfl (fun c3 => ?_) (fun c3 => ?_)
   ·
    replace c3 : (i : Int) < (1 + x6) := c3
    refine hSkip ?_
    refine qSeq rfl ?_
    refine hSeq ?_
    refine hBlk ?_
    refine hSeq ?_
    refine hReg (sq 0 sz) (by kernel_rfl) ?_
    refine asI rfl rfl rfl ?_
    refine rNil ?_
    refine qSeq rfl ?_
    refine hBlk ?_
    refine hLoop (α := Nat × List (List Int) × List (List Int)) (fun x => x.1 ≤ ((1 + x6)).toNat ∧ Math.rect x.2.1 ((1 + x6)).toNat ∧ Math.rect x.2.2 ((1 + x6)).toNat) (fun x => ((1 + x6)).toNat - x.1) (fun x => [blk bka13 29 [.slice ay8 ny8 cy8, .slice ayw8 nyw8 cyw8, .slice ayv8 nyv8 cyv8], OwnR ndK 52 2 ay8 ny8 cy8 Hy8 y7, OwnR maK 50 2 ayw8 nyw8 cyw8 Hyw8 x.2.1, OwnR maK 50 2 ayv8 nyv8 cyv8 Hyv8 x.2.2, srcP bk ca bs cc, OwnR ndK 52 2 ay7 ny7 cy7 Hy7 y7, blk bka1 29 [.slice none 0 0, .slice none 0 0, .slice none 0 0]]) (fun x => [(0, .pointer (some ⟨bk, 0, none⟩)), (2, .pointer (some ⟨bka1, 0, none⟩)), (3, .int .i64 (1 + x6)), (4, .pointer (some ⟨bka13, 0, none⟩)), (5, .int .i64 (i : Int)), (6, .int .i64 (x.1 : Int))]) (0, u, v) ⟨Nat.zero_le _, hu, hv⟩ (fun _ h => h.pick [0, 0, 0, 0, 0, 0, 0]) ⟨rfl, rfl, rfl, rfl, rfl, rfl, trivial⟩ ?_
    rintro ⟨j, u2, v2⟩ τ2 ⟨hj, hu2, hv2⟩
    dsimp only at hj hu2 hv2
    refine hRe [(0, .pointer (some ⟨bk, 0, none⟩)), (2, .pointer (some ⟨bka1, 0, none⟩)), (3, .int .i64 (1 + x6)), (4, .pointer (some ⟨bka13, 0, none⟩)), (5, .int .i64 (i : Int)), (6, .int .i64 (j : Int))] [blk bka13 29 [.slice ay8 ny8 cy8, .slice ayw8 nyw8 cyw8, .slice ayv8 nyv8 cyv8], OwnR ndK 52 2 ay8 ny8 cy8 Hy8 y7, OwnR maK 50 2 ayw8 nyw8 cyw8 Hyw8 u2, OwnR maK 50 2 ayv8 nyv8 cyv8 Hyv8 v2, srcP bk ca bs cc, OwnR ndK 52 2 ay7 ny7 cy7 Hy7 y7, blk bka1 29 [.slice none 0 0, .slice none 0 0, .slice none 0 0]] rfl rfl ?_
    have hul := hu2.1
    have hvl := hv2.1
    have hur := hu2.2 i (by omega)
    have hvr := hv2.2 i (by omega)
    clear hwl_ hvl_ hul0 hur0 hvl0 lenn10 lenn11 lenn12 lenn9
    refine hSeq ?_
    refine hSeq ?_
    refine hReg (sq 0 (sq 1 (sq 2 sz))) (by kernel_rfl) ?_
    refine mvI rfl rfl rfl ?_
    refine mvI rfl rfl rfl ?_
    refine lss rfl rfl rfl rfl ?_
    refine rNil ?_
    refine qSeq rfl ?_
    refine hIfD rfl (fun c4 => ?_) (fun c4 => ?_)
    ·
     replace c4 : (j : Int) < (1 + x6) := c4
     refine hSkip ?_
     refine qSeq rfl ?_
     refine hSeq ?_
     refine hBlk ?_
     refine hSeq ?_
     refine hDraw (Ls := [blk bka13 29 [.slice ay8 ny8 cy8, .slice ayw8 nyw8 cyw8, .slice ayv8 nyv8 cyv8]]) (by kernel_rfl) (sq 0 (sq 1 (sq 2 (sq 3 (sq 5 (sq 6 (.alt (sl 4 (sl 7 (sq 8 (sl 9 sz)))) (sl 7 (sl 4 (sq 8 (sl 9 sz))))))))))) (by kernel_rfl) (.cons_cons _ (.cons _ (.cons _ (.cons _ (.cons _ (.cons _ (.cons _ .slnil))))))) ?_
     refine rPieces (L' := [srcP bk ca bs cc, blk bka13 29 [.slice ay8 ny8 cy8, .slice ayw8 nyw8 cyw8, .slice ayv8 nyv8 cyv8], OwnR ndK 52 2 ay8 ny8 cy8 Hy8 y7, OwnR maK 50 2 ayw8 nyw8 cyw8 Hyw8 u2, OwnR maK 50 2 ayv8 nyv8 cyv8 Hyv8 v2, OwnR ndK 52 2 ay7 ny7 cy7 Hy7 y7, blk bka1 29 [.slice none 0 0, .slice none 0 0, .slice none 0 0]]) (fun _ h => h.perm (pull (i := 4) rfl)) ?_
     refine fld fl29_1 rfl rfl rfl ?_
     refine ldq Tryd.isAgg27 (cB 0 rfl rfl) rfl rfl rfl ?_
     refine mvI rfl rfl rfl ?_
     refine ixRl (zn := i) (u2.getD i []) el27 ((Kn.at_ 3 rfl).imp fun _ h => OwnR.rd h maK.ok) rfl rfl rfl rfl (by omega) (by omega) rfl (nth [] (by omega)) ?_
     intro be9 oe9 e9
     refine mvI rfl rfl rfl ?_
     refine mvP rfl rfl rfl ?_
     refine rAlt ?_ ?_
     ·
      refine ldl Tryd.isAgg50 (Kn.fld e9 0 rfl) (fun _ h => h.pick [1]) rfl rfl rfl ?_
      refine callMK (α := Int) (Lf := [srcP bk ca bs cc]) (Lr := [blk bka13 29 [.slice ay8 ny8 cy8, .slice ayw8 nyw8 cyw8, .slice ayv8 nyv8 cyv8], OwnR ndK 52 2 ay8 ny8 cy8 Hy8 y7, OwnR maK 50 2 ayw8 nyw8 cyw8 Hyw8 u2, OwnR maK 50 2 ayv8 nyv8 cyv8 Hyv8 v2, OwnR ndK 52 2 ay7 ny7 cy7 Hy7 y7, blk bka1 29 [.slice none 0 0, .slice none 0 0, .slice none 0 0]]) (good := fun x => 0 ≤ x ∧ (x < (4 : Int) ∨ x = 0)) (φs := fun x => [srcP bk ca bs cc]) (val := fun x => .int .i64 x) rfl Tryd.call24 (by exact (fun _ _ h => h.pick [1])) rfl rfl (fun w M1 hs hk => src_next bk ca bs cc (4 : Int) w M1 hs (hk _ kcode) hok) ?_
      intro x10 hx10
      replace hx10 : 0 ≤ x10 ∧ x10 < (4 : Int) := by omega
      try dsimp only at hx10
      refine rPieces (L' := [srcP bk ca bs cc, blk bka13 29 [.slice ay8 ny8 cy8, .slice ayw8 nyw8 cyw8, .slice ayv8 nyv8 cyv8], OwnR ndK 52 2 ay8 ny8 cy8 Hy8 y7, OwnR maK 50 2 ayw8 nyw8 cyw8 Hyw8 u2, OwnR maK 50 2 ayv8 nyv8 cyv8 Hyv8 v2, OwnR ndK 52 2 ay7 ny7 cy7 Hy7 y7, blk bka1 29 [.slice none 0 0, .slice none 0 0, .slice none 0 0]]) (fun _ h => h) ?_
      refine rPieces (L' := [OwnR maK 50 2 ayw8 nyw8 cyw8 Hyw8 u2, srcP bk ca bs cc, blk bka13 29 [.slice ay8 ny8 cy8, .slice ayw8 nyw8 cyw8, .slice ayv8 nyv8 cyv8], OwnR ndK 52 2 ay8 ny8 cy8 Hy8 y7, OwnR maK 50 2 ayv8 nyv8 cyv8 Hyv8 v2, OwnR ndK 52 2 ay7 ny7 cy7 Hy7 y7, blk bka1 29 [.slice none 0 0, .slice none 0 0, .slice none 0 0]]) (fun _ h => h.pick [3, 0, 0, 0, 0, 0, 0]) ?_
      refine rPieces (L' := [OwnI 2 ((Hyw8 i).1) ((u2.getD i []).length) ((Hyw8 i).2) (u2.getD i []), OwnH maK 50 2 ayw8 nyw8 cyw8 Hyw8 u2 i, srcP bk ca bs cc, blk bka13 29 [.slice ay8 ny8 cy8, .slice ayw8 nyw8 cyw8, .slice ayv8 nyv8 cyv8], OwnR ndK 52 2 ay8 ny8 cy8 Hy8 y7, OwnR maK 50 2 ayv8 nyv8 cyv8 Hyv8 v2, OwnR ndK 52 2 ay7 ny7 cy7 Hy7 y7, blk bka1 29 [.slice none 0 0, .slice none 0 0, .slice none 0 0]]) (fun _ h => Sep.lend h i (u2.getD i []) (nth [] (by omega))) ?_
      refine oxI (zn := j) 0 rfl el50 rfl rfl rfl rfl (by omega) (by omega) rfl ?_
      intro gk11 hgk11
      refine stoI (off := j) (x := x10) 0 rfl hgk11 Tryd.sizeOf2 (fun _ h => h.pick [3]) rfl rfl rfl rfl (by omega) ?_
      refine rPieces (L' := [OwnR maK 50 2 ayw8 nyw8 cyw8 Hyw8 ((u2.set i (((u2.getD i []).set j x10)))), srcP bk ca bs cc, blk bka13 29 [.slice ay8 ny8 cy8, .slice ayw8 nyw8 cyw8, .slice ayv8 nyv8 cyv8], OwnR ndK 52 2 ay8 ny8 cy8 Hy8 y7, OwnR maK 50 2 ayv8 nyv8 cyv8 Hyv8 v2, OwnR ndK 52 2 ay7 ny7 cy7 Hy7 y7, blk bka1 29 [.slice none 0 0, .slice none 0 0, .slice none 0 0]]) (fun _ h => Sep.back (x := (u2.getD i [])) ((u2.getD i []).set j x10) maK.ok h (nth [] (by omega)) (fun h1 h2 => by dsimp only [ndK, ndC, maK] at h1 h2 ⊢; rw [h1, h2]) rfl rfl) ?_
      refine rNil ?_
      refine qSeq rfl ?_
      refine hSeq ?_
      refine hReg (sq 0 (sl 1 (sq 2 sz))) (by kernel_rfl) ?_
      refine mvP rfl rfl rfl ?_
      refine rPieces (L' := [srcP bk ca bs cc, OwnR maK 50 2 ayw8 nyw8 cyw8 Hyw8 ((u2.set i (((u2.getD i []).set j x10)))), blk bka13 29 [.slice ay8 ny8 cy8, .slice ayw8 nyw8 cyw8, .slice ayv8 nyv8 cyv8], OwnR ndK 52 2 ay8 ny8 cy8 Hy8 y7, OwnR maK 50 2 ayv8 nyv8 cyv8 Hyv8 v2, OwnR ndK 52 2 ay7 ny7 cy7 Hy7 y7, blk bka1 29 [.slice none 0 0, .slice none 0 0, .slice none 0 0]]) (fun _ h => h.perm (pull (i := 1) rfl)) ?_
      refine callMK (α := Int) (Lf := [srcP bk ca bs cc]) (Lr := [OwnR maK 50 2 ayw8 nyw8 cyw8 Hyw8 ((u2.set i (((u2.getD i []).set j x10)))), blk bka13 29 [.slice ay8 ny8 cy8, .slice ayw8 nyw8 cyw8, .slice ayv8 nyv8 cyv8], OwnR ndK 52 2 ay8 ny8 cy8 Hy8 y7, OwnR maK 50 2 ayv8 nyv8 cyv8 Hyv8 v2, OwnR ndK 52 2 ay7 ny7 cy7 Hy7 y7, blk bka1 29 [.slice none 0 0, .slice none 0 0, .slice none 0 0]]) (good := fun x => 0 ≤ x ∧ (x < (4 : Int) ∨ x = 0)) (φs := fun x => [srcP bk ca bs cc]) (val := fun x => .int .i64 x) rfl Tryd.call24 trv1 rfl rfl (fun w M1 hs hk => src_next bk ca bs cc (4 : Int) w M1 hs (hk _ kcode) hok) ?_
      intro x12 hx12
      replace hx12 : 0 ≤ x12 ∧ x12 < (4 : Int) := by omega
      try dsimp only at hx12
      refine rPieces (L' := [srcP bk ca bs cc, OwnR maK 50 2 ayw8 nyw8 cyw8 Hyw8 ((u2.set i (((u2.getD i []).set j x10)))), blk bka13 29 [.slice ay8 ny8 cy8, .slice ayw8 nyw8 cyw8, .slice ayv8 nyv8 cyv8], OwnR ndK 52 2 ay8 ny8 cy8 Hy8 y7, OwnR maK 50 2 ayv8 nyv8 cyv8 Hyv8 v2, OwnR ndK 52 2 ay7 ny7 cy7 Hy7 y7, blk bka1 29 [.slice none 0 0, .slice none 0 0, .slice none 0 0]]) (fun _ h => h) ?_
      refine eql rfl rfl rfl rfl ?_
      refine rNil ?_
      refine qSeq rfl ?_
      refine hIfD rfl (fun c5 => ?_) (fun c5 => ?_)
      ·
       replace c5 : x12 = 0 := c5
       refine hDraw (Ls := [blk bka13 29 [.slice ay8 ny8 cy8, .slice ayw8 nyw8 cyw8, .slice ayv8 nyv8 cyv8]]) (by kernel_rfl) (sq 0 (sq 1 (sq 2 (sq 3 (sq 5 (sq 6 (.alt (sl 4 (sl 7 (sq 8 (sq 9 (sl 10 sz))))) (sl 7 (sq 8 (sl 4 (sq 9 (sl 10 sz)))))))))))) (by kernel_rfl) (.cons _ (.cons _ (.cons_cons _ (.cons _ (.cons _ (.cons _ (.cons _ .slnil))))))) ?_
       refine fld fl29_2 rfl rfl rfl ?_
       refine ldq Tryd.isAgg27 (cB 0 rfl rfl) rfl rfl rfl ?_
       refine mvI rfl rfl rfl ?_
       refine ixRl (zn := i) (v2.getD i []) el27 ((Kn.at_ 4 rfl).imp fun _ h => OwnR.rd h maK.ok) rfl rfl rfl rfl (by omega) (by omega) rfl (nth [] (by omega)) ?_
       intro be13 oe13 e13
       refine mvI rfl rfl rfl ?_
       refine mvP rfl rfl rfl ?_
       refine rAlt ?_ ?_
       ·
        refine ldl Tryd.isAgg50 (Kn.fld e13 0 rfl) (fun _ h => h.pick [2]) rfl rfl rfl ?_
        refine callMK (α := Int) (Lf := [srcP bk ca bs cc]) (Lr := [OwnR maK 50 2 ayw8 nyw8 cyw8 Hyw8 ((u2.set i (((u2.getD i []).set j x10)))), blk bka13 29 [.slice ay8 ny8 cy8, .slice ayw8 nyw8 cyw8, .slice ayv8 nyv8 cyv8], OwnR ndK 52 2 ay8 ny8 cy8 Hy8 y7, OwnR maK 50 2 ayv8 nyv8 cyv8 Hyv8 v2, OwnR ndK 52 2 ay7 ny7 cy7 Hy7 y7, blk bka1 29 [.slice none 0 0, .slice none 0 0, .slice none 0 0]]) (good := fun x => 0 ≤ x ∧ (x < (3 : Int) ∨ x = 0)) (φs := fun x => [srcP bk ca bs cc]) (val := fun x => .int .i64 x) rfl Tryd.call24 (by exact (fun _ _ h => h.pick [2])) rfl rfl (fun w M1 hs hk => src_next bk ca bs cc (3 : Int) w M1 hs (hk _ kcode) hok) ?_
        intro x14 hx14
        replace hx14 : 0 ≤ x14 ∧ x14 < (3 : Int) := by omega
        try dsimp only at hx14
        refine rPieces (L' := [srcP bk ca bs cc, OwnR maK 50 2 ayw8 nyw8 cyw8 Hyw8 ((u2.set i (((u2.getD i []).set j x10)))), blk bka13 29 [.slice ay8 ny8 cy8, .slice ayw8 nyw8 cyw8, .slice ayv8 nyv8 cyv8], OwnR ndK 52 2 ay8 ny8 cy8 Hy8 y7, OwnR maK 50 2 ayv8 nyv8 cyv8 Hyv8 v2, OwnR ndK 52 2 ay7 ny7 cy7 Hy7 y7, blk bka1 29 [.slice none 0 0, .slice none 0 0, .slice none 0 0]]) (fun _ h => h) ?_
        refine sub rfl rfl rfl rfl (by omega) ?_
        refine rPieces (L' := [OwnR maK 50 2 ayv8 nyv8 cyv8 Hyv8 v2, srcP bk ca bs cc, OwnR maK 50 2 ayw8 nyw8 cyw8 Hyw8 ((u2.set i (((u2.getD i []).set j x10)))), blk bka13 29 [.slice ay8 ny8 cy8, .slice ayw8 nyw8 cyw8, .slice ayv8 nyv8 cyv8], OwnR ndK 52 2 ay8 ny8 cy8 Hy8 y7, OwnR ndK 52 2 ay7 ny7 cy7 Hy7 y7, blk bka1 29 [.slice none 0 0, .slice none 0 0, .slice none 0 0]]) (fun _ h => h.pick [4, 0, 0, 0, 0, 0, 0]) ?_
        refine rPieces (L' := [OwnI 2 ((Hyv8 i).1) ((v2.getD i []).length) ((Hyv8 i).2) (v2.getD i []), OwnH maK 50 2 ayv8 nyv8 cyv8 Hyv8 v2 i, srcP bk ca bs cc, OwnR maK 50 2 ayw8 nyw8 cyw8 Hyw8 ((u2.set i (((u2.getD i []).set j x10)))), blk bka13 29 [.slice ay8 ny8 cy8, .slice ayw8 nyw8 cyw8, .slice ayv8 nyv8 cyv8], OwnR ndK 52 2 ay8 ny8 cy8 Hy8 y7, OwnR ndK 52 2 ay7 ny7 cy7 Hy7 y7, blk bka1 29 [.slice none 0 0, .slice none 0 0, .slice none 0 0]]) (fun _ h => Sep.lend h i (v2.getD i []) (nth [] (by omega))) ?_
        refine oxI (zn := j) 0 rfl el50 rfl rfl rfl rfl (by omega) (by omega) rfl ?_
        intro gk15 hgk15
        refine stoI (off := j) (x := (x14 - 1)) 0 rfl hgk15 Tryd.sizeOf2 (fun _ h => h.pick [4]) rfl rfl rfl rfl (by omega) ?_
        refine rPieces (L' := [OwnR maK 50 2 ayv8 nyv8 cyv8 Hyv8 ((v2.set i (((v2.getD i []).set j (x14 - 1))))), srcP bk ca bs cc, OwnR maK 50 2 ayw8 nyw8 cyw8 Hyw8 ((u2.set i (((u2.getD i []).set j x10)))), blk bka13 29 [.slice ay8 ny8 cy8, .slice ayw8 nyw8 cyw8, .slice ayv8 nyv8 cyv8], OwnR ndK 52 2 ay8 ny8 cy8 Hy8 y7, OwnR ndK 52 2 ay7 ny7 cy7 Hy7 y7, blk bka1 29 [.slice none 0 0, .slice none 0 0, .slice none 0 0]]) (fun _ h => Sep.back (x := (v2.getD i [])) ((v2.getD i []).set j (x14 - 1)) maK.ok h (nth [] (by omega)) (fun h1 h2 => by dsimp only [ndK, ndC, maK] at h1 h2 ⊢; rw [h1, h2]) rfl rfl) ?_
        refine rNil ?_
        refine qSeq rfl ?_
        refine hReg (sq 0 (sq 1 (sq 2 sz))) (by kernel_rfl) ?_
        refine mvI rfl rfl rfl ?_
        refine add rfl rfl rfl rfl (by omega) ?_
        refine asI rfl rfl rfl ?_
        refine rNil ?_
        exact qNext rfl ((j + 1, (u2.set i (((u2.getD i []).set j x10))), (v2.set i (((v2.getD i []).set j (x14 - 1)))))) (by dsimp only; omega) ⟨by dsimp only; omega, Math.rect_set hu2 (by omega), by first | exact hv2 | exact Math.rect_set hv2 (by omega)⟩ ⟨rfl, rfl, rfl, rfl, rfl, rfl, trivial⟩ (fun _ h => h.pick [3, 3, 2, 0, 0, 0, 0])
       ·
        refine callMK (α := Int) (Lf := [srcP bk ca bs cc]) (Lr := [OwnR maK 50 2 ayw8 nyw8 cyw8 Hyw8 ((u2.set i (((u2.getD i []).set j x10)))), blk bka13 29 [.slice ay8 ny8 cy8, .slice ayw8 nyw8 cyw8, .slice ayv8 nyv8 cyv8], OwnR ndK 52 2 ay8 ny8 cy8 Hy8 y7, OwnR maK 50 2 ayv8 nyv8 cyv8 Hyv8 v2, OwnR ndK 52 2 ay7 ny7 cy7 Hy7 y7, blk bka1 29 [.slice none 0 0, .slice none 0 0, .slice none 0 0]]) (good := fun x => 0 ≤ x ∧ (x < (3 : Int) ∨ x = 0)) (φs := fun x => [srcP bk ca bs cc]) (val := fun x => .int .i64 x) rfl Tryd.call24 (by exact (fun _ _ h => h.pick [2])) rfl rfl (fun w M1 hs hk => src_next bk ca bs cc (3 : Int) w M1 hs (hk _ kcode) hok) ?_
        intro x16 hx16
        replace hx16 : 0 ≤ x16 ∧ x16 < (3 : Int) := by omega
        try dsimp only at hx16
        refine rPieces (L' := [srcP bk ca bs cc, OwnR maK 50 2 ayw8 nyw8 cyw8 Hyw8 ((u2.set i (((u2.getD i []).set j x10)))), blk bka13 29 [.slice ay8 ny8 cy8, .slice ayw8 nyw8 cyw8, .slice ayv8 nyv8 cyv8], OwnR ndK 52 2 ay8 ny8 cy8 Hy8 y7, OwnR maK 50 2 ayv8 nyv8 cyv8 Hyv8 v2, OwnR ndK 52 2 ay7 ny7 cy7 Hy7 y7, blk bka1 29 [.slice none 0 0, .slice none 0 0, .slice none 0 0]]) (fun _ h => h) ?_
        refine sub rfl rfl rfl rfl (by omega) ?_
        refine ldl Tryd.isAgg50 (Kn.fld e13 0 rfl) (fun _ h => h.pick [2]) rfl rfl rfl ?_
        refine rPieces (L' := [OwnR maK 50 2 ayv8 nyv8 cyv8 Hyv8 v2, srcP bk ca bs cc, OwnR maK 50 2 ayw8 nyw8 cyw8 Hyw8 ((u2.set i (((u2.getD i []).set j x10)))), blk bka13 29 [.slice ay8 ny8 cy8, .slice ayw8 nyw8 cyw8, .slice ayv8 nyv8 cyv8], OwnR ndK 52 2 ay8 ny8 cy8 Hy8 y7, OwnR ndK 52 2 ay7 ny7 cy7 Hy7 y7, blk bka1 29 [.slice none 0 0, .slice none 0 0, .slice none 0 0]]) (fun _ h => h.pick [4, 0, 0, 0, 0, 0, 0]) ?_
        refine rPieces (L' := [OwnI 2 ((Hyv8 i).1) ((v2.getD i []).length) ((Hyv8 i).2) (v2.getD i []), OwnH maK 50 2 ayv8 nyv8 cyv8 Hyv8 v2 i, srcP bk ca bs cc, OwnR maK 50 2 ayw8 nyw8 cyw8 Hyw8 ((u2.set i (((u2.getD i []).set j x10)))), blk bka13 29 [.slice ay8 ny8 cy8, .slice ayw8 nyw8 cyw8, .slice ayv8 nyv8 cyv8], OwnR ndK 52 2 ay8 ny8 cy8 Hy8 y7, OwnR ndK 52 2 ay7 ny7 cy7 Hy7 y7, blk bka1 29 [.slice none 0 0, .slice none 0 0, .slice none 0 0]]) (fun _ h => Sep.lend h i (v2.getD i []) (nth [] (by omega))) ?_
        refine oxI (zn := j) 0 rfl el50 rfl rfl rfl rfl (by omega) (by omega) rfl ?_
        intro gk17 hgk17
        refine stoI (off := j) (x := (x16 - 1)) 0 rfl hgk17 Tryd.sizeOf2 (fun _ h => h.pick [4]) rfl rfl rfl rfl (by omega) ?_
        refine rPieces (L' := [OwnR maK 50 2 ayv8 nyv8 cyv8 Hyv8 ((v2.set i (((v2.getD i []).set j (x16 - 1))))), srcP bk ca bs cc, OwnR maK 50 2 ayw8 nyw8 cyw8 Hyw8 ((u2.set i (((u2.getD i []).set j x10)))), blk bka13 29 [.slice ay8 ny8 cy8, .slice ayw8 nyw8 cyw8, .slice ayv8 nyv8 cyv8], OwnR ndK 52 2 ay8 ny8 cy8 Hy8 y7, OwnR ndK 52 2 ay7 ny7 cy7 Hy7 y7, blk bka1 29 [.slice none 0 0, .slice none 0 0, .slice none 0 0]]) (fun _ h => Sep.back (x := (v2.getD i [])) ((v2.getD i []).set j (x16 - 1)) maK.ok h (nth [] (by omega)) (fun h1 h2 => by dsimp only [ndK, ndC, maK] at h1 h2 ⊢; rw [h1, h2]) rfl rfl) ?_
        refine rNil ?_
        refine qSeq rfl ?_
        refine hReg (sq 0 (sq 1 (sq 2 sz))) (by kernel_rfl) ?_
        refine mvI rfl rfl rfl ?_
        refine add rfl rfl rfl rfl (by omega) ?_
        refine asI rfl rfl rfl ?_
        refine rNil ?_
        exact qNext rfl ((j + 1, (u2.set i (((u2.getD i []).set j x10))), (v2.set i (((v2.getD i []).set j (x16 - 1)))))) (by dsimp only; omega) ⟨by dsimp only; omega, Math.rect_set hu2 (by omega), by first | exact hv2 | exact Math.rect_set hv2 (by omega)⟩ ⟨rfl, rfl, rfl, rfl, rfl, rfl, trivial⟩ (fun _ h => h.pick [3, 3, 2, 0, 0, 0, 0])
      ·
       replace c5 : ¬ (x12 = 0) := c5
       refine hSkip ?_
       refine qSeq rfl ?_
       refine hReg (sq 0 (sq 1 (sq 2 sz))) (by kernel_rfl) ?_
       refine mvI rfl rfl rfl ?_
       refine add rfl rfl rfl rfl (by omega) ?_
       refine asI rfl rfl rfl ?_
       refine rNil ?_
       exact qNext rfl ((j + 1, (u2.set i (((u2.getD i []).set j x10))), v2)) (by dsimp only; omega) ⟨by dsimp only; omega, Math.rect_set hu2 (by omega), by first | exact hv2 | exact Math.rect_set hv2 (by omega)⟩ ⟨rfl, rfl, rfl, rfl, rfl, rfl, trivial⟩ (fun _ h => h.pick [2, 2, 1, 1, 0, 0, 0])
     ·
      refine callMK (α := Int) (Lf := [srcP bk ca bs cc]) (Lr := [blk bka13 29 [.slice ay8 ny8 cy8, .slice ayw8 nyw8 cyw8, .slice ayv8 nyv8 cyv8], OwnR ndK 52 2 ay8 ny8 cy8 Hy8 y7, OwnR maK 50 2 ayw8 nyw8 cyw8 Hyw8 u2, OwnR maK 50 2 ayv8 nyv8 cyv8 Hyv8 v2, OwnR ndK 52 2 ay7 ny7 cy7 Hy7 y7, blk bka1 29 [.slice none 0 0, .slice none 0 0, .slice none 0 0]]) (good := fun x => 0 ≤ x ∧ (x < (4 : Int) ∨ x = 0)) (φs := fun x => [srcP bk ca bs cc]) (val := fun x => .int .i64 x) rfl Tryd.call24 (by exact (fun _ _ h => h.pick [1])) rfl rfl (fun w M1 hs hk => src_next bk ca bs cc (4 : Int) w M1 hs (hk _ kcode) hok) ?_
      intro x18 hx18
      replace hx18 : 0 ≤ x18 ∧ x18 < (4 : Int) := by omega
      try dsimp only at hx18
      refine rPieces (L' := [srcP bk ca bs cc, blk bka13 29 [.slice ay8 ny8 cy8, .slice ayw8 nyw8 cyw8, .slice ayv8 nyv8 cyv8], OwnR ndK 52 2 ay8 ny8 cy8 Hy8 y7, OwnR maK 50 2 ayw8 nyw8 cyw8 Hyw8 u2, OwnR maK 50 2 ayv8 nyv8 cyv8 Hyv8 v2, OwnR ndK 52 2 ay7 ny7 cy7 Hy7 y7, blk bka1 29 [.slice none 0 0, .slice none 0 0, .slice none 0 0]]) (fun _ h => h) ?_
      refine ldl Tryd.isAgg50 (Kn.fld e9 0 rfl) (fun _ h => h.pick [1]) rfl rfl rfl ?_
      refine rPieces (L' := [OwnR maK 50 2 ayw8 nyw8 cyw8 Hyw8 u2, srcP bk ca bs cc, blk bka13 29 [.slice ay8 ny8 cy8, .slice ayw8 nyw8 cyw8, .slice ayv8 nyv8 cyv8], OwnR ndK 52 2 ay8 ny8 cy8 Hy8 y7, OwnR maK 50 2 ayv8 nyv8 cyv8 Hyv8 v2, OwnR ndK 52 2 ay7 ny7 cy7 Hy7 y7, blk bka1 29 [.slice none 0 0, .slice none 0 0, .slice none 0 0]]) (fun _ h => h.pick [3, 0, 0, 0, 0, 0, 0]) ?_
      refine rPieces (L' := [OwnI 2 ((Hyw8 i).1) ((u2.getD i []).length) ((Hyw8 i).2) (u2.getD i []), OwnH maK 50 2 ayw8 nyw8 cyw8 Hyw8 u2 i, srcP bk ca bs cc, blk bka13 29 [.slice ay8 ny8 cy8, .slice ayw8 nyw8 cyw8, .slice ayv8 nyv8 cyv8], OwnR ndK 52 2 ay8 ny8 cy8 Hy8 y7, OwnR maK 50 2 ayv8 nyv8 cyv8 Hyv8 v2, OwnR ndK 52 2 ay7 ny7 cy7 Hy7 y7, blk bka1 29 [.slice none 0 0, .slice none 0 0, .slice none 0 0]]) (fun _ h => Sep.lend h i (u2.getD i []) (nth [] (by omega))) ?_
      refine oxI (zn := j) 0 rfl el50 rfl rfl rfl rfl (by omega) (by omega) rfl ?_
      intro gk19 hgk19
      refine stoI (off := j) (x := x18) 0 rfl hgk19 Tryd.sizeOf2 (fun _ h => h.pick [3]) rfl rfl rfl rfl (by omega) ?_
      refine rPieces (L' := [OwnR maK 50 2 ayw8 nyw8 cyw8 Hyw8 ((u2.set i (((u2.getD i []).set j x18)))), srcP bk ca bs cc, blk bka13 29 [.slice ay8 ny8 cy8, .slice ayw8 nyw8 cyw8, .slice ayv8 nyv8 cyv8], OwnR ndK 52 2 ay8 ny8 cy8 Hy8 y7, OwnR maK 50 2 ayv8 nyv8 cyv8 Hyv8 v2, OwnR ndK 52 2 ay7 ny7 cy7 Hy7 y7, blk bka1 29 [.slice none 0 0, .slice none 0 0, .slice none 0 0]]) (fun _ h => Sep.back (x := (u2.getD i [])) ((u2.getD i []).set j x18) maK.ok h (nth [] (by omega)) (fun h1 h2 => by dsimp only [ndK, ndC, maK] at h1 h2 ⊢; rw [h1, h2]) rfl rfl) ?_
      refine rNil ?_
      refine qSeq rfl ?_
      refine hSeq ?_
      refine hReg (sq 0 (sl 1 (sq 2 sz))) (by kernel_rfl) ?_
      refine mvP rfl rfl rfl ?_
      refine rPieces (L' := [srcP bk ca bs cc, OwnR maK 50 2 ayw8 nyw8 cyw8 Hyw8 ((u2.set i (((u2.getD i []).set j x18)))), blk bka13 29 [.slice ay8 ny8 cy8, .slice ayw8 nyw8 cyw8, .slice ayv8 nyv8 cyv8], OwnR ndK 52 2 ay8 ny8 cy8 Hy8 y7, OwnR maK 50 2 ayv8 nyv8 cyv8 Hyv8 v2, OwnR ndK 52 2 ay7 ny7 cy7 Hy7 y7, blk bka1 29 [.slice none 0 0, .slice none 0 0, .slice none 0 0]]) (fun _ h => h.perm (pull (i := 1) rfl)) ?_
      refine callMK (α := Int) (Lf := [srcP bk ca bs cc]) (Lr := [OwnR maK 50 2 ayw8 nyw8 cyw8 Hyw8 ((u2.set i (((u2.getD i []).set j x18)))), blk bka13 29 [.slice ay8 ny8 cy8, .slice ayw8 nyw8 cyw8, .slice ayv8 nyv8 cyv8], OwnR ndK 52 2 ay8 ny8 cy8 Hy8 y7, OwnR maK 50 2 ayv8 nyv8 cyv8 Hyv8 v2, OwnR ndK 52 2 ay7 ny7 cy7 Hy7 y7, blk bka1 29 [.slice none 0 0, .slice none 0 0, .slice none 0 0]]) (good := fun x => 0 ≤ x ∧ (x < (4 : Int) ∨ x = 0)) (φs := fun x => [srcP bk ca bs cc]) (val := fun x => .int .i64 x) rfl Tryd.call24 trv1 rfl rfl (fun w M1 hs hk => src_next bk ca bs cc (4 : Int) w M1 hs (hk _ kcode) hok) ?_
      intro x20 hx20
      replace hx20 : 0 ≤ x20 ∧ x20 < (4 : Int) := by omega
      try dsimp only at hx20
      refine rPieces (L' := [srcP bk ca bs cc, OwnR maK 50 2 ayw8 nyw8 cyw8 Hyw8 ((u2.set i (((u2.getD i []).set j x18)))), blk bka13 29 [.slice ay8 ny8 cy8, .slice ayw8 nyw8 cyw8, .slice ayv8 nyv8 cyv8], OwnR ndK 52 2 ay8 ny8 cy8 Hy8 y7, OwnR maK 50 2 ayv8 nyv8 cyv8 Hyv8 v2, OwnR ndK 52 2 ay7 ny7 cy7 Hy7 y7, blk bka1 29 [.slice none 0 0, .slice none 0 0, .slice none 0 0]]) (fun _ h => h) ?_
      refine eql rfl rfl rfl rfl ?_
      refine rNil ?_
      refine qSeq rfl ?_
      refine hIfD rfl (fun c6 => ?_) (fun c6 => ?_)
      ·
       replace c6 : x20 = 0 := c6
       refine hDraw (Ls := [blk bka13 29 [.slice ay8 ny8 cy8, .slice ayw8 nyw8 cyw8, .slice ayv8 nyv8 cyv8]]) (by kernel_rfl) (sq 0 (sq 1 (sq 2 (sq 3 (sq 5 (sq 6 (.alt (sl 4 (sl 7 (sq 8 (sq 9 (sl 10 sz))))) (sl 7 (sq 8 (sl 4 (sq 9 (sl 10 sz)))))))))))) (by kernel_rfl) (.cons _ (.cons _ (.cons_cons _ (.cons _ (.cons _ (.cons _ (.cons _ .slnil))))))) ?_
       refine fld fl29_2 rfl rfl rfl ?_
       refine ldq Tryd.isAgg27 (cB 0 rfl rfl) rfl rfl rfl ?_
       refine mvI rfl rfl rfl ?_
       refine ixRl (zn := i) (v2.getD i []) el27 ((Kn.at_ 4 rfl).imp fun _ h => OwnR.rd h maK.ok) rfl rfl rfl rfl (by omega) (by omega) rfl (nth [] (by omega)) ?_
       intro be21 oe21 e21
       refine mvI rfl rfl rfl ?_
       refine mvP rfl rfl rfl ?_
       refine rAlt ?_ ?_
       ·
        refine ldl Tryd.isAgg50 (Kn.fld e21 0 rfl) (fun _ h => h.pick [2]) rfl rfl rfl ?_
        refine callMK (α := Int) (Lf := [srcP bk ca bs cc]) (Lr := [OwnR maK 50 2 ayw8 nyw8 cyw8 Hyw8 ((u2.set i (((u2.getD i []).set j x18)))), blk bka13 29 [.slice ay8 ny8 cy8, .slice ayw8 nyw8 cyw8, .slice ayv8 nyv8 cyv8], OwnR ndK 52 2 ay8 ny8 cy8 Hy8 y7, OwnR maK 50 2 ayv8 nyv8 cyv8 Hyv8 v2, OwnR ndK 52 2 ay7 ny7 cy7 Hy7 y7, blk bka1 29 [.slice none 0 0, .slice none 0 0, .slice none 0 0]]) (good := fun x => 0 ≤ x ∧ (x < (3 : Int) ∨ x = 0)) (φs := fun x => [srcP bk ca bs cc]) (val := fun x => .int .i64 x) rfl Tryd.call24 (by exact (fun _ _ h => h.pick [2])) rfl rfl (fun w M1 hs hk => src_next bk ca bs cc (3 : Int) w M1 hs (hk _ kcode) hok) ?_
        intro x22 hx22
        replace hx22 : 0 ≤ x22 ∧ x22 < (3 : Int) := by omega
        try dsimp only at hx22
        refine rPieces (L' := [srcP bk ca bs cc, OwnR maK 50 2 ayw8 nyw8 cyw8 Hyw8 ((u2.set i (((u2.getD i []).set j x18)))), blk bka13 29 [.slice ay8 ny8 cy8, .slice ayw8 nyw8 cyw8, .slice ayv8 nyv8 cyv8], OwnR ndK 52 2 ay8 ny8 cy8 Hy8 y7, OwnR maK 50 2 ayv8 nyv8 cyv8 Hyv8 v2, OwnR ndK 52 2 ay7 ny7 cy7 Hy7 y7, blk bka1 29 [.slice none 0 0, .slice none 0 0, .slice none 0 0]]) (fun _ h => h) ?_
        refine sub rfl rfl rfl rfl (by omega) ?_
        refine rPieces (L' := [OwnR maK 50 2 ayv8 nyv8 cyv8 Hyv8 v2, srcP bk ca bs cc, OwnR maK 50 2 ayw8 nyw8 cyw8 Hyw8 ((u2.set i (((u2.getD i []).set j x18)))), blk bka13 29 [.slice ay8 ny8 cy8, .slice ayw8 nyw8 cyw8, .slice ayv8 nyv8 cyv8], OwnR ndK 52 2 ay8 ny8 cy8 Hy8 y7, OwnR ndK 52 2 ay7 ny7 cy7 Hy7 y7, blk bka1 29 [.slice none 0 0, .slice none 0 0, .slice none 0 0]]) (fun _ h => h.pick [4, 0, 0, 0, 0, 0, 0]) ?_
        refine rPieces (L' := [OwnI 2 ((Hyv8 i).1) ((v2.getD i []).length) ((Hyv8 i).2) (v2.getD i []), OwnH maK 50 2 ayv8 nyv8 cyv8 Hyv8 v2 i, srcP bk ca bs cc, OwnR maK 50 2 ayw8 nyw8 cyw8 Hyw8 ((u2.set i (((u2.getD i []).set j x18)))), blk bka13 29 [.slice ay8 ny8 cy8, .slice ayw8 nyw8 cyw8, .slice ayv8 nyv8 cyv8], OwnR ndK 52 2 ay8 ny8 cy8 Hy8 y7, OwnR ndK 52 2 ay7 ny7 cy7 Hy7 y7, blk bka1 29 [.slice none 0 0, .slice none 0 0, .slice none 0 0]]) (fun _ h => Sep.lend h i (v2.getD i []) (nth [] (by omega))) ?_
        refine oxI (zn := j) 0 rfl el50 rfl rfl rfl rfl (by omega) (by omega) rfl ?_
        intro gk23 hgk23
        refine stoI (off := j) (x := (x22 - 1)) 0 rfl hgk23 Tryd.sizeOf2 (fun _ h => h.pick [4]) rfl rfl rfl rfl (by omega) ?_
        refine rPieces (L' := [OwnR maK 50 2 ayv8 nyv8 cyv8 Hyv8 ((v2.set i (((v2.getD i []).set j (x22 - 1))))), srcP bk ca bs cc, OwnR maK 50 2 ayw8 nyw8 cyw8 Hyw8 ((u2.set i (((u2.getD i []).set j x18)))), blk bka13 29 [.slice ay8 ny8 cy8, .slice ayw8 nyw8 cyw8, .slice ayv8 nyv8 cyv8], OwnR ndK 52 2 ay8 ny8 cy8 Hy8 y7, OwnR ndK 52 2 ay7 ny7 cy7 Hy7 y7, blk bka1 29 [.slice none 0 0, .slice none 0 0, .slice none 0 0]]) (fun _ h => Sep.back (x := (v2.getD i [])) ((v2.getD i []).set j (x22 - 1)) maK.ok h (nth [] (by omega)) (fun h1 h2 => by dsimp only [ndK, ndC, maK] at h1 h2 ⊢; rw [h1, h2]) rfl rfl) ?_
        refine rNil ?_
        refine qSeq rfl ?_
        refine hReg (sq 0 (sq 1 (sq 2 sz))) (by kernel_rfl) ?_
        refine mvI rfl rfl rfl ?_
        refine add rfl rfl rfl rfl (by omega) ?_
        refine asI rfl rfl rfl ?_
        refine rNil ?_
        exact qNext rfl ((j + 1, (u2.set i (((u2.getD i []).set j x18))), (v2.set i (((v2.getD i []).set j (x22 - 1)))))) (by dsimp only; omega) ⟨by dsimp only; omega, Math.rect_set hu2 (by omega), by first | exact hv2 | exact Math.rect_set hv2 (by omega)⟩ ⟨rfl, rfl, rfl, rfl, rfl, rfl, trivial⟩ (fun _ h => h.pick [3, 3, 2, 0, 0, 0, 0])
       ·
        refine callMK (α := Int) (Lf := [srcP bk ca bs cc]) (Lr := [OwnR maK 50 2 ayw8 nyw8 cyw8 Hyw8 ((u2.set i (((u2.getD i []).set j x18)))), blk bka13 29 [.slice ay8 ny8 cy8, .slice ayw8 nyw8 cyw8, .slice ayv8 nyv8 cyv8], OwnR ndK 52 2 ay8 ny8 cy8 Hy8 y7, OwnR maK 50 2 ayv8 nyv8 cyv8 Hyv8 v2, OwnR ndK 52 2 ay7 ny7 cy7 Hy7 y7, blk bka1 29 [.slice none 0 0, .slice none 0 0, .slice none 0 0]]) (good := fun x => 0 ≤ x ∧ (x < (3 : Int) ∨ x = 0)) (φs := fun x => [srcP bk ca bs cc]) (val := fun x => .int .i64 x) rfl Tryd.call24 (by exact (fun _ _ h => h.pick [2])) rfl rfl (fun w M1 hs hk => src_next bk ca bs cc (3 : Int) w M1 hs (hk _ kcode) hok) ?_
        intro x24 hx24
        replace hx24 : 0 ≤ x24 ∧ x24 < (3 : Int) := by omega
        try dsimp only at hx24
        refine rPieces (L' := [srcP bk ca bs cc, OwnR maK 50 2 ayw8 nyw8 cyw8 Hyw8 ((u2.set i (((u2.getD i []).set j x18)))), blk bka13 29 [.slice ay8 ny8 cy8, .slice ayw8 nyw8 cyw8, .slice ayv8 nyv8 cyv8], OwnR ndK 52 2 ay8 ny8 cy8 Hy8 y7, OwnR maK 50 2 ayv8 nyv8 cyv8 Hyv8 v2, OwnR ndK 52 2 ay7 ny7 cy7 Hy7 y7, blk bka1 29 [.slice none 0 0, .slice none 0 0, .slice none 0 0]]) (fun _ h => h) ?_
        refine sub rfl rfl rfl rfl (by omega) ?_
        refine ldl Tryd.isAgg50 (Kn.fld e21 0 rfl) (fun _ h => h.pick [2]) rfl rfl rfl ?_
        refine rPieces (L' := [OwnR maK 50 2 ayv8 nyv8 cyv8 Hyv8 v2, srcP bk ca bs cc, OwnR maK 50 2 ayw8 nyw8 cyw8 Hyw8 ((u2.set i (((u2.getD i []).set j x18)))), blk bka13 29 [.slice ay8 ny8 cy8, .slice ayw8 nyw8 cyw8, .slice ayv8 nyv8 cyv8], OwnR ndK 52 2 ay8 ny8 cy8 Hy8 y7, OwnR ndK 52 2 ay7 ny7 cy7 Hy7 y7, blk bka1 29 [.slice none 0 0, .slice none 0 0, .slice none 0 0]]) (fun _ h => h.pick [4, 0, 0, 0, 0, 0, 0]) ?_
        refine rPieces (L' := [OwnI 2 ((Hyv8 i).1) ((v2.getD i []).length) ((Hyv8 i).2) (v2.getD i []), OwnH maK 50 2 ayv8 nyv8 cyv8 Hyv8 v2 i, srcP bk ca bs cc, OwnR maK 50 2 ayw8 nyw8 cyw8 Hyw8 ((u2.set i (((u2.getD i []).set j x18)))), blk bka13 29 [.slice ay8 ny8 cy8, .slice ayw8 nyw8 cyw8, .slice ayv8 nyv8 cyv8], OwnR ndK 52 2 ay8 ny8 cy8 Hy8 y7, OwnR ndK 52 2 ay7 ny7 cy7 Hy7 y7, blk bka1 29 [.slice none 0 0, .slice none 0 0, .slice none 0 0]]) (fun _ h => Sep.lend h i (v2.getD i []) (nth [] (by omega))) ?_
        refine oxI (zn := j) 0 rfl el50 rfl rfl rfl rfl (by omega) (by omega) rfl ?_
        intro gk25 hgk25
        refine stoI (off := j) (x := (x24 - 1)) 0 rfl hgk25 Tryd.sizeOf2 (fun _ h => h.pick [4]) rfl rfl rfl rfl (by omega) ?_
        refine rPieces (L' := [OwnR maK 50 2 ayv8 nyv8 cyv8 Hyv8 ((v2.set i (((v2.getD i []).set j (x24 - 1))))), srcP bk ca bs cc, OwnR maK 50 2 ayw8 nyw8 cyw8 Hyw8 ((u2.set i (((u2.getD i []).set j x18)))), blk bka13 29 [.slice ay8 ny8 cy8, .slice ayw8 nyw8 cyw8, .slice ayv8 nyv8 cyv8], OwnR ndK 52 2 ay8 ny8 cy8 Hy8 y7, OwnR ndK 52 2 ay7 ny7 cy7 Hy7 y7, blk bka1 29 [.slice none 0 0, .slice none 0 0, .slice none 0 0]]) (fun _ h => Sep.back (x := (v2.getD i [])) ((v2.getD i []).set j (x24 - 1)) maK.ok h (nth [] (by omega)) (fun h1 h2 => by dsimp only [ndK, ndC, maK] at h1 h2 ⊢; rw [h1, h2]) rfl rfl) ?_
        refine rNil ?_
        refine qSeq rfl ?_
        refine hReg (sq 0 (sq 1 (sq 2 sz))) (by kernel_rfl) ?_
        refine mvI rfl rfl rfl ?_
        refine add rfl rfl rfl rfl (by omega) ?_
        refine asI rfl rfl rfl ?_
        refine rNil ?_
        exact qNext rfl ((j + 1, (u2.set i (((u2.getD i []).set j x18))), (v2.set i (((v2.getD i []).set j (x24 - 1)))))) (by dsimp only; omega) ⟨by dsimp only; omega, Math.rect_set hu2 (by omega), by first | exact hv2 | exact Math.rect_set hv2 (by omega)⟩ ⟨rfl, rfl, rfl, rfl, rfl, rfl, trivial⟩ (fun _ h => h.pick [3, 3, 2, 0, 0, 0, 0])
      ·
       replace c6 : ¬ (x20 = 0) := c6
       refine hSkip ?_
       refine qSeq rfl ?_
       refine hReg (sq 0 (sq 1 (sq 2 sz))) (by kernel_rfl) ?_
       refine mvI rfl rfl rfl ?_
       refine add rfl rfl rfl rfl (by omega) ?_
       refine asI rfl rfl rfl ?_
       refine rNil ?_
       exact qNext rfl ((j + 1, (u2.set i (((u2.getD i []).set j x18))), v2)) (by dsimp only; omega) ⟨by dsimp only; omega, Math.rect_set hu2 (by omega), by first | exact hv2 | exact Math.rect_set hv2 (by omega)⟩ ⟨rfl, rfl, rfl, rfl, rfl, rfl, trivial⟩ (fun _ h => h.pick [2, 2, 1, 1, 0, 0, 0])
    ·
     replace c4 : ¬ ((j : Int) < (1 + x6)) := c4
     refine hExit rfl ?_
     refine qSeq rfl ?_
     refine hReg (sq 0 (sq 1 (sq 2 sz))) (by kernel_rfl) ?_
     refine mvI rfl rfl rfl ?_
     refine add rfl rfl rfl rfl (by omega) ?_
     refine asI rfl rfl rfl ?_
     refine rNil ?_
     exact qNext rfl (i + 1, u2, v2) (by dsimp only; omega) ⟨by dsimp only; omega, hu2, hv2⟩ ⟨rfl, rfl, rfl, rfl, rfl, trivial⟩ (fun _ h => h.pick [0, 0, 0, 0, 0, 0, 0])
   ·
    replace c3 : ¬ ((i : Int) < (1 + x6)) := c3
    refine hExit rfl ?_
    refine qSeq rfl ?_
    refine hSeq ?_
    refine hDraw (Ls := [blk bka13 29 [.slice ay8 ny8 cy8, .slice ayw8 nyw8 cyw8, .slice ayv8 nyv8 cyv8]]) (by kernel_rfl) (sq 0 (sq 1 (sq 2 (sq 4 (sq 5 (sq 6 (.alt (sl 3 (sl 7 (sq 8 (sl 9 (sq 10 (sq 11 (sl 12 sz))))))) (sl 7 (sq 8 (.alt (sl 3 (sl 9 (sq 10 (sq 11 (sl 12 sz))))) (sl 9 (sq 10 (sl 3 (sq 11 (sl 12 sz))))))))))))))) (by kernel_rfl) (.cons_cons _ (.cons _ (.cons _ (.cons _ (.cons _ (.cons _ (.cons _ .slnil))))))) ?_
    refine rPieces (L' := [srcP bk ca bs cc, blk bka13 29 [.slice ay8 ny8 cy8, .slice ayw8 nyw8 cyw8, .slice ayv8 nyv8 cyv8], OwnR ndK 52 2 ay8 ny8 cy8 Hy8 y7, OwnR maK 50 2 ayw8 nyw8 cyw8 Hyw8 u, OwnR maK 50 2 ayv8 nyv8 cyv8 Hyv8 v, OwnR ndK 52 2 ay7 ny7 cy7 Hy7 y7, blk bka1 29 [.slice none 0 0, .slice none 0 0, .slice none 0 0]]) (fun _ h => h.perm (pull (i := 4) rfl)) ?_
    refine fld fl29_1 rfl rfl rfl ?_
    refine ldq Tryd.isAgg27 (cB 0 rfl rfl) rfl rfl rfl ?_
    refine ixRl (zn := 0) (u.getD 0 []) el27 ((Kn.at_ 3 rfl).imp fun _ h => OwnR.rd h maK.ok) rfl rfl rfl rfl (by omega) (by omega) rfl (nth [] (by omega)) ?_
    intro be26 oe26 e26
    refine fld fl29_1 rfl rfl rfl ?_
    refine ldq Tryd.isAgg27 (cB 0 rfl rfl) rfl rfl rfl ?_
    refine ixRl (zn := 0) (u.getD 0 []) el27 ((Kn.at_ 3 rfl).imp fun _ h => OwnR.rd h maK.ok) rfl rfl rfl rfl (by omega) (by omega) rfl (nth [] (by omega)) ?_
    intro be27 oe27 e27
    refine rAlt ?_ ?_
    ·
     refine ldl Tryd.isAgg50 (Kn.fld e26 0 rfl) (fun _ h => h.pick [1]) rfl rfl rfl ?_
     refine ldl Tryd.isAgg50 (Kn.fld e27 0 rfl) (fun _ h => h.pick [1]) rfl rfl rfl ?_
     refine ixIl (zn := 0) el50 ((Kn.imp ((Kn.at_ (φ := OwnR maK 50 2 ayw8 nyw8 cyw8 Hyw8 u) 3 rfl).imp fun _ h => OwnR.rd h maK.ok) fun _ h => h.kidM (nth [] (by omega)))) rfl rfl rfl rfl (by omega) (by omega) rfl ?_
     intro ae28 e28
     refine ldl Tryd.isAgg2 (e28) (fun _ h => h.pick [1]) rfl rfl rfl ?_
     refine max2 rfl rfl rfl rfl ?_
     refine rPieces (L' := [OwnR maK 50 2 ayw8 nyw8 cyw8 Hyw8 u, srcP bk ca bs cc, blk bka13 29 [.slice ay8 ny8 cy8, .slice ayw8 nyw8 cyw8, .slice ayv8 nyv8 cyv8], OwnR ndK 52 2 ay8 ny8 cy8 Hy8 y7, OwnR maK 50 2 ayv8 nyv8 cyv8 Hyv8 v, OwnR ndK 52 2 ay7 ny7 cy7 Hy7 y7, blk bka1 29 [.slice none 0 0, .slice none 0 0, .slice none 0 0]]) (fun _ h => h.pick [3, 0, 0, 0, 0, 0, 0]) ?_
     refine rPieces (L' := [OwnI 2 ((Hyw8 0).1) ((u.getD 0 []).length) ((Hyw8 0).2) (u.getD 0 []), OwnH maK 50 2 ayw8 nyw8 cyw8 Hyw8 u 0, srcP bk ca bs cc, blk bka13 29 [.slice ay8 ny8 cy8, .slice ayw8 nyw8 cyw8, .slice ayv8 nyv8 cyv8], OwnR ndK 52 2 ay8 ny8 cy8 Hy8 y7, OwnR maK 50 2 ayv8 nyv8 cyv8 Hyv8 v, OwnR ndK 52 2 ay7 ny7 cy7 Hy7 y7, blk bka1 29 [.slice none 0 0, .slice none 0 0, .slice none 0 0]]) (fun _ h => Sep.lend h 0 (u.getD 0 []) (nth [] (by omega))) ?_
     refine oxI (zn := 0) 0 rfl el50 rfl rfl rfl rfl (by omega) (by omega) rfl ?_
     intro gk29 hgk29
     refine stoI (off := 0) (x := (max 1 (((u.getD 0 []).getD 0 0)))) 0 rfl hgk29 Tryd.sizeOf2 (fun _ h => h.pick [3]) rfl rfl rfl rfl (by omega) ?_
     refine rPieces (L' := [OwnR maK 50 2 ayw8 nyw8 cyw8 Hyw8 ((u.set 0 (((u.getD 0 []).set 0 ((max 1 (((u.getD 0 []).getD 0 0)))))))), srcP bk ca bs cc, blk bka13 29 [.slice ay8 ny8 cy8, .slice ayw8 nyw8 cyw8, .slice ayv8 nyv8 cyv8], OwnR ndK 52 2 ay8 ny8 cy8 Hy8 y7, OwnR maK 50 2 ayv8 nyv8 cyv8 Hyv8 v, OwnR ndK 52 2 ay7 ny7 cy7 Hy7 y7, blk bka1 29 [.slice none 0 0, .slice none 0 0, .slice none 0 0]]) (fun _ h => Sep.back (x := (u.getD 0 [])) ((u.getD 0 []).set 0 ((max 1 (((u.getD 0 []).getD 0 0))))) maK.ok h (nth [] (by omega)) (fun h1 h2 => by dsimp only [ndK, ndC, maK] at h1 h2 ⊢; rw [h1, h2]) rfl rfl) ?_
     refine rNil ?_
     refine qSeq rfl ?_
     refine hSeq ?_
     refine hReg (sl 0 (sl 1 sz)) (by kernel_rfl) ?_
     refine ldAl Tryd.isAgg29 Tryd.sizeOf29 (cBs 2 rfl) trv rfl rfl rfl rfl ?_
     refine stAl (vs := [.slice ay8 ny8 cy8, .slice ayw8 nyw8 cyw8, .slice ayv8 nyv8 cyv8]) 6 rfl Tryd.sizeOf29 trv rfl rfl rfl rfl rfl (by simp [Value.oneCell']) rfl ?_
     refine rNil ?_
     refine qSeq rfl ?_
     refine hRet ?_
     exact fun w hs => ⟨[_], ⟨⟨_, rfl, run_load_agg Tryd.isAgg29 Tryd.sizeOf29 rfl (cBs 6 rfl w hs)⟩, trivial⟩, ⟨(ay8, ny8, cy8, Hy8, y7, ayw8, nyw8, cyw8, Hyw8, (u.set 0 (((u.getD 0 []).set 0 ((max 1 (((u.getD 0 []).getD 0 0))))))), ayv8, nyv8, cyv8, Hyv8, v), rfl, by have hw_ : Math.rect ((u.set 0 (((u.getD 0 []).set 0 ((max 1 (((u.getD 0 []).getD 0 0)))))))) _ := Math.rect_set (i := 0) hu (by omega); have hv_ := hv; have hw1 := hw_.1; have hv1 := hv_.1; exact ⟨⟨by dsimp only; omega, by dsimp only; omega⟩, by first | assumption | exact (by assumption : _ ∧ Math.kidsB _).2, Math.rect_to hw_ (by first | assumption | omega | (dsimp only; omega)), Math.rect_to hv_ (by first | assumption | omega | (dsimp only; omega))⟩, hs.pick [1, 2, 0, 1]⟩⟩
    ·
     refine ldl Tryd.isAgg50 (Kn.fld e27 0 rfl) (fun _ h => h.pick [1]) rfl rfl rfl ?_
     refine ixIl (zn := 0) el50 ((Kn.imp ((Kn.at_ (φ := OwnR maK 50 2 ayw8 nyw8 cyw8 Hyw8 u) 3 rfl).imp fun _ h => OwnR.rd h maK.ok) fun _ h => h.kidM (nth [] (by omega)))) rfl rfl rfl rfl (by omega) (by omega) rfl ?_
     intro ae30 e30
     refine rAlt ?_ ?_
     ·
      refine ldl Tryd.isAgg50 (Kn.fld e26 0 rfl) (fun _ h => h.pick [1]) rfl rfl rfl ?_
      refine ldl Tryd.isAgg2 (e30) (fun _ h => h.pick [1]) rfl rfl rfl ?_
      refine max2 rfl rfl rfl rfl ?_
      refine rPieces (L' := [OwnR maK 50 2 ayw8 nyw8 cyw8 Hyw8 u, srcP bk ca bs cc, blk bka13 29 [.slice ay8 ny8 cy8, .slice ayw8 nyw8 cyw8, .slice ayv8 nyv8 cyv8], OwnR ndK 52 2 ay8 ny8 cy8 Hy8 y7, OwnR maK 50 2 ayv8 nyv8 cyv8 Hyv8 v, OwnR ndK 52 2 ay7 ny7 cy7 Hy7 y7, blk bka1 29 [.slice none 0 0, .slice none 0 0, .slice none 0 0]]) (fun _ h => h.pick [3, 0, 0, 0, 0, 0, 0]) ?_
      refine rPieces (L' := [OwnI 2 ((Hyw8 0).1) ((u.getD 0 []).length) ((Hyw8 0).2) (u.getD 0 []), OwnH maK 50 2 ayw8 nyw8 cyw8 Hyw8 u 0, srcP bk ca bs cc, blk bka13 29 [.slice ay8 ny8 cy8, .slice ayw8 nyw8 cyw8, .slice ayv8 nyv8 cyv8], OwnR ndK 52 2 ay8 ny8 cy8 Hy8 y7, OwnR maK 50 2 ayv8 nyv8 cyv8 Hyv8 v, OwnR ndK 52 2 ay7 ny7 cy7 Hy7 y7, blk bka1 29 [.slice none 0 0, .slice none 0 0, .slice none 0 0]]) (fun _ h => Sep.lend h 0 (u.getD 0 []) (nth [] (by omega))) ?_
      refine oxI (zn := 0) 0 rfl el50 rfl rfl rfl rfl (by omega) (by omega) rfl ?_
      intro gk31 hgk31
      refine stoI (off := 0) (x := (max 1 (((u.getD 0 []).getD 0 0)))) 0 rfl hgk31 Tryd.sizeOf2 (fun _ h => h.pick [3]) rfl rfl rfl rfl (by omega) ?_
      refine rPieces (L' := [OwnR maK 50 2 ayw8 nyw8 cyw8 Hyw8 ((u.set 0 (((u.getD 0 []).set 0 ((max 1 (((u.getD 0 []).getD 0 0)))))))), srcP bk ca bs cc, blk bka13 29 [.slice ay8 ny8 cy8, .slice ayw8 nyw8 cyw8, .slice ayv8 nyv8 cyv8], OwnR ndK 52 2 ay8 ny8 cy8 Hy8 y7, OwnR maK 50 2 ayv8 nyv8 cyv8 Hyv8 v, OwnR ndK 52 2 ay7 ny7 cy7 Hy7 y7, blk bka1 29 [.slice none 0 0, .slice none 0 0, .slice none 0 0]]) (fun _ h => Sep.back (x := (u.getD 0 [])) ((u.getD 0 []).set 0 ((max 1 (((u.getD 0 []).getD 0 0))))) maK.ok h (nth [] (by omega)) (fun h1 h2 => by dsimp only [ndK, ndC, maK] at h1 h2 ⊢; rw [h1, h2]) rfl rfl) ?_
      refine rNil ?_
      refine qSeq rfl ?_
      refine hSeq ?_
      refine hReg (sl 0 (sl 1 sz)) (by kernel_rfl) ?_
      refine ldAl Tryd.isAgg29 Tryd.sizeOf29 (cBs 2 rfl) trv rfl rfl rfl rfl ?_
      refine stAl (vs := [.slice ay8 ny8 cy8, .slice ayw8 nyw8 cyw8, .slice ayv8 nyv8 cyv8]) 6 rfl Tryd.sizeOf29 trv rfl rfl rfl rfl rfl (by simp [Value.oneCell']) rfl ?_
      refine rNil ?_
      refine qSeq rfl ?_
      refine hRet ?_
      exact fun w hs => ⟨[_], ⟨⟨_, rfl, run_load_agg Tryd.isAgg29 Tryd.sizeOf29 rfl (cBs 6 rfl w hs)⟩, trivial⟩, ⟨(ay8, ny8, cy8, Hy8, y7, ayw8, nyw8, cyw8, Hyw8, (u.set 0 (((u.getD 0 []).set 0 ((max 1 (((u.getD 0 []).getD 0 0))))))), ayv8, nyv8, cyv8, Hyv8, v), rfl, by have hw_ : Math.rect ((u.set 0 (((u.getD 0 []).set 0 ((max 1 (((u.getD 0 []).getD 0 0)))))))) _ := Math.rect_set (i := 0) hu (by omega); have hv_ := hv; have hw1 := hw_.1; have hv1 := hv_.1; exact ⟨⟨by dsimp only; omega, by dsimp only; omega⟩, by first | assumption | exact (by assumption : _ ∧ Math.kidsB _).2, Math.rect_to hw_ (by first | assumption | omega | (dsimp only; omega)), Math.rect_to hv_ (by first | assumption | omega | (dsimp only; omega))⟩, hs.pick [1, 2, 0, 1]⟩⟩
     ·
      refine ldl Tryd.isAgg2 (e30) (fun _ h => h.pick [1]) rfl rfl rfl ?_
      refine max2 rfl rfl rfl rfl ?_
      refine ldl Tryd.isAgg50 (Kn.fld e26 0 rfl) (fun _ h => h.pick [1]) rfl rfl rfl ?_
      refine rPieces (L' := [OwnR maK 50 2 ayw8 nyw8 cyw8 Hyw8 u, srcP bk ca bs cc, blk bka13 29 [.slice ay8 ny8 cy8, .slice ayw8 nyw8 cyw8, .slice ayv8 nyv8 cyv8], OwnR ndK 52 2 ay8 ny8 cy8 Hy8 y7, OwnR maK 50 2 ayv8 nyv8 cyv8 Hyv8 v, OwnR ndK 52 2 ay7 ny7 cy7 Hy7 y7, blk bka1 29 [.slice none 0 0, .slice none 0 0, .slice none 0 0]]) (fun _ h => h.pick [3, 0, 0, 0, 0, 0, 0]) ?_
      refine rPieces (L' := [OwnI 2 ((Hyw8 0).1) ((u.getD 0 []).length) ((Hyw8 0).2) (u.getD 0 []), OwnH maK 50 2 ayw8 nyw8 cyw8 Hyw8 u 0, srcP bk ca bs cc, blk bka13 29 [.slice ay8 ny8 cy8, .slice ayw8 nyw8 cyw8, .slice ayv8 nyv8 cyv8], OwnR ndK 52 2 ay8 ny8 cy8 Hy8 y7, OwnR maK 50 2 ayv8 nyv8 cyv8 Hyv8 v, OwnR ndK 52 2 ay7 ny7 cy7 Hy7 y7, blk bka1 29 [.slice none 0 0, .slice none 0 0, .slice none 0 0]]) (fun _ h => Sep.lend h 0 (u.getD 0 []) (nth [] (by omega))) ?_
      refine oxI (zn := 0) 0 rfl el50 rfl rfl rfl rfl (by omega) (by omega) rfl ?_
      intro gk32 hgk32
      refine stoI (off := 0) (x := (max 1 (((u.getD 0 []).getD 0 0)))) 0 rfl hgk32 Tryd.sizeOf2 (fun _ h => h.pick [3]) rfl rfl rfl rfl (by omega) ?_
      refine rPieces (L' := [OwnR maK 50 2 ayw8 nyw8 cyw8 Hyw8 ((u.set 0 (((u.getD 0 []).set 0 ((max 1 (((u.getD 0 []).getD 0 0)))))))), srcP bk ca bs cc, blk bka13 29 [.slice ay8 ny8 cy8, .slice ayw8 nyw8 cyw8, .slice ayv8 nyv8 cyv8], OwnR ndK 52 2 ay8 ny8 cy8 Hy8 y7, OwnR maK 50 2 ayv8 nyv8 cyv8 Hyv8 v, OwnR ndK 52 2 ay7 ny7 cy7 Hy7 y7, blk bka1 29 [.slice none 0 0, .slice none 0 0, .slice none 0 0]]) (fun _ h => Sep.back (x := (u.getD 0 [])) ((u.getD 0 []).set 0 ((max 1 (((u.getD 0 []).getD 0 0))))) maK.ok h (nth [] (by omega)) (fun h1 h2 => by dsimp only [ndK, ndC, maK] at h1 h2 ⊢; rw [h1, h2]) rfl rfl) ?_
      refine rNil ?_
      refine qSeq rfl ?_
      refine hSeq ?_
      refine hReg (sl 0 (sl 1 sz)) (by kernel_rfl) ?_
      refine ldAl Tryd.isAgg29 Tryd.sizeOf29 (cBs 2 rfl) trv rfl rfl rfl rfl ?_
      refine stAl (vs := [.slice ay8 ny8 cy8, .slice ayw8 nyw8 cyw8, .slice ayv8 nyv8 cyv8]) 6 rfl Tryd.sizeOf29 trv rfl rfl rfl rfl rfl (by simp [Value.oneCell']) rfl ?_
      refine rNil ?_
      refine qSeq rfl ?_
      refine hRet ?_
      exact fun w hs => ⟨[_], ⟨⟨_, rfl, run_load_agg Tryd.isAgg29 Tryd.sizeOf29 rfl (cBs 6 rfl w hs)⟩, trivial⟩, ⟨(ay8, ny8, cy8, Hy8, y7, ayw8, nyw8, cyw8, Hyw8, (u.set 0 (((u.getD 0 []).set 0 ((max 1 (((u.getD 0 []).getD 0 0))))))), ayv8, nyv8, cyv8, Hyv8, v), rfl, by have hw_ : Math.rect ((u.set 0 (((u.getD 0 []).set 0 ((max 1 (((u.getD 0 []).getD 0 0)))))))) _ := Math.rect_set (i := 0) hu (by omega); have hv_ := hv; have hw1 := hw_.1; have hv1 := hv_.1; exact ⟨⟨by dsimp only; omega, by dsimp only; omega⟩, by first | assumption | exact (by assumption : _ ∧ Math.kidsB _).2, Math.rect_to hw_ (by first | assumption | omega | (dsimp only; omega)), Math.rect_to hv_ (by first | assumption | omega | (dsimp only; omega))⟩, hs.pick [1, 2, 0, 1]⟩⟩
set_option maxHeartbeats 4000000 in
theorem spec_l21Draw_c (bk : Nat) (ca : Option Addr) (bs : List Int) (cc : Nat) (w : World) (M0 : Nat → Prop) (hs0 : Sep w M0 [srcP bk ca bs cc] w) (kcode : Kn w M0 [] (CellsAt ca (bs.map (Value.int .u8)))) (hok : okBytes bs) :
  Calls Tryd.prog 55 #[.pointer (some ⟨bk, 0, none⟩)] w (Ret fun v w' => ∃ x : Option Addr × Nat × Nat × (Nat → Hd) × List Nd × Option Addr × Nat × Nat × (Nat → Hd) × List (List Int) × Option Addr × Nat × Nat × (Nat → Hd) × List (List Int), v = .agg #[.slice x.1 x.2.1 x.2.2.1, .slice x.2.2.2.2.2.1 x.2.2.2.2.2.2.1 x.2.2.2.2.2.2.2.1, .slice x.2.2.2.2.2.2.2.2.2.2.1 x.2.2.2.2.2.2.2.2.2.2.2.1 x.2.2.2.2.2.2.2.2.2.2.2.2.1] ∧ (x.2.1 ≤ 250 ∧ ((1 ≤ x.2.2.2.2.2.2.1 ∧ x.2.2.2.2.2.2.1 ≤ 4) ∧ x.2.2.2.2.2.2.2.2.2.2.2.1 ≤ 4)) ∧ Sep w M0 [srcP bk ca bs cc, RdR ndK x.1 x.2.1 x.2.2.2.1 x.2.2.2.2.1, RdR maK x.2.2.2.2.2.1 x.2.2.2.2.2.2.1 x.2.2.2.2.2.2.2.2.1 x.2.2.2.2.2.2.2.2.2.1, RdR maK x.2.2.2.2.2.2.2.2.2.2.1 x.2.2.2.2.2.2.2.2.2.2.2.1 x.2.2.2.2.2.2.2.2.2.2.2.2.2.1 x.2.2.2.2.2.2.2.2.2.2.2.2.2.2] w') := by
 refine fn (M := M0) (rs := [.cell 2 29]) Tryd.func55 rfl Tryd.ntmps55 rfl rfl hs0 ?_
 refine hSeq ?_
 refine hReg (sl 0 sz) (by kernel_rfl) ?_
 refine alc Tryd.zeroValue29 rfl trv1 rfl rfl (fun bka1 hbka1 => ?_)
 refine rNil ?_
 refine qSeq rfl ?_
 refine hSeq ?_
 refine hReg (sq 0 (sl 1 (sl 2 (sl 3 sz)))) (by kernel_rfl) ?_
 refine mvP rfl rfl rfl ?_
 refine rPieces (L' := [srcP bk ca bs cc, blk bka1 29 [.slice none 0 0, .slice none 0 0, .slice none 0 0]]) (fun _ h => h.perm (pull (i := 1) rfl)) ?_
 refine callMK (α := Option Addr × Nat × Nat × (Nat → Hd) × List Nd × Option Addr × Nat × Nat × (Nat → Hd) × List (List Int) × Option Addr × Nat × Nat × (Nat → Hd) × List (List Int)) (Lf := [srcP bk ca bs cc]) (Lr := [blk bka1 29 [.slice none 0 0, .slice none 0 0, .slice none 0 0]]) (good := fun x => ((1 ≤ x.2.1 ∧ x.2.1 ≤ 200) ∧ (1 ≤ x.2.2.2.2.2.2.1 ∧ x.2.2.2.2.2.2.1 ≤ 4 ∧ x.2.2.2.2.2.2.2.2.2.2.2.1 = x.2.2.2.2.2.2.1)) ∧ Math.kidsB x.2.2.2.2.1 ∧ Math.rect x.2.2.2.2.2.2.2.2.2.1 x.2.2.2.2.2.2.1 ∧ Math.rect x.2.2.2.2.2.2.2.2.2.2.2.2.2.2 x.2.2.2.2.2.2.2.2.2.2.2.1) (φs := fun x => [srcP bk ca bs cc, OwnR ndK 52 2 x.1 x.2.1 x.2.2.1 x.2.2.2.1 x.2.2.2.2.1, OwnR maK 50 2 x.2.2.2.2.2.1 x.2.2.2.2.2.2.1 x.2.2.2.2.2.2.2.1 x.2.2.2.2.2.2.2.2.1 x.2.2.2.2.2.2.2.2.2.1, OwnR maK 50 2 x.2.2.2.2.2.2.2.2.2.2.1 x.2.2.2.2.2.2.2.2.2.2.2.1 x.2.2.2.2.2.2.2.2.2.2.2.2.1 x.2.2.2.2.2.2.2.2.2.2.2.2.2.1 x.2.2.2.2.2.2.2.2.2.2.2.2.2.2]) (val := fun x => .agg #[.slice x.1 x.2.1 x.2.2.1, .slice x.2.2.2.2.2.1 x.2.2.2.2.2.2.1 x.2.2.2.2.2.2.2.1, .slice x.2.2.2.2.2.2.2.2.2.2.1 x.2.2.2.2.2.2.2.2.2.2.2.1 x.2.2.2.2.2.2.2.2.2.2.2.2.1]) rfl Tryd.call73 trv1 rfl rfl (fun w M1 hs hk => spec_l21Valid_c bk ca bs cc  w M1 hs (hk _ kcode) hok ) ?_
 rintro ⟨ay1, ny1, cy1, Hy1, y1, ayw1, nyw1, cyw1, Hyw1, yw1, ayv1, nyv1, cyv1, Hyv1, yv1⟩ hr1
 try dsimp only at hr1
 refine rPieces (L' := [srcP bk ca bs cc, OwnR ndK 52 2 ay1 ny1 cy1 Hy1 y1, OwnR maK 50 2 ayw1 nyw1 cyw1 Hyw1 yw1, OwnR maK 50 2 ayv1 nyv1 cyv1 Hyv1 yv1, blk bka1 29 [.slice none 0 0, .slice none 0 0, .slice none 0 0]]) (fun _ h => h) ?_
 refine rKnow (fun w hs => (show OwnR ndK 52 2 ay1 ny1 cy1 Hy1 y1 w from hs.at_ 1 rfl).1) (fun lenn2 => ?_)
 refine rKnow (fun w hs => (show OwnR maK 50 2 ayw1 nyw1 cyw1 Hyw1 yw1 w from hs.at_ 2 rfl).1) (fun lenn3 => ?_)
 refine rKnow (fun w hs => (show OwnR maK 50 2 ayv1 nyv1 cyv1 Hyv1 yv1 w from hs.at_ 3 rfl).1) (fun lenn4 => ?_)
 refine alc Tryd.zeroValue29 rfl trv1 rfl rfl (fun bka5 hbka5 => ?_)
 refine stAl (vs := [.slice ay1 ny1 cy1, .slice ayw1 nyw1 cyw1, .slice ayv1 nyv1 cyv1]) 0 rfl Tryd.sizeOf29 trv rfl rfl rfl rfl rfl (by simp [Value.oneCell']) rfl ?_
 refine rNil ?_
 refine qSeq rfl ?_
 refine hSeq ?_
 refine hReg (sq 0 (sq 1 (sl 2 (sq 3 (sl 4 (sq 5 sz)))))) (by kernel_rfl) ?_
 refine mvP rfl rfl rfl ?_
 refine fld fl29_1 rfl rfl rfl ?_
 refine ldl Tryd.isAgg27 (cB 0 rfl rfl) trv rfl rfl rfl ?_
 refine lenS Tryd.runUnderlying27 rfl rfl rfl ?_
 refine rPieces (L' := [srcP bk ca bs cc, blk bka5 29 [.slice ay1 ny1 cy1, .slice ayw1 nyw1 cyw1, .slice ayv1 nyv1 cyv1], OwnR ndK 52 2 ay1 ny1 cy1 Hy1 y1, OwnR maK 50 2 ayw1 nyw1 cyw1 Hyw1 yw1, OwnR maK 50 2 ayv1 nyv1 cyv1 Hyv1 yv1, blk bka1 29 [.slice none 0 0, .slice none 0 0, .slice none 0 0]]) (fun _ h => h.perm (pull (i := 1) rfl)) ?_
 refine callMK (α := Int) (Lf := [srcP bk ca bs cc]) (Lr := [blk bka5 29 [.slice ay1 ny1 cy1, .slice ayw1 nyw1 cyw1, .slice ayv1 nyv1 cyv1], OwnR ndK 52 2 ay1 ny1 cy1 Hy1 y1, OwnR maK 50 2 ayw1 nyw1 cyw1 Hyw1 yw1, OwnR maK 50 2 ayv1 nyv1 cyv1 Hyv1 yv1, blk bka1 29 [.slice none 0 0, .slice none 0 0, .slice none 0 0]]) (good := fun x => 0 ≤ x ∧ (x < (nyw1 : Int) ∨ x = 0)) (φs := fun x => [srcP bk ca bs cc]) (val := fun x => .int .i64 x) rfl Tryd.call24 trv1 rfl rfl (fun w M1 hs hk => src_next bk ca bs cc (nyw1 : Int) w M1 hs (hk _ kcode) hok) ?_
 intro x2 hx2
 try dsimp only at hx2
 refine rPieces (L' := [srcP bk ca bs cc, blk bka5 29 [.slice ay1 ny1 cy1, .slice ayw1 nyw1 cyw1, .slice ayv1 nyv1 cyv1], OwnR ndK 52 2 ay1 ny1 cy1 Hy1 y1, OwnR maK 50 2 ayw1 nyw1 cyw1 Hyw1 yw1, OwnR maK 50 2 ayv1 nyv1 cyv1 Hyv1 yv1, blk bka1 29 [.slice none 0 0, .slice none 0 0, .slice none 0 0]]) (fun _ h => h) ?_
 refine asI rfl rfl rfl ?_
 refine rNil ?_
 refine qSeq rfl ?_
 refine hSeq ?_
 refine hSeq ?_
 refine hReg (sq 0 (sl 1 sz)) (by kernel_rfl) ?_
 refine mvP rfl rfl rfl ?_
 refine callMK (α := Int) (Lf := [srcP bk ca bs cc]) (Lr := [blk bka5 29 [.slice ay1 ny1 cy1, .slice ayw1 nyw1 cyw1, .slice ayv1 nyv1 cyv1], OwnR ndK 52 2 ay1 ny1 cy1 Hy1 y1, OwnR maK 50 2 ayw1 nyw1 cyw1 Hyw1 yw1, OwnR maK 50 2 ayv1 nyv1 cyv1 Hyv1 yv1, blk bka1 29 [.slice none 0 0, .slice none 0 0, .slice none 0 0]]) (good := fun x => 0 ≤ x ∧ (x < (24 : Int) ∨ x = 0)) (φs := fun x => [srcP bk ca bs cc]) (val := fun x => .int .i64 x) rfl Tryd.call24 trv1 rfl rfl (fun w M1 hs hk => src_next bk ca bs cc (24 : Int) w M1 hs (hk _ kcode) hok) ?_
 intro x3 hx3
 replace hx3 : 0 ≤ x3 ∧ x3 < (24 : Int) := by omega
 try dsimp only at hx3
 refine rPieces (L' := [srcP bk ca bs cc, blk bka5 29 [.slice ay1 ny1 cy1, .slice ayw1 nyw1 cyw1, .slice ayv1 nyv1 cyv1], OwnR ndK 52 2 ay1 ny1 cy1 Hy1 y1, OwnR maK 50 2 ayw1 nyw1 cyw1 Hyw1 yw1, OwnR maK 50 2 ayv1 nyv1 cyv1 Hyv1 yv1, blk bka1 29 [.slice none 0 0, .slice none 0 0, .slice none 0 0]]) (fun _ h => h) ?_
 refine rNil ?_
 refine qSeq rfl ?_
 refine hBlk ?_
 refine hSeq ?_
 refine hReg (sq 0 (sq 1 sz)) (by kernel_rfl) ?_
 refine eql rfl rfl rfl rfl ?_
 refine asB rfl rfl rfl ?_
 refine rNil ?_
 refine qSeq rfl ?_
 refine hIfD rfl (fun c1 => ?_) (fun c1 => ?_)
 ·
  replace c1 : x3 = 0 := c1
  have hrw := hr1.2.2.1.2 (x2).toNat (by omega)
  have hrl := hr1.2.2.1.1
  refine hDraw (Ls := [blk bka5 29 [.slice ay1 ny1 cy1, .slice ayw1 nyw1 cyw1, .slice ayv1 nyv1 cyv1]]) (by kernel_rfl) (sq 0 (sq 1 (sq 2 (sq 3 (sq 5 (.alt (sl 4 (sl 6 (sl 7 (sq 8 (sl 9 sz))))) (sl 6 (.alt (sl 4 (sl 7 (sq 8 (sl 9 sz)))) (sl 7 (sl 4 (sq 8 (sl 9 sz)))))))))))) (by kernel_rfl) (.cons _ (.cons_cons _ (.cons _ (.cons _ (.cons _ (.cons _ .slnil)))))) ?_
  refine fld fl29_1 rfl rfl rfl ?_
  refine ldq Tryd.isAgg27 (cB 0 rfl rfl) rfl rfl rfl ?_
  refine mvI rfl rfl rfl ?_
  refine ixRl (zn := (x2).toNat) (yw1.getD ((x2).toNat) []) el27 ((Kn.at_ 3 rfl).imp fun _ h => OwnR.rd h maK.ok) rfl rfl rfl rfl (by omega) (by omega) rfl (nth [] (by omega)) ?_
  intro be4 oe4 e4
  refine mvP rfl rfl rfl ?_
  refine rAlt ?_ ?_
  ·
   refine ldl Tryd.isAgg50 (Kn.fld e4 0 rfl) (fun _ h => h.pick [1]) rfl rfl rfl ?_
   refine bsl (fun _ _ h => h.pick [2]) rfl rfl rfl (bsl50_4 (.int .i64 _) (.int .i64 _) (.int .i64 _) (.int .i64 _) rfl rfl rfl rfl) (fun bkl6 hbkl6 => ?_)
   refine rPieces (L' := [srcP bk ca bs cc, blk bkl6 2 [.int .i64 (-1), .int .i64 0, .int .i64 9, .int .i64 10], blk bka5 29 [.slice ay1 ny1 cy1, .slice ayw1 nyw1 cyw1, .slice ayv1 nyv1 cyv1], OwnR ndK 52 2 ay1 ny1 cy1 Hy1 y1, OwnR maK 50 2 ayw1 nyw1 cyw1 Hyw1 yw1, OwnR maK 50 2 ayv1 nyv1 cyv1 Hyv1 yv1, blk bka1 29 [.slice none 0 0, .slice none 0 0, .slice none 0 0]]) (fun _ h => h.perm (pull (i := 1) rfl)) ?_
   refine callMK (α := Int) (Lf := [srcP bk ca bs cc, blk bkl6 2 [.int .i64 (-1), .int .i64 0, .int .i64 9, .int .i64 10]]) (Lr := [blk bka5 29 [.slice ay1 ny1 cy1, .slice ayw1 nyw1 cyw1, .slice ayv1 nyv1 cyv1], OwnR ndK 52 2 ay1 ny1 cy1 Hy1 y1, OwnR maK 50 2 ayw1 nyw1 cyw1 Hyw1 yw1, OwnR maK 50 2 ayv1 nyv1 cyv1 Hyv1 yv1, blk bka1 29 [.slice none 0 0, .slice none 0 0, .slice none 0 0]]) (good := fun x => x ∈ ([.int .i64 (-1), .int .i64 0, .int .i64 9, .int .i64 10] : List Value).map toI) (φs := fun x => [srcP bk ca bs cc, blk bkl6 2 [.int .i64 (-1), .int .i64 0, .int .i64 9, .int .i64 10]]) (val := fun x => .int .i64 x) rfl Tryd.call28 (by exact (fun _ _ h => h.pick [2])) rfl rfl (fun w M1 hs hk => src_pick bk ca bs cc bkl6 2 4 4 [.int .i64 (-1), .int .i64 0, .int .i64 9, .int .i64 10] w M1 hs (hk _ kcode) hok rfl rfl (by decide)) ?_
   intro x5 hx5
   try dsimp only at hx5
   refine rPieces (L' := [srcP bk ca bs cc, blk bkl6 2 [.int .i64 (-1), .int .i64 0, .int .i64 9, .int .i64 10], blk bka5 29 [.slice ay1 ny1 cy1, .slice ayw1 nyw1 cyw1, .slice ayv1 nyv1 cyv1], OwnR ndK 52 2 ay1 ny1 cy1 Hy1 y1, OwnR maK 50 2 ayw1 nyw1 cyw1 Hyw1 yw1, OwnR maK 50 2 ayv1 nyv1 cyv1 Hyv1 yv1, blk bka1 29 [.slice none 0 0, .slice none 0 0, .slice none 0 0]]) (fun _ h => h) ?_
   replace hx5 : (-1 : Int) ≤ x5 ∧ x5 ≤ (10 : Int) := by have hm_ := hx5; simp [toI] at hm_; omega
   refine rPieces (L' := [blk bkl6 2 [.int .i64 (-1), .int .i64 0, .int .i64 9, .int .i64 10], srcP bk ca bs cc, blk bka5 29 [.slice ay1 ny1 cy1, .slice ayw1 nyw1 cyw1, .slice ayv1 nyv1 cyv1], OwnR ndK 52 2 ay1 ny1 cy1 Hy1 y1, OwnR maK 50 2 ayw1 nyw1 cyw1 Hyw1 yw1, OwnR maK 50 2 ayv1 nyv1 cyv1 Hyv1 yv1, blk bka1 29 [.slice none 0 0, .slice none 0 0, .slice none 0 0]]) (fun _ h => h.perm (pull (i := 1) rfl)) ?_
   refine rPieces (L' := [OwnR maK 50 2 ayw1 nyw1 cyw1 Hyw1 yw1, blk bkl6 2 [.int .i64 (-1), .int .i64 0, .int .i64 9, .int .i64 10], srcP bk ca bs cc, blk bka5 29 [.slice ay1 ny1 cy1, .slice ayw1 nyw1 cyw1, .slice ayv1 nyv1 cyv1], OwnR ndK 52 2 ay1 ny1 cy1 Hy1 y1, OwnR maK 50 2 ayv1 nyv1 cyv1 Hyv1 yv1, blk bka1 29 [.slice none 0 0, .slice none 0 0, .slice none 0 0]]) (fun _ h => h.pick [4, 0, 0, 0, 0, 0, 0]) ?_
   refine rPieces (L' := [OwnI 2 ((Hyw1 ((x2).toNat)).1) ((yw1.getD ((x2).toNat) []).length) ((Hyw1 ((x2).toNat)).2) ((yw1.getD ((x2).toNat) [])), OwnH maK 50 2 ayw1 nyw1 cyw1 Hyw1 yw1 ((x2).toNat), blk bkl6 2 [.int .i64 (-1), .int .i64 0, .int .i64 9, .int .i64 10], srcP bk ca bs cc, blk bka5 29 [.slice ay1 ny1 cy1, .slice ayw1 nyw1 cyw1, .slice ayv1 nyv1 cyv1], OwnR ndK 52 2 ay1 ny1 cy1 Hy1 y1, OwnR maK 50 2 ayv1 nyv1 cyv1 Hyv1 yv1, blk bka1 29 [.slice none 0 0, .slice none 0 0, .slice none 0 0]]) (fun _ h => Sep.lend h ((x2).toNat) ((yw1.getD ((x2).toNat) [])) (nth [] (by omega))) ?_
   refine oxI (zn := 0) 0 rfl el50 rfl rfl rfl rfl (by omega) (by omega) rfl ?_
   intro gk6 hgk6
   refine stoI (off := 0) (x := x5) 0 rfl hgk6 Tryd.sizeOf2 (fun _ h => h.pick [4]) rfl rfl rfl rfl (by omega) ?_
   refine rPieces (L' := [OwnR maK 50 2 ayw1 nyw1 cyw1 Hyw1 ((yw1.set ((x2).toNat) ((((yw1.getD ((x2).toNat) [])).set 0 x5)))), blk bkl6 2 [.int .i64 (-1), .int .i64 0, .int .i64 9, .int .i64 10], srcP bk ca bs cc, blk bka5 29 [.slice ay1 ny1 cy1, .slice ayw1 nyw1 cyw1, .slice ayv1 nyv1 cyv1], OwnR ndK 52 2 ay1 ny1 cy1 Hy1 y1, OwnR maK 50 2 ayv1 nyv1 cyv1 Hyv1 yv1, blk bka1 29 [.slice none 0 0, .slice none 0 0, .slice none 0 0]]) (fun _ h => Sep.back (x := (yw1.getD ((x2).toNat) [])) (((yw1.getD ((x2).toNat) [])).set 0 x5) maK.ok h (nth [] (by omega)) (fun h1 h2 => by dsimp only [ndK, ndC, maK] at h1 h2 ⊢; rw [h1, h2]) rfl rfl) ?_
   refine rNil ?_
   refine qSeq rfl ?_
   refine hSeq ?_
   refine hReg (sl 0 (sl 1 sz)) (by kernel_rfl) ?_
   refine ldAl Tryd.isAgg29 Tryd.sizeOf29 (cBs 3 rfl) trv rfl rfl rfl rfl ?_
   refine stAl (vs := [.slice ay1 ny1 cy1, .slice ayw1 nyw1 cyw1, .slice ayv1 nyv1 cyv1]) 6 rfl Tryd.sizeOf29 trv rfl rfl rfl rfl rfl (by simp [Value.oneCell']) rfl ?_
   refine rNil ?_
   refine qSeq rfl ?_
   refine hRet ?_
   refine knP (L' := [OwnR maK 50 2 ayw1 nyw1 cyw1 Hyw1 ((yw1.set ((x2).toNat) ((((yw1.getD ((x2).toNat) [])).set 0 x5)))), blk bkl6 2 [.int .i64 (-1), .int .i64 0, .int .i64 9, .int .i64 10], srcP bk ca bs cc, blk bka5 29 [.slice ay1 ny1 cy1, .slice ayw1 nyw1 cyw1, .slice ayv1 nyv1 cyv1], RdR ndK ay1 ny1 Hy1 y1, OwnR maK 50 2 ayv1 nyv1 cyv1 Hyv1 yv1, blk bka1 29 [.slice ay1 ny1 cy1, .slice ayw1 nyw1 cyw1, .slice ayv1 nyv1 cyv1]]) (fun _ h => h.imp 4 rfl fun _ h => OwnR.rd h ndK.ok) ?_
   refine knP (L' := [RdR maK ayw1 nyw1 Hyw1 ((yw1.set ((x2).toNat) ((((yw1.getD ((x2).toNat) [])).set 0 x5)))), blk bkl6 2 [.int .i64 (-1), .int .i64 0, .int .i64 9, .int .i64 10], srcP bk ca bs cc, blk bka5 29 [.slice ay1 ny1 cy1, .slice ayw1 nyw1 cyw1, .slice ayv1 nyv1 cyv1], RdR ndK ay1 ny1 Hy1 y1, OwnR maK 50 2 ayv1 nyv1 cyv1 Hyv1 yv1, blk bka1 29 [.slice ay1 ny1 cy1, .slice ayw1 nyw1 cyw1, .slice ayv1 nyv1 cyv1]]) (fun _ h => h.imp 0 rfl fun _ h => OwnR.rd h maK.ok) ?_
   refine knP (L' := [RdR maK ayw1 nyw1 Hyw1 ((yw1.set ((x2).toNat) ((((yw1.getD ((x2).toNat) [])).set 0 x5)))), blk bkl6 2 [.int .i64 (-1), .int .i64 0, .int .i64 9, .int .i64 10], srcP bk ca bs cc, blk bka5 29 [.slice ay1 ny1 cy1, .slice ayw1 nyw1 cyw1, .slice ayv1 nyv1 cyv1], RdR ndK ay1 ny1 Hy1 y1, RdR maK ayv1 nyv1 Hyv1 yv1, blk bka1 29 [.slice ay1 ny1 cy1, .slice ayw1 nyw1 cyw1, .slice ayv1 nyv1 cyv1]]) (fun _ h => h.imp 5 rfl fun _ h => OwnR.rd h maK.ok) ?_
   exact fun w hs => ⟨[_], ⟨⟨_, rfl, run_load_agg Tryd.isAgg29 Tryd.sizeOf29 rfl (cBs 6 rfl w hs)⟩, trivial⟩, ⟨(ay1, ny1, cy1, Hy1, y1, ayw1, nyw1, cyw1, Hyw1, (yw1.set ((x2).toNat) ((((yw1.getD ((x2).toNat) [])).set 0 x5))), ayv1, nyv1, cyv1, Hyv1, yv1), rfl, ⟨by dsimp only; omega, ⟨by dsimp only; omega, by dsimp only; omega⟩, by dsimp only; omega⟩, hs.pick [2, 3, 0, 2]⟩⟩
  ·
   refine bsl (fun _ _ h => h.pick [2]) rfl rfl rfl (bsl50_4 (.int .i64 _) (.int .i64 _) (.int .i64 _) (.int .i64 _) rfl rfl rfl rfl) (fun bkl9 hbkl9 => ?_)
   refine rAlt ?_ ?_
   ·
    refine ldl Tryd.isAgg50 (Kn.drop (k := 1) (Kn.fld e4 0 rfl)) (fun _ h => h.pick [2]) rfl rfl rfl ?_
    refine rPieces (L' := [srcP bk ca bs cc, blk bkl9 2 [.int .i64 (-1), .int .i64 0, .int .i64 9, .int .i64 10], blk bka5 29 [.slice ay1 ny1 cy1, .slice ayw1 nyw1 cyw1, .slice ayv1 nyv1 cyv1], OwnR ndK 52 2 ay1 ny1 cy1 Hy1 y1, OwnR maK 50 2 ayw1 nyw1 cyw1 Hyw1 yw1, OwnR maK 50 2 ayv1 nyv1 cyv1 Hyv1 yv1, blk bka1 29 [.slice none 0 0, .slice none 0 0, .slice none 0 0]]) (fun _ h => h.perm (pull (i := 1) rfl)) ?_
    refine callMK (α := Int) (Lf := [srcP bk ca bs cc, blk bkl9 2 [.int .i64 (-1), .int .i64 0, .int .i64 9, .int .i64 10]]) (Lr := [blk bka5 29 [.slice ay1 ny1 cy1, .slice ayw1 nyw1 cyw1, .slice ayv1 nyv1 cyv1], OwnR ndK 52 2 ay1 ny1 cy1 Hy1 y1, OwnR maK 50 2 ayw1 nyw1 cyw1 Hyw1 yw1, OwnR maK 50 2 ayv1 nyv1 cyv1 Hyv1 yv1, blk bka1 29 [.slice none 0 0, .slice none 0 0, .slice none 0 0]]) (good := fun x => x ∈ ([.int .i64 (-1), .int .i64 0, .int .i64 9, .int .i64 10] : List Value).map toI) (φs := fun x => [srcP bk ca bs cc, blk bkl9 2 [.int .i64 (-1), .int .i64 0, .int .i64 9, .int .i64 10]]) (val := fun x => .int .i64 x) rfl Tryd.call28 (by exact (fun _ _ h => h.pick [2])) rfl rfl (fun w M1 hs hk => src_pick bk ca bs cc bkl9 2 4 4 [.int .i64 (-1), .int .i64 0, .int .i64 9, .int .i64 10] w M1 hs (hk _ kcode) hok rfl rfl (by decide)) ?_
    intro x7 hx7
    try dsimp only at hx7
    refine rPieces (L' := [srcP bk ca bs cc, blk bkl9 2 [.int .i64 (-1), .int .i64 0, .int .i64 9, .int .i64 10], blk bka5 29 [.slice ay1 ny1 cy1, .slice ayw1 nyw1 cyw1, .slice ayv1 nyv1 cyv1], OwnR ndK 52 2 ay1 ny1 cy1 Hy1 y1, OwnR maK 50 2 ayw1 nyw1 cyw1 Hyw1 yw1, OwnR maK 50 2 ayv1 nyv1 cyv1 Hyv1 yv1, blk bka1 29 [.slice none 0 0, .slice none 0 0, .slice none 0 0]]) (fun _ h => h) ?_
    replace hx7 : (-1 : Int) ≤ x7 ∧ x7 ≤ (10 : Int) := by have hm_ := hx7; simp [toI] at hm_; omega
    refine rPieces (L' := [blk bkl9 2 [.int .i64 (-1), .int .i64 0, .int .i64 9, .int .i64 10], srcP bk ca bs cc, blk bka5 29 [.slice ay1 ny1 cy1, .slice ayw1 nyw1 cyw1, .slice ayv1 nyv1 cyv1], OwnR ndK 52 2 ay1 ny1 cy1 Hy1 y1, OwnR maK 50 2 ayw1 nyw1 cyw1 Hyw1 yw1, OwnR maK 50 2 ayv1 nyv1 cyv1 Hyv1 yv1, blk bka1 29 [.slice none 0 0, .slice none 0 0, .slice none 0 0]]) (fun _ h => h.perm (pull (i := 1) rfl)) ?_
    refine rPieces (L' := [OwnR maK 50 2 ayw1 nyw1 cyw1 Hyw1 yw1, blk bkl9 2 [.int .i64 (-1), .int .i64 0, .int .i64 9, .int .i64 10], srcP bk ca bs cc, blk bka5 29 [.slice ay1 ny1 cy1, .slice ayw1 nyw1 cyw1, .slice ayv1 nyv1 cyv1], OwnR ndK 52 2 ay1 ny1 cy1 Hy1 y1, OwnR maK 50 2 ayv1 nyv1 cyv1 Hyv1 yv1, blk bka1 29 [.slice none 0 0, .slice none 0 0, .slice none 0 0]]) (fun _ h => h.pick [4, 0, 0, 0, 0, 0, 0]) ?_
    refine rPieces (L' := [OwnI 2 ((Hyw1 ((x2).toNat)).1) ((yw1.getD ((x2).toNat) []).length) ((Hyw1 ((x2).toNat)).2) ((yw1.getD ((x2).toNat) [])), OwnH maK 50 2 ayw1 nyw1 cyw1 Hyw1 yw1 ((x2).toNat), blk bkl9 2 [.int .i64 (-1), .int .i64 0, .int .i64 9, .int .i64 10], srcP bk ca bs cc, blk bka5 29 [.slice ay1 ny1 cy1, .slice ayw1 nyw1 cyw1, .slice ayv1 nyv1 cyv1], OwnR ndK 52 2 ay1 ny1 cy1 Hy1 y1, OwnR maK 50 2 ayv1 nyv1 cyv1 Hyv1 yv1, blk bka1 29 [.slice none 0 0, .slice none 0 0, .slice none 0 0]]) (fun _ h => Sep.lend h ((x2).toNat) ((yw1.getD ((x2).toNat) [])) (nth [] (by omega))) ?_
    refine oxI (zn := 0) 0 rfl el50 rfl rfl rfl rfl (by omega) (by omega) rfl ?_
    intro gk8 hgk8
    refine stoI (off := 0) (x := x7) 0 rfl hgk8 Tryd.sizeOf2 (fun _ h => h.pick [4]) rfl rfl rfl rfl (by omega) ?_
    refine rPieces (L' := [OwnR maK 50 2 ayw1 nyw1 cyw1 Hyw1 ((yw1.set ((x2).toNat) ((((yw1.getD ((x2).toNat) [])).set 0 x7)))), blk bkl9 2 [.int .i64 (-1), .int .i64 0, .int .i64 9, .int .i64 10], srcP bk ca bs cc, blk bka5 29 [.slice ay1 ny1 cy1, .slice ayw1 nyw1 cyw1, .slice ayv1 nyv1 cyv1], OwnR ndK 52 2 ay1 ny1 cy1 Hy1 y1, OwnR maK 50 2 ayv1 nyv1 cyv1 Hyv1 yv1, blk bka1 29 [.slice none 0 0, .slice none 0 0, .slice none 0 0]]) (fun _ h => Sep.back (x := (yw1.getD ((x2).toNat) [])) (((yw1.getD ((x2).toNat) [])).set 0 x7) maK.ok h (nth [] (by omega)) (fun h1 h2 => by dsimp only [ndK, ndC, maK] at h1 h2 ⊢; rw [h1, h2]) rfl rfl) ?_
    refine rNil ?_
    refine qSeq rfl ?_
    refine hSeq ?_
    refine hReg (sl 0 (sl 1 sz)) (by kernel_rfl) ?_
    refine ldAl Tryd.isAgg29 Tryd.sizeOf29 (cBs 3 rfl) trv rfl rfl rfl rfl ?_
    refine stAl (vs := [.slice ay1 ny1 cy1, .slice ayw1 nyw1 cyw1, .slice ayv1 nyv1 cyv1]) 6 rfl Tryd.sizeOf29 trv rfl rfl rfl rfl rfl (by simp [Value.oneCell']) rfl ?_
    refine rNil ?_
    refine qSeq rfl ?_
    refine hRet ?_
    refine knP (L' := [OwnR maK 50 2 ayw1 nyw1 cyw1 Hyw1 ((yw1.set ((x2).toNat) ((((yw1.getD ((x2).toNat) [])).set 0 x7)))), blk bkl9 2 [.int .i64 (-1), .int .i64 0, .int .i64 9, .int .i64 10], srcP bk ca bs cc, blk bka5 29 [.slice ay1 ny1 cy1, .slice ayw1 nyw1 cyw1, .slice ayv1 nyv1 cyv1], RdR ndK ay1 ny1 Hy1 y1, OwnR maK 50 2 ayv1 nyv1 cyv1 Hyv1 yv1, blk bka1 29 [.slice ay1 ny1 cy1, .slice ayw1 nyw1 cyw1, .slice ayv1 nyv1 cyv1]]) (fun _ h => h.imp 4 rfl fun _ h => OwnR.rd h ndK.ok) ?_
    refine knP (L' := [RdR maK ayw1 nyw1 Hyw1 ((yw1.set ((x2).toNat) ((((yw1.getD ((x2).toNat) [])).set 0 x7)))), blk bkl9 2 [.int .i64 (-1), .int .i64 0, .int .i64 9, .int .i64 10], srcP bk ca bs cc, blk bka5 29 [.slice ay1 ny1 cy1, .slice ayw1 nyw1 cyw1, .slice ayv1 nyv1 cyv1], RdR ndK ay1 ny1 Hy1 y1, OwnR maK 50 2 ayv1 nyv1 cyv1 Hyv1 yv1, blk bka1 29 [.slice ay1 ny1 cy1, .slice ayw1 nyw1 cyw1, .slice ayv1 nyv1 cyv1]]) (fun _ h => h.imp 0 rfl fun _ h => OwnR.rd h maK.ok) ?_
    refine knP (L' := [RdR maK ayw1 nyw1 Hyw1 ((yw1.set ((x2).toNat) ((((yw1.getD ((x2).toNat) [])).set 0 x7)))), blk bkl9 2 [.int .i64 (-1), .int .i64 0, .int .i64 9, .int .i64 10], srcP bk ca bs cc, blk bka5 29 [.slice ay1 ny1 cy1, .slice ayw1 nyw1 cyw1, .slice ayv1 nyv1 cyv1], RdR ndK ay1 ny1 Hy1 y1, RdR maK ayv1 nyv1 Hyv1 yv1, blk bka1 29 [.slice ay1 ny1 cy1, .slice ayw1 nyw1 cyw1, .slice ayv1 nyv1 cyv1]]) (fun _ h => h.imp 5 rfl fun _ h => OwnR.rd h maK.ok) ?_
    exact fun w hs => ⟨[_], ⟨⟨_, rfl, run_load_agg Tryd.isAgg29 Tryd.sizeOf29 rfl (cBs 6 rfl w hs)⟩, trivial⟩, ⟨(ay1, ny1, cy1, Hy1, y1, ayw1, nyw1, cyw1, Hyw1, (yw1.set ((x2).toNat) ((((yw1.getD ((x2).toNat) [])).set 0 x7))), ayv1, nyv1, cyv1, Hyv1, yv1), rfl, ⟨by dsimp only; omega, ⟨by dsimp only; omega, by dsimp only; omega⟩, by dsimp only; omega⟩, hs.pick [2, 3, 0, 2]⟩⟩
   ·
    refine rPieces (L' := [srcP bk ca bs cc, blk bkl9 2 [.int .i64 (-1), .int .i64 0, .int .i64 9, .int .i64 10], blk bka5 29 [.slice ay1 ny1 cy1, .slice ayw1 nyw1 cyw1, .slice ayv1 nyv1 cyv1], OwnR ndK 52 2 ay1 ny1 cy1 Hy1 y1, OwnR maK 50 2 ayw1 nyw1 cyw1 Hyw1 yw1, OwnR maK 50 2 ayv1 nyv1 cyv1 Hyv1 yv1, blk bka1 29 [.slice none 0 0, .slice none 0 0, .slice none 0 0]]) (fun _ h => h.perm (pull (i := 1) rfl)) ?_
    refine callMK (α := Int) (Lf := [srcP bk ca bs cc, blk bkl9 2 [.int .i64 (-1), .int .i64 0, .int .i64 9, .int .i64 10]]) (Lr := [blk bka5 29 [.slice ay1 ny1 cy1, .slice ayw1 nyw1 cyw1, .slice ayv1 nyv1 cyv1], OwnR ndK 52 2 ay1 ny1 cy1 Hy1 y1, OwnR maK 50 2 ayw1 nyw1 cyw1 Hyw1 yw1, OwnR maK 50 2 ayv1 nyv1 cyv1 Hyv1 yv1, blk bka1 29 [.slice none 0 0, .slice none 0 0, .slice none 0 0]]) (good := fun x => x ∈ ([.int .i64 (-1), .int .i64 0, .int .i64 9, .int .i64 10] : List Value).map toI) (φs := fun x => [srcP bk ca bs cc, blk bkl9 2 [.int .i64 (-1), .int .i64 0, .int .i64 9, .int .i64 10]]) (val := fun x => .int .i64 x) rfl Tryd.call28 (by exact (fun _ _ h => h.pick [2])) rfl rfl (fun w M1 hs hk => src_pick bk ca bs cc bkl9 2 4 4 [.int .i64 (-1), .int .i64 0, .int .i64 9, .int .i64 10] w M1 hs (hk _ kcode) hok rfl rfl (by decide)) ?_
    intro x9 hx9
    try dsimp only at hx9
    refine rPieces (L' := [srcP bk ca bs cc, blk bkl9 2 [.int .i64 (-1), .int .i64 0, .int .i64 9, .int .i64 10], blk bka5 29 [.slice ay1 ny1 cy1, .slice ayw1 nyw1 cyw1, .slice ayv1 nyv1 cyv1], OwnR ndK 52 2 ay1 ny1 cy1 Hy1 y1, OwnR maK 50 2 ayw1 nyw1 cyw1 Hyw1 yw1, OwnR maK 50 2 ayv1 nyv1 cyv1 Hyv1 yv1, blk bka1 29 [.slice none 0 0, .slice none 0 0, .slice none 0 0]]) (fun _ h => h) ?_
    replace hx9 : (-1 : Int) ≤ x9 ∧ x9 ≤ (10 : Int) := by have hm_ := hx9; simp [toI] at hm_; omega
    refine rPieces (L' := [blk bkl9 2 [.int .i64 (-1), .int .i64 0, .int .i64 9, .int .i64 10], srcP bk ca bs cc, blk bka5 29 [.slice ay1 ny1 cy1, .slice ayw1 nyw1 cyw1, .slice ayv1 nyv1 cyv1], OwnR ndK 52 2 ay1 ny1 cy1 Hy1 y1, OwnR maK 50 2 ayw1 nyw1 cyw1 Hyw1 yw1, OwnR maK 50 2 ayv1 nyv1 cyv1 Hyv1 yv1, blk bka1 29 [.slice none 0 0, .slice none 0 0, .slice none 0 0]]) (fun _ h => h.perm (pull (i := 1) rfl)) ?_
    refine ldl Tryd.isAgg50 (Kn.drop (k := 1) (Kn.fld e4 0 rfl)) (fun _ h => h.pick [2]) rfl rfl rfl ?_
    refine rPieces (L' := [OwnR maK 50 2 ayw1 nyw1 cyw1 Hyw1 yw1, blk bkl9 2 [.int .i64 (-1), .int .i64 0, .int .i64 9, .int .i64 10], srcP bk ca bs cc, blk bka5 29 [.slice ay1 ny1 cy1, .slice ayw1 nyw1 cyw1, .slice ayv1 nyv1 cyv1], OwnR ndK 52 2 ay1 ny1 cy1 Hy1 y1, OwnR maK 50 2 ayv1 nyv1 cyv1 Hyv1 yv1, blk bka1 29 [.slice none 0 0, .slice none 0 0, .slice none 0 0]]) (fun _ h => h.pick [4, 0, 0, 0, 0, 0, 0]) ?_
    refine rPieces (L' := [OwnI 2 ((Hyw1 ((x2).toNat)).1) ((yw1.getD ((x2).toNat) []).length) ((Hyw1 ((x2).toNat)).2) ((yw1.getD ((x2).toNat) [])), OwnH maK 50 2 ayw1 nyw1 cyw1 Hyw1 yw1 ((x2).toNat), blk bkl9 2 [.int .i64 (-1), .int .i64 0, .int .i64 9, .int .i64 10], srcP bk ca bs cc, blk bka5 29 [.slice ay1 ny1 cy1, .slice ayw1 nyw1 cyw1, .slice ayv1 nyv1 cyv1], OwnR ndK 52 2 ay1 ny1 cy1 Hy1 y1, OwnR maK 50 2 ayv1 nyv1 cyv1 Hyv1 yv1, blk bka1 29 [.slice none 0 0, .slice none 0 0, .slice none 0 0]]) (fun _ h => Sep.lend h ((x2).toNat) ((yw1.getD ((x2).toNat) [])) (nth [] (by omega))) ?_
    refine oxI (zn := 0) 0 rfl el50 rfl rfl rfl rfl (by omega) (by omega) rfl ?_
    intro gk10 hgk10
    refine stoI (off := 0) (x := x9) 0 rfl hgk10 Tryd.sizeOf2 (fun _ h => h.pick [4]) rfl rfl rfl rfl (by omega) ?_
    refine rPieces (L' := [OwnR maK 50 2 ayw1 nyw1 cyw1 Hyw1 ((yw1.set ((x2).toNat) ((((yw1.getD ((x2).toNat) [])).set 0 x9)))), blk bkl9 2 [.int .i64 (-1), .int .i64 0, .int .i64 9, .int .i64 10], srcP bk ca bs cc, blk bka5 29 [.slice ay1 ny1 cy1, .slice ayw1 nyw1 cyw1, .slice ayv1 nyv1 cyv1], OwnR ndK 52 2 ay1 ny1 cy1 Hy1 y1, OwnR maK 50 2 ayv1 nyv1 cyv1 Hyv1 yv1, blk bka1 29 [.slice none 0 0, .slice none 0 0, .slice none 0 0]]) (fun _ h => Sep.back (x := (yw1.getD ((x2).toNat) [])) (((yw1.getD ((x2).toNat) [])).set 0 x9) maK.ok h (nth [] (by omega)) (fun h1 h2 => by dsimp only [ndK, ndC, maK] at h1 h2 ⊢; rw [h1, h2]) rfl rfl) ?_
    refine rNil ?_
    refine qSeq rfl ?_
    refine hSeq ?_
    refine hReg (sl 0 (sl 1 sz)) (by kernel_rfl) ?_
    refine ldAl Tryd.isAgg29 Tryd.sizeOf29 (cBs 3 rfl) trv rfl rfl rfl rfl ?_
    refine stAl (vs := [.slice ay1 ny1 cy1, .slice ayw1 nyw1 cyw1, .slice ayv1 nyv1 cyv1]) 6 rfl Tryd.sizeOf29 trv rfl rfl rfl rfl rfl (by simp [Value.oneCell']) rfl ?_
    refine rNil ?_
    refine qSeq rfl ?_
    refine hRet ?_
    refine knP (L' := [OwnR maK 50 2 ayw1 nyw1 cyw1 Hyw1 ((yw1.set ((x2).toNat) ((((yw1.getD ((x2).toNat) [])).set 0 x9)))), blk bkl9 2 [.int .i64 (-1), .int .i64 0, .int .i64 9, .int .i64 10], srcP bk ca bs cc, blk bka5 29 [.slice ay1 ny1 cy1, .slice ayw1 nyw1 cyw1, .slice ayv1 nyv1 cyv1], RdR ndK ay1 ny1 Hy1 y1, OwnR maK 50 2 ayv1 nyv1 cyv1 Hyv1 yv1, blk bka1 29 [.slice ay1 ny1 cy1, .slice ayw1 nyw1 cyw1, .slice ayv1 nyv1 cyv1]]) (fun _ h => h.imp 4 rfl fun _ h => OwnR.rd h ndK.ok) ?_
    refine knP (L' := [RdR maK ayw1 nyw1 Hyw1 ((yw1.set ((x2).toNat) ((((yw1.getD ((x2).toNat) [])).set 0 x9)))), blk bkl9 2 [.int .i64 (-1), .int .i64 0, .int .i64 9, .int .i64 10], srcP bk ca bs cc, blk bka5 29 [.slice ay1 ny1 cy1, .slice ayw1 nyw1 cyw1, .slice ayv1 nyv1 cyv1], RdR ndK ay1 ny1 Hy1 y1, OwnR maK 50 2 ayv1 nyv1 cyv1 Hyv1 yv1, blk bka1 29 [.slice ay1 ny1 cy1, .slice ayw1 nyw1 cyw1, .slice ayv1 nyv1 cyv1]]) (fun _ h => h.imp 0 rfl fun _ h => OwnR.rd h maK.ok) ?_
    refine knP (L' := [RdR maK ayw1 nyw1 Hyw1 ((yw1.set ((x2).toNat) ((((yw1.getD ((x2).toNat) [])).set 0 x9)))), blk bkl9 2 [.int .i64 (-1), .int .i64 0, .int .i64 9, .int .i64 10], srcP bk ca bs cc, blk bka5 29 [.slice ay1 ny1 cy1, .slice ayw1 nyw1 cyw1, .slice ayv1 nyv1 cyv1], RdR ndK ay1 ny1 Hy1 y1, RdR maK ayv1 nyv1 Hyv1 yv1, blk bka1 29 [.slice ay1 ny1 cy1, .slice ayw1 nyw1 cyw1, .slice ayv1 nyv1 cyv1]]) (fun _ h => h.imp 5 rfl fun _ h => OwnR.rd h maK.ok) ?_
    exact fun w hs => ⟨[_], ⟨⟨_, rfl, run_load_agg Tryd.isAgg29 Tryd.sizeOf29 rfl (cBs 6 rfl w hs)⟩, trivial⟩, ⟨(ay1, ny1, cy1, Hy1, y1, ayw1, nyw1, cyw1, Hyw1, (yw1.set ((x2).toNat) ((((yw1.getD ((x2).toNat) [])).set 0 x9))), ayv1, nyv1, cyv1, Hyv1, yv1), rfl, ⟨by dsimp only; omega, ⟨by dsimp only; omega, by dsimp only; omega⟩, by dsimp only; omega⟩, hs.pick [2, 3, 0, 2]⟩⟩
 ·
  replace c1 : ¬ (x3 = 0) := c1
  refine hSeq ?_
  refine hReg (sq 0 (sq 1 sz)) (by kernel_rfl) ?_
  refine eql rfl rfl rfl rfl ?_
  refine asB rfl rfl rfl ?_
  refine rNil ?_
  refine qSeq rfl ?_
  refine hIfD rfl (fun c2 => ?_) (fun c2 => ?_)
  ·
   replace c2 : x3 = 1 := c2
   have hrw := hr1.2.2.2.2 (x2).toNat (by omega)
   have hrl := hr1.2.2.2.1
   refine hDraw (Ls := [blk bka5 29 [.slice ay1 ny1 cy1, .slice ayw1 nyw1 cyw1, .slice ayv1 nyv1 cyv1]]) (by kernel_rfl) (sq 0 (sq 1 (sq 2 (sq 3 (sq 5 (.alt (sl 4 (sl 6 (sl 7 (sq 8 (sl 9 sz))))) (sl 6 (.alt (sl 4 (sl 7 (sq 8 (sl 9 sz)))) (sl 7 (sl 4 (sq 8 (sl 9 sz)))))))))))) (by kernel_rfl) (.cons _ (.cons_cons _ (.cons _ (.cons _ (.cons _ (.cons _ .slnil)))))) ?_
   refine fld fl29_2 rfl rfl rfl ?_
   refine ldq Tryd.isAgg27 (cB 0 rfl rfl) rfl rfl rfl ?_
   refine mvI rfl rfl rfl ?_
   refine ixRl (zn := (x2).toNat) (yv1.getD ((x2).toNat) []) el27 ((Kn.at_ 4 rfl).imp fun _ h => OwnR.rd h maK.ok) rfl rfl rfl rfl (by omega) (by omega) rfl (nth [] (by omega)) ?_
   intro be11 oe11 e11
   refine mvP rfl rfl rfl ?_
   refine rAlt ?_ ?_
   ·
    refine ldl Tryd.isAgg50 (Kn.fld e11 0 rfl) (fun _ h => h.pick [1]) rfl rfl rfl ?_
    refine bsl (fun _ _ h => h.pick [2]) rfl rfl rfl (bsl50_2 (.int .i64 _) (.int .i64 _) rfl rfl) (fun bkl14 hbkl14 => ?_)
    refine rPieces (L' := [srcP bk ca bs cc, blk bkl14 2 [.int .i64 (-2), .int .i64 2], blk bka5 29 [.slice ay1 ny1 cy1, .slice ayw1 nyw1 cyw1, .slice ayv1 nyv1 cyv1], OwnR ndK 52 2 ay1 ny1 cy1 Hy1 y1, OwnR maK 50 2 ayw1 nyw1 cyw1 Hyw1 yw1, OwnR maK 50 2 ayv1 nyv1 cyv1 Hyv1 yv1, blk bka1 29 [.slice none 0 0, .slice none 0 0, .slice none 0 0]]) (fun _ h => h.perm (pull (i := 1) rfl)) ?_
    refine callMK (α := Int) (Lf := [srcP bk ca bs cc, blk bkl14 2 [.int .i64 (-2), .int .i64 2]]) (Lr := [blk bka5 29 [.slice ay1 ny1 cy1, .slice ayw1 nyw1 cyw1, .slice ayv1 nyv1 cyv1], OwnR ndK 52 2 ay1 ny1 cy1 Hy1 y1, OwnR maK 50 2 ayw1 nyw1 cyw1 Hyw1 yw1, OwnR maK 50 2 ayv1 nyv1 cyv1 Hyv1 yv1, blk bka1 29 [.slice none 0 0, .slice none 0 0, .slice none 0 0]]) (good := fun x => x ∈ ([.int .i64 (-2), .int .i64 2] : List Value).map toI) (φs := fun x => [srcP bk ca bs cc, blk bkl14 2 [.int .i64 (-2), .int .i64 2]]) (val := fun x => .int .i64 x) rfl Tryd.call28 (by exact (fun _ _ h => h.pick [2])) rfl rfl (fun w M1 hs hk => src_pick bk ca bs cc bkl14 2 2 2 [.int .i64 (-2), .int .i64 2] w M1 hs (hk _ kcode) hok rfl rfl (by decide)) ?_
    intro x12 hx12
    try dsimp only at hx12
    refine rPieces (L' := [srcP bk ca bs cc, blk bkl14 2 [.int .i64 (-2), .int .i64 2], blk bka5 29 [.slice ay1 ny1 cy1, .slice ayw1 nyw1 cyw1, .slice ayv1 nyv1 cyv1], OwnR ndK 52 2 ay1 ny1 cy1 Hy1 y1, OwnR maK 50 2 ayw1 nyw1 cyw1 Hyw1 yw1, OwnR maK 50 2 ayv1 nyv1 cyv1 Hyv1 yv1, blk bka1 29 [.slice none 0 0, .slice none 0 0, .slice none 0 0]]) (fun _ h => h) ?_
    replace hx12 : (-2 : Int) ≤ x12 ∧ x12 ≤ (2 : Int) := by have hm_ := hx12; simp [toI] at hm_; omega
    refine rPieces (L' := [blk bkl14 2 [.int .i64 (-2), .int .i64 2], srcP bk ca bs cc, blk bka5 29 [.slice ay1 ny1 cy1, .slice ayw1 nyw1 cyw1, .slice ayv1 nyv1 cyv1], OwnR ndK 52 2 ay1 ny1 cy1 Hy1 y1, OwnR maK 50 2 ayw1 nyw1 cyw1 Hyw1 yw1, OwnR maK 50 2 ayv1 nyv1 cyv1 Hyv1 yv1, blk bka1 29 [.slice none 0 0, .slice none 0 0, .slice none 0 0]]) (fun _ h => h.perm (pull (i := 1) rfl)) ?_
    refine rPieces (L' := [OwnR maK 50 2 ayv1 nyv1 cyv1 Hyv1 yv1, blk bkl14 2 [.int .i64 (-2), .int .i64 2], srcP bk ca bs cc, blk bka5 29 [.slice ay1 ny1 cy1, .slice ayw1 nyw1 cyw1, .slice ayv1 nyv1 cyv1], OwnR ndK 52 2 ay1 ny1 cy1 Hy1 y1, OwnR maK 50 2 ayw1 nyw1 cyw1 Hyw1 yw1, blk bka1 29 [.slice none 0 0, .slice none 0 0, .slice none 0 0]]) (fun _ h => h.pick [5, 0, 0, 0, 0, 0, 0]) ?_
    refine rPieces (L' := [OwnI 2 ((Hyv1 ((x2).toNat)).1) ((yv1.getD ((x2).toNat) []).length) ((Hyv1 ((x2).toNat)).2) ((yv1.getD ((x2).toNat) [])), OwnH maK 50 2 ayv1 nyv1 cyv1 Hyv1 yv1 ((x2).toNat), blk bkl14 2 [.int .i64 (-2), .int .i64 2], srcP bk ca bs cc, blk bka5 29 [.slice ay1 ny1 cy1, .slice ayw1 nyw1 cyw1, .slice ayv1 nyv1 cyv1], OwnR ndK 52 2 ay1 ny1 cy1 Hy1 y1, OwnR maK 50 2 ayw1 nyw1 cyw1 Hyw1 yw1, blk bka1 29 [.slice none 0 0, .slice none 0 0, .slice none 0 0]]) (fun _ h => Sep.lend h ((x2).toNat) ((yv1.getD ((x2).toNat) [])) (nth [] (by omega))) ?_
    refine oxI (zn := 0) 0 rfl el50 rfl rfl rfl rfl (by omega) (by omega) rfl ?_
    intro gk13 hgk13
    refine stoI (off := 0) (x := x12) 0 rfl hgk13 Tryd.sizeOf2 (fun _ h => h.pick [4]) rfl rfl rfl rfl (by omega) ?_
    refine rPieces (L' := [OwnR maK 50 2 ayv1 nyv1 cyv1 Hyv1 ((yv1.set ((x2).toNat) ((((yv1.getD ((x2).toNat) [])).set 0 x12)))), blk bkl14 2 [.int .i64 (-2), .int .i64 2], srcP bk ca bs cc, blk bka5 29 [.slice ay1 ny1 cy1, .slice ayw1 nyw1 cyw1, .slice ayv1 nyv1 cyv1], OwnR ndK 52 2 ay1 ny1 cy1 Hy1 y1, OwnR maK 50 2 ayw1 nyw1 cyw1 Hyw1 yw1, blk bka1 29 [.slice none 0 0, .slice none 0 0, .slice none 0 0]]) (fun _ h => Sep.back (x := (yv1.getD ((x2).toNat) [])) (((yv1.getD ((x2).toNat) [])).set 0 x12) maK.ok h (nth [] (by omega)) (fun h1 h2 => by dsimp only [ndK, ndC, maK] at h1 h2 ⊢; rw [h1, h2]) rfl rfl) ?_
    refine rNil ?_
    refine qSeq rfl ?_
    refine hSeq ?_
    refine hReg (sl 0 (sl 1 sz)) (by kernel_rfl) ?_
    refine ldAl Tryd.isAgg29 Tryd.sizeOf29 (cBs 3 rfl) trv rfl rfl rfl rfl ?_
    refine stAl (vs := [.slice ay1 ny1 cy1, .slice ayw1 nyw1 cyw1, .slice ayv1 nyv1 cyv1]) 6 rfl Tryd.sizeOf29 trv rfl rfl rfl rfl rfl (by simp [Value.oneCell']) rfl ?_
    refine rNil ?_
    refine qSeq rfl ?_
    refine hRet ?_
    refine knP (L' := [OwnR maK 50 2 ayv1 nyv1 cyv1 Hyv1 ((yv1.set ((x2).toNat) ((((yv1.getD ((x2).toNat) [])).set 0 x12)))), blk bkl14 2 [.int .i64 (-2), .int .i64 2], srcP bk ca bs cc, blk bka5 29 [.slice ay1 ny1 cy1, .slice ayw1 nyw1 cyw1, .slice ayv1 nyv1 cyv1], RdR ndK ay1 ny1 Hy1 y1, OwnR maK 50 2 ayw1 nyw1 cyw1 Hyw1 yw1, blk bka1 29 [.slice ay1 ny1 cy1, .slice ayw1 nyw1 cyw1, .slice ayv1 nyv1 cyv1]]) (fun _ h => h.imp 4 rfl fun _ h => OwnR.rd h ndK.ok) ?_
    refine knP (L' := [OwnR maK 50 2 ayv1 nyv1 cyv1 Hyv1 ((yv1.set ((x2).toNat) ((((yv1.getD ((x2).toNat) [])).set 0 x12)))), blk bkl14 2 [.int .i64 (-2), .int .i64 2], srcP bk ca bs cc, blk bka5 29 [.slice ay1 ny1 cy1, .slice ayw1 nyw1 cyw1, .slice ayv1 nyv1 cyv1], RdR ndK ay1 ny1 Hy1 y1, RdR maK ayw1 nyw1 Hyw1 yw1, blk bka1 29 [.slice ay1 ny1 cy1, .slice ayw1 nyw1 cyw1, .slice ayv1 nyv1 cyv1]]) (fun _ h => h.imp 5 rfl fun _ h => OwnR.rd h maK.ok) ?_
    refine knP (L' := [RdR maK ayv1 nyv1 Hyv1 ((yv1.set ((x2).toNat) ((((yv1.getD ((x2).toNat) [])).set 0 x12)))), blk bkl14 2 [.int .i64 (-2), .int .i64 2], srcP bk ca bs cc, blk bka5 29 [.slice ay1 ny1 cy1, .slice ayw1 nyw1 cyw1, .slice ayv1 nyv1 cyv1], RdR ndK ay1 ny1 Hy1 y1, RdR maK ayw1 nyw1 Hyw1 yw1, blk bka1 29 [.slice ay1 ny1 cy1, .slice ayw1 nyw1 cyw1, .slice ayv1 nyv1 cyv1]]) (fun _ h => h.imp 0 rfl fun _ h => OwnR.rd h maK.ok) ?_
    exact fun w hs => ⟨[_], ⟨⟨_, rfl, run_load_agg Tryd.isAgg29 Tryd.sizeOf29 rfl (cBs 6 rfl w hs)⟩, trivial⟩, ⟨(ay1, ny1, cy1, Hy1, y1, ayw1, nyw1, cyw1, Hyw1, yw1, ayv1, nyv1, cyv1, Hyv1, (yv1.set ((x2).toNat) ((((yv1.getD ((x2).toNat) [])).set 0 x12)))), rfl, ⟨by dsimp only; omega, ⟨by dsimp only; omega, by dsimp only; omega⟩, by dsimp only; omega⟩, hs.pick [2, 3, 3, 0]⟩⟩
   ·
    refine bsl (fun _ _ h => h.pick [2]) rfl rfl rfl (bsl50_2 (.int .i64 _) (.int .i64 _) rfl rfl) (fun bkl17 hbkl17 => ?_)
    refine rAlt ?_ ?_
    ·
     refine ldl Tryd.isAgg50 (Kn.drop (k := 1) (Kn.fld e11 0 rfl)) (fun _ h => h.pick [2]) rfl rfl rfl ?_
     refine rPieces (L' := [srcP bk ca bs cc, blk bkl17 2 [.int .i64 (-2), .int .i64 2], blk bka5 29 [.slice ay1 ny1 cy1, .slice ayw1 nyw1 cyw1, .slice ayv1 nyv1 cyv1], OwnR ndK 52 2 ay1 ny1 cy1 Hy1 y1, OwnR maK 50 2 ayw1 nyw1 cyw1 Hyw1 yw1, OwnR maK 50 2 ayv1 nyv1 cyv1 Hyv1 yv1, blk bka1 29 [.slice none 0 0, .slice none 0 0, .slice none 0 0]]) (fun _ h => h.perm (pull (i := 1) rfl)) ?_
     refine callMK (α := Int) (Lf := [srcP bk ca bs cc, blk bkl17 2 [.int .i64 (-2), .int .i64 2]]) (Lr := [blk bka5 29 [.slice ay1 ny1 cy1, .slice ayw1 nyw1 cyw1, .slice ayv1 nyv1 cyv1], OwnR ndK 52 2 ay1 ny1 cy1 Hy1 y1, OwnR maK 50 2 ayw1 nyw1 cyw1 Hyw1 yw1, OwnR maK 50 2 ayv1 nyv1 cyv1 Hyv1 yv1, blk bka1 29 [.slice none 0 0, .slice none 0 0, .slice none 0 0]]) (good := fun x => x ∈ ([.int .i64 (-2), .int .i64 2] : List Value).map toI) (φs := fun x => [srcP bk ca bs cc, blk bkl17 2 [.int .i64 (-2), .int .i64 2]]) (val := fun x => .int .i64 x) rfl Tryd.call28 (by exact (fun _ _ h => h.pick [2])) rfl rfl (fun w M1 hs hk => src_pick bk ca bs cc bkl17 2 2 2 [.int .i64 (-2), .int .i64 2] w M1 hs (hk _ kcode) hok rfl rfl (by decide)) ?_
     intro x14 hx14
     try dsimp only at hx14
     refine rPieces (L' := [srcP bk ca bs cc, blk bkl17 2 [.int .i64 (-2), .int .i64 2], blk bka5 29 [.slice ay1 ny1 cy1, .slice ayw1 nyw1 cyw1, .slice ayv1 nyv1 cyv1], OwnR ndK 52 2 ay1 ny1 cy1 Hy1 y1, OwnR maK 50 2 ayw1 nyw1 cyw1 Hyw1 yw1, OwnR maK 50 2 ayv1 nyv1 cyv1 Hyv1 yv1, blk bka1 29 [.slice none 0 0, .slice none 0 0, .slice none 0 0]]) (fun _ h => h) ?_
     replace hx14 : (-2 : Int) ≤ x14 ∧ x14 ≤ (2 : Int) := by have hm_ := hx14; simp [toI] at hm_; omega
     refine rPieces (L' := [blk bkl17 2 [.int .i64 (-2), .int .i64 2], srcP bk ca bs cc, blk bka5 29 [.slice ay1 ny1 cy1, .slice ayw1 nyw1 cyw1, .slice ayv1 nyv1 cyv1], OwnR ndK 52 2 ay1 ny1 cy1 Hy1 y1, OwnR maK 50 2 ayw1 nyw1 cyw1 Hyw1 yw1, OwnR maK 50 2 ayv1 nyv1 cyv1 Hyv1 yv1, blk bka1 29 [.slice none 0 0, .slice none 0 0, .slice none 0 0]]) (fun _ h => h.perm (pull (i := 1) rfl)) ?_
     refine rPieces (L' := [OwnR maK 50 2 ayv1 nyv1 cyv1 Hyv1 yv1, blk bkl17 2 [.int .i64 (-2), .int .i64 2], srcP bk ca bs cc, blk bka5 29 [.slice ay1 ny1 cy1, .slice ayw1 nyw1 cyw1, .slice ayv1 nyv1 cyv1], OwnR ndK 52 2 ay1 ny1 cy1 Hy1 y1, OwnR maK 50 2 ayw1 nyw1 cyw1 Hyw1 yw1, blk bka1 29 [.slice none 0 0, .slice none 0 0, .slice none 0 0]]) (fun _ h => h.pick [5, 0, 0, 0, 0, 0, 0]) ?_
     refine rPieces (L' := [OwnI 2 ((Hyv1 ((x2).toNat)).1) ((yv1.getD ((x2).toNat) []).length) ((Hyv1 ((x2).toNat)).2) ((yv1.getD ((x2).toNat) [])), OwnH maK 50 2 ayv1 nyv1 cyv1 Hyv1 yv1 ((x2).toNat), blk bkl17 2 [.int .i64 (-2), .int .i64 2], srcP bk ca bs cc, blk bka5 29 [.slice ay1 ny1 cy1, .slice ayw1 nyw1 cyw1, .slice ayv1 nyv1 cyv1], OwnR ndK 52 2 ay1 ny1 cy1 Hy1 y1, OwnR maK 50 2 ayw1 nyw1 cyw1 Hyw1 yw1, blk bka1 29 [.slice none 0 0, .slice none 0 0, .slice none 0 0]]) (fun _ h => Sep.lend h ((x2).toNat) ((yv1.getD ((x2).toNat) [])) (nth [] (by omega))) ?_
     refine oxI (zn := 0) 0 rfl el50 rfl rfl rfl rfl (by omega) (by omega) rfl ?_
     intro gk15 hgk15
     refine stoI (off := 0) (x := x14) 0 rfl hgk15 Tryd.sizeOf2 (fun _ h => h.pick [4]) rfl rfl rfl rfl (by omega) ?_
     refine rPieces (L' := [OwnR maK 50 2 ayv1 nyv1 cyv1 Hyv1 ((yv1.set ((x2).toNat) ((((yv1.getD ((x2).toNat) [])).set 0 x14)))), blk bkl17 2 [.int .i64 (-2), .int .i64 2], srcP bk ca bs cc, blk bka5 29 [.slice ay1 ny1 cy1, .slice ayw1 nyw1 cyw1, .slice ayv1 nyv1 cyv1], OwnR ndK 52 2 ay1 ny1 cy1 Hy1 y1, OwnR maK 50 2 ayw1 nyw1 cyw1 Hyw1 yw1, blk bka1 29 [.slice none 0 0, .slice none 0 0, .slice none 0 0]]) (fun _ h => Sep.back (x := (yv1.getD ((x2).toNat) [])) (((yv1.getD ((x2).toNat) [])).set 0 x14) maK.ok h (nth [] (by omega)) (fun h1 h2 => by dsimp only [ndK, ndC, maK] at h1 h2 ⊢; rw [h1, h2]) rfl rfl) ?_
     refine rNil ?_
     refine qSeq rfl ?_
     refine hSeq ?_
     refine hReg (sl 0 (sl 1 sz)) (by kernel_rfl) ?_
     refine ldAl Tryd.isAgg29 Tryd.sizeOf29 (cBs 3 rfl) trv rfl rfl rfl rfl ?_
     refine stAl (vs := [.slice ay1 ny1 cy1, .slice ayw1 nyw1 cyw1, .slice ayv1 nyv1 cyv1]) 6 rfl Tryd.sizeOf29 trv rfl rfl rfl rfl rfl (by simp [Value.oneCell']) rfl ?_
     refine rNil ?_
     refine qSeq rfl ?_
     refine hRet ?_
     refine knP (L' := [OwnR maK 50 2 ayv1 nyv1 cyv1 Hyv1 ((yv1.set ((x2).toNat) ((((yv1.getD ((x2).toNat) [])).set 0 x14)))), blk bkl17 2 [.int .i64 (-2), .int .i64 2], srcP bk ca bs cc, blk bka5 29 [.slice ay1 ny1 cy1, .slice ayw1 nyw1 cyw1, .slice ayv1 nyv1 cyv1], RdR ndK ay1 ny1 Hy1 y1, OwnR maK 50 2 ayw1 nyw1 cyw1 Hyw1 yw1, blk bka1 29 [.slice ay1 ny1 cy1, .slice ayw1 nyw1 cyw1, .slice ayv1 nyv1 cyv1]]) (fun _ h => h.imp 4 rfl fun _ h => OwnR.rd h ndK.ok) ?_
     refine knP (L' := [OwnR maK 50 2 ayv1 nyv1 cyv1 Hyv1 ((yv1.set ((x2).toNat) ((((yv1.getD ((x2).toNat) [])).set 0 x14)))), blk bkl17 2 [.int .i64 (-2), .int .i64 2], srcP bk ca bs cc, blk bka5 29 [.slice ay1 ny1 cy1, .slice ayw1 nyw1 cyw1, .slice ayv1 nyv1 cyv1], RdR ndK ay1 ny1 Hy1 y1, RdR maK ayw1 nyw1 Hyw1 yw1, blk bka1 29 [.slice ay1 ny1 cy1, .slice ayw1 nyw1 cyw1, .slice ayv1 nyv1 cyv1]]) (fun _ h => h.imp 5 rfl fun _ h => OwnR.rd h maK.ok) ?_
     refine knP (L' := [RdR maK ayv1 nyv1 Hyv1 ((yv1.set ((x2).toNat) ((((yv1.getD ((x2).toNat) [])).set 0 x14)))), blk bkl17 2 [.int .i64 (-2), .int .i64 2], srcP bk ca bs cc, blk bka5 29 [.slice ay1 ny1 cy1, .slice ayw1 nyw1 cyw1, .slice ayv1 nyv1 cyv1], RdR ndK ay1 ny1 Hy1 y1, RdR maK ayw1 nyw1 Hyw1 yw1, blk bka1 29 [.slice ay1 ny1 cy1, .slice ayw1 nyw1 cyw1, .slice ayv1 nyv1 cyv1]]) (fun _ h => h.imp 0 rfl fun _ h => OwnR.rd h maK.ok) ?_
     exact fun w hs => ⟨[_], ⟨⟨_, rfl, run_load_agg Tryd.isAgg29 Tryd.sizeOf29 rfl (cBs 6 rfl w hs)⟩, trivial⟩, ⟨(ay1, ny1, cy1, Hy1, y1, ayw1, nyw1, cyw1, Hyw1, yw1, ayv1, nyv1, cyv1, Hyv1, (yv1.set ((x2).toNat) ((((yv1.getD ((x2).toNat) [])).set 0 x14)))), rfl, ⟨by dsimp only; omega, ⟨by dsimp only; omega, by dsimp only; omega⟩, by dsimp only; omega⟩, hs.pick [2, 3, 3, 0]⟩⟩
    ·
     refine rPieces (L' := [srcP bk ca bs cc, blk bkl17 2 [.int .i64 (-2), .int .i64 2], blk bka5 29 [.slice ay1 ny1 cy1, .slice ayw1 nyw1 cyw1, .slice ayv1 nyv1 cyv1], OwnR ndK 52 2 ay1 ny1 cy1 Hy1 y1, OwnR maK 50 2 ayw1 nyw1 cyw1 Hyw1 yw1, OwnR maK 50 2 ayv1 nyv1 cyv1 Hyv1 yv1, blk bka1 29 [.slice none 0 0, .slice none 0 0, .slice none 0 0]]) (fun _ h => h.perm (pull (i := 1) rfl)) ?_
     refine callMK (α := Int) (Lf := [srcP bk ca bs cc, blk bkl17 2 [.int .i64 (-2), .int .i64 2]]) (Lr := [blk bka5 29 [.slice ay1 ny1 cy1, .slice ayw1 nyw1 cyw1, .slice ayv1 nyv1 cyv1], OwnR ndK 52 2 ay1 ny1 cy1 Hy1 y1, OwnR maK 50 2 ayw1 nyw1 cyw1 Hyw1 yw1, OwnR maK 50 2 ayv1 nyv1 cyv1 Hyv1 yv1, blk bka1 29 [.slice none 0 0, .slice none 0 0, .slice none 0 0]]) (good := fun x => x ∈ ([.int .i64 (-2), .int .i64 2] : List Value).map toI) (φs := fun x => [srcP bk ca bs cc, blk bkl17 2 [.int .i64 (-2), .int .i64 2]]) (val := fun x => .int .i64 x) rfl Tryd.call28 (by exact (fun _ _ h => h.pick [2])) rfl rfl (fun w M1 hs hk => src_pick bk ca bs cc bkl17 2 2 2 [.int .i64 (-2), .int .i64 2] w M1 hs (hk _ kcode) hok rfl rfl (by decide)) ?_
     intro x16 hx16
     try dsimp only at hx16
     refine rPieces (L' := [srcP bk ca bs cc, blk bkl17 2 [.int .i64 (-2), .int .i64 2], blk bka5 29 [.slice ay1 ny1 cy1, .slice ayw1 nyw1 cyw1, .slice ayv1 nyv1 cyv1], OwnR ndK 52 2 ay1 ny1 cy1 Hy1 y1, OwnR maK 50 2 ayw1 nyw1 cyw1 Hyw1 yw1, OwnR maK 50 2 ayv1 nyv1 cyv1 Hyv1 yv1, blk bka1 29 [.slice none 0 0, .slice none 0 0, .slice none 0 0]]) (fun _ h => h) ?_
     replace hx16 : (-2 : Int) ≤ x16 ∧ x16 ≤ (2 : Int) := by have hm_ := hx16; simp [toI] at hm_; omega
     refine rPieces (L' := [blk bkl17 2 [.int .i64 (-2), .int .i64 2], srcP bk ca bs cc, blk bka5 29 [.slice ay1 ny1 cy1, .slice ayw1 nyw1 cyw1, .slice ayv1 nyv1 cyv1], OwnR ndK 52 2 ay1 ny1 cy1 Hy1 y1, OwnR maK 50 2 ayw1 nyw1 cyw1 Hyw1 yw1, OwnR maK 50 2 ayv1 nyv1 cyv1 Hyv1 yv1, blk bka1 29 [.slice none 0 0, .slice none 0 0, .slice none 0 0]]) (fun _ h => h.perm (pull (i := 1) rfl)) ?_
     refine ldl Tryd.isAgg50 (Kn.drop (k := 1) (Kn.fld e11 0 rfl)) (fun _ h => h.pick [2]) rfl rfl rfl ?_
     refine rPieces (L' := [OwnR maK 50 2 ayv1 nyv1 cyv1 Hyv1 yv1, blk bkl17 2 [.int .i64 (-2), .int .i64 2], srcP bk ca bs cc, blk bka5 29 [.slice ay1 ny1 cy1, .slice ayw1 nyw1 cyw1, .slice ayv1 nyv1 cyv1], OwnR ndK 52 2 ay1 ny1 cy1 Hy1 y1, OwnR maK 50 2 ayw1 nyw1 cyw1 Hyw1 yw1, blk bka1 29 [.slice none 0 0, .slice none 0 0, .slice none 0 0]]) (fun _ h => h.pick [5, 0, 0, 0, 0, 0, 0]) ?_
     refine rPieces (L' := [OwnI 2 ((Hyv1 ((x2).toNat)).1) ((yv1.getD ((x2).toNat) []).length) ((Hyv1 ((x2).toNat)).2) ((yv1.getD ((x2).toNat) [])), OwnH maK 50 2 ayv1 nyv1 cyv1 Hyv1 yv1 ((x2).toNat), blk bkl17 2 [.int .i64 (-2), .int .i64 2], srcP bk ca bs cc, blk bka5 29 [.slice ay1 ny1 cy1, .slice ayw1 nyw1 cyw1, .slice ayv1 nyv1 cyv1], OwnR ndK 52 2 ay1 ny1 cy1 Hy1 y1, OwnR maK 50 2 ayw1 nyw1 cyw1 Hyw1 yw1, blk bka1 29 [.slice none 0 0, .slice none 0 0, .slice none 0 0]]) (fun _ h => Sep.lend h ((x2).toNat) ((yv1.getD ((x2).toNat) [])) (nth [] (by omega))) ?_
     refine oxI (zn := 0) 0 rfl el50 rfl rfl rfl rfl (by omega) (by omega) rfl ?_
     intro gk17 hgk17
     refine stoI (off := 0) (x := x16) 0 rfl hgk17 Tryd.sizeOf2 (fun _ h => h.pick [4]) rfl rfl rfl rfl (by omega) ?_
     refine rPieces (L' := [OwnR maK 50 2 ayv1 nyv1 cyv1 Hyv1 ((yv1.set ((x2).toNat) ((((yv1.getD ((x2).toNat) [])).set 0 x16)))), blk bkl17 2 [.int .i64 (-2), .int .i64 2], srcP bk ca bs cc, blk bka5 29 [.slice ay1 ny1 cy1, .slice ayw1 nyw1 cyw1, .slice ayv1 nyv1 cyv1], OwnR ndK 52 2 ay1 ny1 cy1 Hy1 y1, OwnR maK 50 2 ayw1 nyw1 cyw1 Hyw1 yw1, blk bka1 29 [.slice none 0 0, .slice none 0 0, .slice none 0 0]]) (fun _ h => Sep.back (x := (yv1.getD ((x2).toNat) [])) (((yv1.getD ((x2).toNat) [])).set 0 x16) maK.ok h (nth [] (by omega)) (fun h1 h2 => by dsimp only [ndK, ndC, maK] at h1 h2 ⊢; rw [h1, h2]) rfl rfl) ?_
     refine rNil ?_
     refine qSeq rfl ?_
     refine hSeq ?_
     refine hReg (sl 0 (sl 1 sz)) (by kernel_rfl) ?_
     refine ldAl Tryd.isAgg29 Tryd.sizeOf29 (cBs 3 rfl) trv rfl rfl rfl rfl ?_
     refine stAl (vs := [.slice ay1 ny1 cy1, .slice ayw1 nyw1 cyw1, .slice ayv1 nyv1 cyv1]) 6 rfl Tryd.sizeOf29 trv rfl rfl rfl rfl rfl (by simp [Value.oneCell']) rfl ?_
     refine rNil ?_
     refine qSeq rfl ?_
     refine hRet ?_
     refine knP (L' := [OwnR maK 50 2 ayv1 nyv1 cyv1 Hyv1 ((yv1.set ((x2).toNat) ((((yv1.getD ((x2).toNat) [])).set 0 x16)))), blk bkl17 2 [.int .i64 (-2), .int .i64 2], srcP bk ca bs cc, blk bka5 29 [.slice ay1 ny1 cy1, .slice ayw1 nyw1 cyw1, .slice ayv1 nyv1 cyv1], RdR ndK ay1 ny1 Hy1 y1, OwnR maK 50 2 ayw1 nyw1 cyw1 Hyw1 yw1, blk bka1 29 [.slice ay1 ny1 cy1, .slice ayw1 nyw1 cyw1, .slice ayv1 nyv1 cyv1]]) (fun _ h => h.imp 4 rfl fun _ h => OwnR.rd h ndK.ok) ?_
     refine knP (L' := [OwnR maK 50 2 ayv1 nyv1 cyv1 Hyv1 ((yv1.set ((x2).toNat) ((((yv1.getD ((x2).toNat) [])).set 0 x16)))), blk bkl17 2 [.int .i64 (-2), .int .i64 2], srcP bk ca bs cc, blk bka5 29 [.slice ay1 ny1 cy1, .slice ayw1 nyw1 cyw1, .slice ayv1 nyv1 cyv1], RdR ndK ay1 ny1 Hy1 y1, RdR maK ayw1 nyw1 Hyw1 yw1, blk bka1 29 [.slice ay1 ny1 cy1, .slice ayw1 nyw1 cyw1, .slice ayv1 nyv1 cyv1]]) (fun _ h => h.imp 5 rfl fun _ h => OwnR.rd h maK.ok) ?_
     refine knP (L' := [RdR maK ayv1 nyv1 Hyv1 ((yv1.set ((x2).toNat) ((((yv1.getD ((x2).toNat) [])).set 0 x16)))), blk bkl17 2 [.int .i64 (-2), .int .i64 2], srcP bk ca bs cc, blk bka5 29 [.slice ay1 ny1 cy1, .slice ayw1 nyw1 cyw1, .slice ayv1 nyv1 cyv1], RdR ndK ay1 ny1 Hy1 y1, RdR maK ayw1 nyw1 Hyw1 yw1, blk bka1 29 [.slice ay1 ny1 cy1, .slice ayw1 nyw1 cyw1, .slice ayv1 nyv1 cyv1]]) (fun _ h => h.imp 0 rfl fun _ h => OwnR.rd h maK.ok) ?_
     exact fun w hs => ⟨[_], ⟨⟨_, rfl, run_load_agg Tryd.isAgg29 Tryd.sizeOf29 rfl (cBs 6 rfl w hs)⟩, trivial⟩, ⟨(ay1, ny1, cy1, Hy1, y1, ayw1, nyw1, cyw1, Hyw1, yw1, ayv1, nyv1, cyv1, Hyv1, (yv1.set ((x2).toNat) ((((yv1.getD ((x2).toNat) [])).set 0 x16)))), rfl, ⟨by dsimp only; omega, ⟨by dsimp only; omega, by dsimp only; omega⟩, by dsimp only; omega⟩, hs.pick [2, 3, 3, 0]⟩⟩
  ·
   replace c2 : ¬ (x3 = 1) := c2
   refine hSeq ?_
   refine hReg (sq 0 (sq 1 sz)) (by kernel_rfl) ?_
   refine eql rfl rfl rfl rfl ?_
   refine asB rfl rfl rfl ?_
   refine rNil ?_
   refine qSeq rfl ?_
   refine hIfD rfl (fun c3 => ?_) (fun c3 => ?_)
   ·
    replace c3 : x3 = 2 := c3
    refine hSeq ?_
    refine hDraw (Ls := [blk bka5 29 [.slice ay1 ny1 cy1, .slice ayw1 nyw1 cyw1, .slice ayv1 nyv1 cyv1]]) (by kernel_rfl) (sq 0 (sq 1 (sq 2 (sq 3 (sq 4 (sq 5 (sq 6 (sq 7 (sf 8 sz))))))))) (by kernel_rfl) (.cons _ (.cons_cons _ (.cons _ (.cons _ (.cons _ (.cons _ .slnil)))))) ?_
    refine fld fl29_0 rfl rfl rfl ?_
    refine ldAq Tryd.isAgg26 Tryd.sizeOf26 (cBp (m := 1) 0 rfl rfl) rfl rfl rfl rfl ?_
    refine fld fl29_1 rfl rfl rfl ?_
    refine ldq Tryd.isAgg27 (cB 0 rfl rfl) rfl rfl rfl ?_
    refine fld fl29_2 rfl rfl rfl ?_
    refine ldq Tryd.isAgg27 (cB 0 rfl rfl) rfl rfl rfl ?_
    refine slLoR (zn := 1) 4 maK.ok rfl el27 rfl rfl rfl rfl (by omega) (by omega) rfl ?_
    intro ae18 e18
    refine bld rfl rfl rfl (bld29_0_1_2 (.slice ay1 ny1 cy1) (.slice _ _ _) (.slice _ _ _) rfl rfl rfl) ?_
    refine stAf (vs := [.slice ay1 ny1 cy1, .slice ayw1 nyw1 cyw1, .slice ae18 (nyv1 - 1) (cyv1 - 1)]) 5 rfl Tryd.sizeOf29 rfl rfl rfl rfl rfl (by simp [Value.oneCell']) rfl ?_
    refine rNil ?_
    refine qSeq rfl ?_
    refine hRet ?_
    refine knP (L' := [srcP bk ca bs cc, blk bka5 29 [.slice ay1 ny1 cy1, .slice ayw1 nyw1 cyw1, .slice ayv1 nyv1 cyv1], RdR ndK ay1 ny1 Hy1 y1, OwnR maK 50 2 ayw1 nyw1 cyw1 Hyw1 yw1, OwnR maK 50 2 ayv1 nyv1 cyv1 Hyv1 yv1, blk bka1 29 [.slice ay1 ny1 cy1, .slice ayw1 nyw1 cyw1, .slice ae18 (nyv1 - 1) (cyv1 - 1)]]) (fun _ h => h.imp 2 rfl fun _ h => OwnR.rd h ndK.ok) ?_
    refine knP (L' := [srcP bk ca bs cc, blk bka5 29 [.slice ay1 ny1 cy1, .slice ayw1 nyw1 cyw1, .slice ayv1 nyv1 cyv1], RdR ndK ay1 ny1 Hy1 y1, RdR maK ayw1 nyw1 Hyw1 yw1, OwnR maK 50 2 ayv1 nyv1 cyv1 Hyv1 yv1, blk bka1 29 [.slice ay1 ny1 cy1, .slice ayw1 nyw1 cyw1, .slice ae18 (nyv1 - 1) (cyv1 - 1)]]) (fun _ h => h.imp 3 rfl fun _ h => OwnR.rd h maK.ok) ?_
    refine knP (L' := [srcP bk ca bs cc, blk bka5 29 [.slice ay1 ny1 cy1, .slice ayw1 nyw1 cyw1, .slice ayv1 nyv1 cyv1], RdR ndK ay1 ny1 Hy1 y1, RdR maK ayw1 nyw1 Hyw1 yw1, RdR maK ae18 (nyv1 - 1) ((fun i => Hyv1 (i + 1))) (List.drop 1 yv1), blk bka1 29 [.slice ay1 ny1 cy1, .slice ayw1 nyw1 cyw1, .slice ae18 (nyv1 - 1) (cyv1 - 1)]]) (fun _ h => h.imp 4 rfl fun _ h => e18 _ h) ?_
    exact fun w hs => ⟨[_], ⟨⟨_, rfl, run_load_agg Tryd.isAgg29 Tryd.sizeOf29 rfl (cBs 5 rfl w hs)⟩, trivial⟩, ⟨(ay1, ny1, cy1, Hy1, y1, ayw1, nyw1, cyw1, Hyw1, yw1, ae18, (nyv1 - 1), (cyv1 - 1), (fun i => Hyv1 (i + 1)), (List.drop 1 yv1)), rfl, ⟨by dsimp only; omega, ⟨by dsimp only; omega, by dsimp only; omega⟩, by dsimp only; omega⟩, hs.pick [0, 1, 1, 1]⟩⟩
   ·
    replace c3 : ¬ (x3 = 2) := c3
    refine hSeq ?_
    refine hReg (sq 0 (sq 1 sz)) (by kernel_rfl) ?_
    refine eql rfl rfl rfl rfl ?_
    refine asB rfl rfl rfl ?_
    refine rNil ?_
    refine qSeq rfl ?_
    refine hIfD rfl (fun c4 => ?_) (fun c4 => ?_)
    ·
     replace c4 : x3 = 3 := c4
     refine hSeq ?_
     refine hDraw (Ls := [blk bka5 29 [.slice ay1 ny1 cy1, .slice ayw1 nyw1 cyw1, .slice ayv1 nyv1 cyv1]]) (by kernel_rfl) (sq 0 (sq 2 (sq 3 (sq 4 (sq 5 (sl 1 (sq 6 (sf 7 sz)))))))) (by kernel_rfl) (.cons _ (.cons_cons _ (.cons _ (.cons _ (.cons _ (.cons _ .slnil)))))) ?_
     refine mvP rfl rfl rfl ?_
     refine fld fl29_1 rfl rfl rfl ?_
     refine ldq Tryd.isAgg27 (cB 0 rfl rfl) rfl rfl rfl ?_
     refine fld fl29_2 rfl rfl rfl ?_
     refine ldq Tryd.isAgg27 (cB 0 rfl rfl) rfl rfl rfl ?_
     refine callMK (α := Option Addr × Nat × Nat × (Nat → Hd) × List Nd) (Lf := [srcP bk ca bs cc]) (Lr := [blk bka5 29 [.slice ay1 ny1 cy1, .slice ayw1 nyw1 cyw1, .slice ayv1 nyv1 cyv1], OwnR ndK 52 2 ay1 ny1 cy1 Hy1 y1, OwnR maK 50 2 ayw1 nyw1 cyw1 Hyw1 yw1, OwnR maK 50 2 ayv1 nyv1 cyv1 Hyv1 yv1, blk bka1 29 [.slice none 0 0, .slice none 0 0, .slice none 0 0]]) (good := fun x => x.2.1 ≤ 250) (φs := fun x => [srcP bk ca bs cc, RdR ndK x.1 x.2.1 x.2.2.2.1 x.2.2.2.2]) (val := fun x => .agg #[.slice x.1 x.2.1 x.2.2.1]) rfl Tryd.call47 (by exact (fun _ _ h => h.pick [2])) rfl rfl (fun w M1 hs hk => spec_l20Draw_c bk ca bs cc  w M1 hs (hk _ kcode) hok ) ?_
     rintro ⟨ay19, ny19, cy19, Hy19, y19⟩ hr19
     try dsimp only at hr19
     refine rPieces (L' := [srcP bk ca bs cc, RdR ndK ay19 ny19 Hy19 y19, blk bka5 29 [.slice ay1 ny1 cy1, .slice ayw1 nyw1 cyw1, .slice ayv1 nyv1 cyv1], OwnR ndK 52 2 ay1 ny1 cy1 Hy1 y1, OwnR maK 50 2 ayw1 nyw1 cyw1 Hyw1 yw1, OwnR maK 50 2 ayv1 nyv1 cyv1 Hyv1 yv1, blk bka1 29 [.slice none 0 0, .slice none 0 0, .slice none 0 0]]) (fun _ h => h) ?_
     refine rKnow (fun w hs => (show RdR ndK ay19 ny19 Hy19 y19 w from hs.at_ 1 rfl).1) (fun lenn22 => ?_)
     refine bld rfl rfl rfl (bld29_0_1_2 (.slice ay19 ny19 cy19) (.slice _ _ _) (.slice _ _ _) rfl rfl rfl) ?_
     refine stAf (vs := [.slice ay19 ny19 cy19, .slice ayw1 nyw1 cyw1, .slice ayv1 nyv1 cyv1]) 6 rfl Tryd.sizeOf29 rfl rfl rfl rfl rfl (by simp [Value.oneCell']) rfl ?_
     refine rNil ?_
     refine qSeq rfl ?_
     refine hRet ?_
     refine knP (L' := [srcP bk ca bs cc, RdR ndK ay19 ny19 Hy19 y19, blk bka5 29 [.slice ay1 ny1 cy1, .slice ayw1 nyw1 cyw1, .slice ayv1 nyv1 cyv1], OwnR ndK 52 2 ay1 ny1 cy1 Hy1 y1, RdR maK ayw1 nyw1 Hyw1 yw1, OwnR maK 50 2 ayv1 nyv1 cyv1 Hyv1 yv1, blk bka1 29 [.slice ay19 ny19 cy19, .slice ayw1 nyw1 cyw1, .slice ayv1 nyv1 cyv1]]) (fun _ h => h.imp 4 rfl fun _ h => OwnR.rd h maK.ok) ?_
     refine knP (L' := [srcP bk ca bs cc, RdR ndK ay19 ny19 Hy19 y19, blk bka5 29 [.slice ay1 ny1 cy1, .slice ayw1 nyw1 cyw1, .slice ayv1 nyv1 cyv1], OwnR ndK 52 2 ay1 ny1 cy1 Hy1 y1, RdR maK ayw1 nyw1 Hyw1 yw1, RdR maK ayv1 nyv1 Hyv1 yv1, blk bka1 29 [.slice ay19 ny19 cy19, .slice ayw1 nyw1 cyw1, .slice ayv1 nyv1 cyv1]]) (fun _ h => h.imp 5 rfl fun _ h => OwnR.rd h maK.ok) ?_
     exact fun w hs => ⟨[_], ⟨⟨_, rfl, run_load_agg Tryd.isAgg29 Tryd.sizeOf29 rfl (cBs 6 rfl w hs)⟩, trivial⟩, ⟨(ay19, ny19, cy19, Hy19, y19, ayw1, nyw1, cyw1, Hyw1, yw1, ayv1, nyv1, cyv1, Hyv1, yv1), rfl, ⟨by dsimp only; omega, ⟨by dsimp only; omega, by dsimp only; omega⟩, by dsimp only; omega⟩, hs.pick [0, 0, 2, 2]⟩⟩
    ·
     replace c4 : ¬ (x3 = 3) := c4
     refine hSkip ?_
     refine qSeq rfl ?_
     refine hSeq ?_
     refine hReg (sl 0 (sl 1 sz)) (by kernel_rfl) ?_
     refine ldAl Tryd.isAgg29 Tryd.sizeOf29 (cBs 1 rfl) trv rfl rfl rfl rfl ?_
     refine stAl (vs := [.slice ay1 ny1 cy1, .slice ayw1 nyw1 cyw1, .slice ayv1 nyv1 cyv1]) 5 rfl Tryd.sizeOf29 trv rfl rfl rfl rfl rfl (by simp [Value.oneCell']) rfl ?_
     refine rNil ?_
     refine qSeq rfl ?_
     refine hRet ?_
     refine knP (L' := [srcP bk ca bs cc, blk bka5 29 [.slice ay1 ny1 cy1, .slice ayw1 nyw1 cyw1, .slice ayv1 nyv1 cyv1], RdR ndK ay1 ny1 Hy1 y1, OwnR maK 50 2 ayw1 nyw1 cyw1 Hyw1 yw1, OwnR maK 50 2 ayv1 nyv1 cyv1 Hyv1 yv1, blk bka1 29 [.slice ay1 ny1 cy1, .slice ayw1 nyw1 cyw1, .slice ayv1 nyv1 cyv1]]) (fun _ h => h.imp 2 rfl fun _ h => OwnR.rd h ndK.ok) ?_
     refine knP (L' := [srcP bk ca bs cc, blk bka5 29 [.slice ay1 ny1 cy1, .slice ayw1 nyw1 cyw1, .slice ayv1 nyv1 cyv1], RdR ndK ay1 ny1 Hy1 y1, RdR maK ayw1 nyw1 Hyw1 yw1, OwnR maK 50 2 ayv1 nyv1 cyv1 Hyv1 yv1, blk bka1 29 [.slice ay1 ny1 cy1, .slice ayw1 nyw1 cyw1, .slice ayv1 nyv1 cyv1]]) (fun _ h => h.imp 3 rfl fun _ h => OwnR.rd h maK.ok) ?_
     refine knP (L' := [srcP bk ca bs cc, blk bka5 29 [.slice ay1 ny1 cy1, .slice ayw1 nyw1 cyw1, .slice ayv1 nyv1 cyv1], RdR ndK ay1 ny1 Hy1 y1, RdR maK ayw1 nyw1 Hyw1 yw1, RdR maK ayv1 nyv1 Hyv1 yv1, blk bka1 29 [.slice ay1 ny1 cy1, .slice ayw1 nyw1 cyw1, .slice ayv1 nyv1 cyv1]]) (fun _ h => h.imp 4 rfl fun _ h => OwnR.rd h maK.ok) ?_
     exact fun w hs => ⟨[_], ⟨⟨_, rfl, run_load_agg Tryd.isAgg29 Tryd.sizeOf29 rfl (cBs 5 rfl w hs)⟩, trivial⟩, ⟨(ay1, ny1, cy1, Hy1, y1, ayw1, nyw1, cyw1, Hyw1, yw1, ayv1, nyv1, cyv1, Hyv1, yv1), rfl, ⟨by dsimp only; omega, ⟨by dsimp only; omega, by dsimp only; omega⟩, by dsimp only; omega⟩, hs.pick [0, 1, 1, 1]⟩⟩
end Go.Proofs.YtjengglpbdgmnaaDoor
