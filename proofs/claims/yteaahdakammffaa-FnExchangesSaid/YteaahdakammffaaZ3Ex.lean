/- Contracts of cards and sets of cards. Their conditions stand in each. -/
import Derived.Test.YteaahdakammffaaZ2Ex
import Derived.Test.YteaahdakammffaaZ1Ex
import Derived.Test.YteaahdakammffaaRows
namespace Go.Proofs.Yteaahdakammffaa
open Go Go.RowKit V
set_option linter.unusedVariables false
set_option linter.unusedSimpArgs false
set_option maxRecDepth 100000
theorem mk137 : Mk Try.prog 137 4 1 1 [.bool false] := ⟨Try.underlying137, Try.t4, _, by kernel_rfl, rfl, rfl, rfl, rfl, rfl, by decide, by decide⟩
theorem el137 : Elt Try.prog 137 1 := ⟨4, Try.runUnderlying137, Try.sizeOf4⟩
theorem impl_isCard_c (n : Int) (w : World) :
  Calls Try.prog 101 #[.int .i64 n] w (Ret fun v w' => v = .bool (decide (0 ≤ n ∧ n ≤ 51)) ∧ Ext w w') := by
 refine fn (M := none_) (rs := [.tmp 2]) Try.func101 rfl Try.ntmps101 rfl rfl (Sep.start _ _) ?_
 refine hSeq ?_
 refine hReg (sq 0 sz) (by kernel_rfl) ?_
 refine asB rfl rfl rfl ?_
 refine rNil ?_
 refine qSeq rfl ?_
 refine hSeq ?_
 refine hReg (sq 0 (sl 1 (sq 2 sz))) (by kernel_rfl) ?_
 refine mvI rfl rfl rfl ?_
 refine callP (v := .bool (decide ((0 : Int) ≤ n ∧ n ≤ (51 : Int)))) Try.call65 trv rfl rfl (fun w hs => impl_within_c _ _ _ w ) ?_
 refine asB rfl rfl rfl ?_
 refine rNil ?_
 refine qSeq rfl ?_
 refine hRet ?_
 exact fun w hs => ⟨[.bool (decide ((0 : Int) ≤ n ∧ n ≤ (51 : Int)))], ⟨rfl, trivial⟩, ⟨by first | rfl | exact bD (by omega) | exact bT (by omega) | exact bF (by omega) | exact vI (by omega), hs.upd⟩⟩
theorem spec_l02Card_c (n : Int) (w : World) :
  Calls Try.prog 102 #[.int .i64 n] w (Ret fun v w' => v = .bool (decide (0 ≤ n ∧ n ≤ 51)) ∧ Ext w w') := by
 refine fn (M := none_) (rs := [.tmp 2]) Try.func102 rfl Try.ntmps102 rfl rfl (Sep.start _ _) ?_
 refine hSeq ?_
 refine hReg (sq 0 sz) (by kernel_rfl) ?_
 refine asB rfl rfl rfl ?_
 refine rNil ?_
 refine qSeq rfl ?_
 refine hSeq ?_
 refine hReg (sq 0 (sl 1 (sq 2 sz))) (by kernel_rfl) ?_
 refine mvI rfl rfl rfl ?_
 refine callP (v := .bool (decide ((0 : Int) ≤ n ∧ n ≤ (51 : Int)))) Try.call88 trv rfl rfl (fun w hs => spec_l01In_c _ _ _ w ) ?_
 refine asB rfl rfl rfl ?_
 refine rNil ?_
 refine qSeq rfl ?_
 refine hRet ?_
 exact fun w hs => ⟨[.bool (decide ((0 : Int) ≤ n ∧ n ≤ (51 : Int)))], ⟨rfl, trivial⟩, ⟨by first | rfl | exact bD (by omega) | exact bT (by omega) | exact bF (by omega) | exact vI (by omega), hs.upd⟩⟩
theorem impl_AreCards_c (az : Option Addr) (nz : Nat) (cz : Nat) (z : List Int) (w : World) (rz : RdI az nz z w) :
  Calls Try.prog 72 #[.slice az nz cz] w (Ret fun v w' => v = .bool (Iso.areB z) ∧ Ext w w') := by
 have kz : Kn w none_ [] (RdI az nz z) := fun w' hs => rz.ext hs.upd
 have lz : z.length = nz := rz.1
 have mz : nz ≤ 9223372036854775807 := rz.2.1
 refine fn (M := none_) (rs := [.tmp 2]) Try.func72 rfl Try.ntmps72 rfl rfl (Sep.start _ _) ?_
 refine hSeq ?_
 refine hReg (sq 0 sz) (by kernel_rfl) ?_
 refine asB rfl rfl rfl ?_
 refine rNil ?_
 refine qSeq rfl ?_
 refine hSeq ?_
 refine hReg (sq 0 sz) (by kernel_rfl) ?_
 refine asI rfl rfl rfl ?_
 refine rNil ?_
 refine qSeq rfl ?_
 refine hSeq ?_
 refine hSeq ?_
 refine hReg (sq 0 (sq 1 (sq 2 sz))) (by kernel_rfl) ?_
 refine mvS rfl rfl rfl ?_
 refine lenS Try.runUnderlying23 rfl rfl rfl ?_
 refine mvI rfl rfl rfl ?_
 refine rNil ?_
 refine qSeq rfl ?_
 refine hBlk ?_
 refine hLoop (α := Nat × Nat) (fun x => x.1 ≤ nz ∧ Iso.areP (z.take x.1) ∧ Iso.maskOk x.2 (z.take x.1)) (fun x => nz - x.1) (fun x => []) (fun x => [(3, .int .u64 (x.2 : Int)), (6, .slice az nz cz), (7, .int .i64 (nz : Int)), (8, .int .i64 (x.1 : Int))]) (0, 0) ⟨Nat.zero_le _, Iso.areP_nil, Iso.mask0⟩ (fun _ h => h.pick []) ⟨rfl, rfl, rfl, rfl, trivial⟩ ?_
 rintro ⟨i, m⟩ τ1 ⟨hi, ha, hm⟩
 dsimp only at hi ha hm
 refine hRe [(3, .int .u64 (m : Int)), (6, .slice az nz cz), (7, .int .i64 (nz : Int)), (8, .int .i64 (i : Int))] [] rfl rfl ?_
 refine hSeq ?_
 refine hReg (sq 0 sz) (by kernel_rfl) ?_
 refine lss rfl rfl rfl rfl ?_
 refine rNil ?_
 refine qSeq rfl ?_
 refine hSeq ?_
 refine hIfD rfl (fun c1 => ?_) (fun c1 => ?_)
 ·
  replace c1 : (i : Int) < (nz : Int) := c1
  refine hSkip ?_
  refine qSeq rfl ?_
  refine hSeq ?_
  refine hBlk ?_
  refine hSeq ?_
  refine hReg (sq 0 (sl 1 (sq 2 sz))) (by kernel_rfl) ?_
  refine ixIl (zn := i) el23 (kz) rfl rfl rfl rfl (by omega) (by omega) rfl ?_
  intro ae1 e1
  refine ldl Try.isAgg2 (e1) trv rfl rfl rfl ?_
  refine asI rfl rfl rfl ?_
  refine rNil ?_
  refine qSeq rfl ?_
  refine hSeq ?_
  refine hSeq ?_
  refine hReg (sq 0 (sl 1 (sq 2 (sq 3 (sq 4 (sq 5 (sq 6 (sq 7 (sq 8 (sq 9 sz)))))))))) (by kernel_rfl) ?_
  refine mvI rfl rfl rfl ?_
  refine callP (v := .bool (decide (0 ≤ (z.getD i 0) ∧ (z.getD i 0) ≤ 51))) Try.call101 trv rfl rfl (fun w hs => impl_isCard_c _ w ) ?_
  refine notD rfl rfl rfl ?_
  refine mvB rfl rfl rfl ?_
  refine rBoolD (d := 15) rfl (fun g2 => ?_) (fun g2 => ?_)
  ·
   replace g2 : ¬ (0 ≤ (z.getD i 0) ∧ (z.getD i 0) ≤ 51) := g2
   refine rSkipQ rfl rfl ?_
   refine rSkipQ rfl rfl ?_
   refine rSkipQ rfl rfl ?_
   refine rSkipQ rfl rfl ?_
   refine rSkipQ rfl rfl ?_
   refine pickB rfl rfl rfl rfl ?_
   refine rNil ?_
   refine qSeq rfl ?_
   refine hIfT rfl ?_
   refine hSeq ?_
   refine hReg (sq 0 sz) (by kernel_rfl) ?_
   refine asB rfl rfl rfl ?_
   refine rNil ?_
   refine qSeq rfl ?_
   refine hRet ?_
   exact fun w hs => ⟨[.bool false], ⟨rfl, trivial⟩, ⟨bB (Iso.areB_out (i := i) (by omega) (by omega)).symm, hs.upd⟩⟩
  ·
   replace g2 : ¬ (¬ (0 ≤ (z.getD i 0) ∧ (z.getD i 0) ≤ 51)) := g2
   have htw : ((m : Int) / 2 ^ (z.getD i 0).toNat % 2 = 1) → (z.getD i 0) ∈ z.take i := (Iso.mask_bit hm (by omega)).1
   refine mvI rfl rfl rfl ?_
   refine mvI rfl rfl rfl ?_
   refine shrU rfl rfl rfl rfl (by omega) ?_
   refine andU rfl rfl rfl rfl (Iso.mask_div hm) ?_
   refine eql rfl rfl rfl rfl ?_
   refine pickB rfl rfl rfl rfl ?_
   refine rNil ?_
   refine qSeq rfl ?_
   refine hIfD rfl (fun c3 => ?_) (fun c3 => ?_)
   ·
    replace c3 : ((((m : Int) / 2 ^ (z.getD i 0).toNat)) % 2) = 1 := c3
    refine hSeq ?_
    refine hReg (sq 0 sz) (by kernel_rfl) ?_
    refine asB rfl rfl rfl ?_
    refine rNil ?_
    refine qSeq rfl ?_
    refine hRet ?_
    exact fun w hs => ⟨[.bool false], ⟨rfl, trivial⟩, ⟨bB (Iso.areB_twice (i := i) (by omega) (htw c3)).symm, hs.upd⟩⟩
   ·
    replace c3 : ¬ (((((m : Int) / 2 ^ (z.getD i 0).toNat)) % 2) = 1) := c3
    refine hSkip ?_
    refine qSeq rfl ?_
    refine hReg (sq 0 (sq 1 (sq 2 (sq 3 (sq 4 sz))))) (by kernel_rfl) ?_
    refine mvI rfl rfl rfl ?_
    refine mvI rfl rfl rfl ?_
    refine shlU rfl rfl rfl rfl (by omega) ?_
    refine orU (x := m) (y := (2 ^ (z.getD i 0).toNat)) rfl rfl rfl rfl (⟨Iso.mask_lt hm, Nat.lt_trans (Iso.pow_lt (by omega)) (by decide)⟩) ?_
    refine asI rfl rfl rfl ?_
    refine rNil ?_
    refine qSeq rfl ?_
    refine hReg (sq 0 (sq 1 sz)) (by kernel_rfl) ?_
    refine add rfl rfl rfl rfl (by omega) ?_
    refine mvI rfl rfl rfl ?_
    refine rNil ?_
    exact qNext rfl ((i + 1, m ||| 2 ^ (z.getD i 0).toNat)) (by dsimp only; omega) ⟨by dsimp only; omega, Iso.areP_next (by omega) ha (by omega) (fun h => c3 ((Iso.mask_bit hm (by omega)).2 h)), by dsimp only; rw [Iso.take_snoc (by omega)]; exact Iso.mask_step hm (by omega)⟩ ⟨rfl, rfl, rfl, rfl, trivial⟩ (fun _ h => h.pick [])
 ·
  replace c1 : ¬ ((i : Int) < (nz : Int)) := c1
  refine hExit rfl ?_
  refine qSeq rfl ?_
  refine hSeq ?_
  refine hReg (sq 0 sz) (by kernel_rfl) ?_
  refine asB rfl rfl rfl ?_
  refine rNil ?_
  refine qSeq rfl ?_
  refine hRet ?_
  exact fun w hs => ⟨[.bool true], ⟨rfl, trivial⟩, ⟨bB (Iso.areB_end (i := i) (by omega) ha).symm, hs.upd⟩⟩
theorem spec_AreCards_c (az : Option Addr) (nz : Nat) (cz : Nat) (z : List Int) (w : World) (rz : RdI az nz z w) :
  Calls Try.prog 94 #[.slice az nz cz] w (Ret fun v w' => v = .bool (Iso.areB z) ∧ Ext w w') := by
 have kz : Kn w none_ [] (RdI az nz z) := fun w' hs => rz.ext hs.upd
 have lz : z.length = nz := rz.1
 have mz : nz ≤ 9223372036854775807 := rz.2.1
 refine fn (M := none_) (rs := [.tmp 2]) Try.func94 rfl Try.ntmps94 rfl rfl (Sep.start _ _) ?_
 refine hSeq ?_
 refine hReg (sq 0 sz) (by kernel_rfl) ?_
 refine asB rfl rfl rfl ?_
 refine rNil ?_
 refine qSeq rfl ?_
 refine hSeq ?_
 refine hReg (sl 0 (sq 1 sz)) (by kernel_rfl) ?_
 refine mksR (e1 := 2) 52 false boK.ok rfl rfl mk137 trv1 rfl rfl rfl rfl (rfl) (by omega) (fun bkm1 hbkm1 => ?_)
 refine asS rfl rfl rfl ?_
 refine rNil ?_
 refine qSeq rfl ?_
 refine hSeq ?_
 refine hSeq ?_
 refine hReg (sq 0 sz) (by kernel_rfl) ?_
 refine asI rfl rfl rfl ?_
 refine rNil ?_
 refine qSeq rfl ?_
 refine hBlk ?_
 rw [show List.replicate 52 false = Iso.seenB (z.take 0) from Iso.seenB_nil.symm]
 refine hLoop (α := Nat) (fun i => i ≤ nz ∧ Iso.areP (z.take i)) (fun i => nz - i) (fun i => [OwnR boK 4 2 (some ⟨bkm1, 0, none⟩) 52 52 ((fun _ => (none, 0))) ((Iso.seenB (z.take i)))]) (fun i => [(0, .slice az nz cz), (3, .slice (some ⟨bkm1, 0, none⟩) 52 52), (4, .int .i64 (i : Int))]) 0 ⟨Nat.zero_le _, Iso.areP_nil⟩ (fun _ h => h.pick [0]) ⟨rfl, rfl, rfl, trivial⟩ ?_
 rintro i τ1 ⟨hi, ha⟩
 refine hSeq ?_
 refine hSeq ?_
 refine hReg (sq 0 (sq 1 (sq 2 (sq 3 sz)))) (by kernel_rfl) ?_
 refine mvI rfl rfl rfl ?_
 refine mvS rfl rfl rfl ?_
 refine lenS Try.runUnderlying23 rfl rfl rfl ?_
 refine lss rfl rfl rfl rfl ?_
 refine rNil ?_
 refine qSeq rfl ?_
 refine hIfD rfl (fun c1 => ?_) (fun c1 => ?_)
 ·
  replace c1 : (i : Int) < (nz : Int) := c1
  refine hSkip ?_
  refine qSeq rfl ?_
  refine hSeq ?_
  refine hBlk ?_
  refine hSeq ?_
  refine hSeq ?_
  refine hReg (sq 0 (sq 1 (sq 2 (sl 3 (sl 4 (sq 5 (sq 6 (sq 7 (sq 8 (sq 9 (sq 10 (sl 11 (sq 12 (sl 13 (sq 14 sz))))))))))))))) (by kernel_rfl) ?_
  refine mvS rfl rfl rfl ?_
  refine mvI rfl rfl rfl ?_
  refine ixIl (zn := i) el23 (Kn.drop (k := 1) kz) rfl rfl rfl rfl (by omega) (by omega) rfl ?_
  intro ae1 e1
  refine ldl Try.isAgg2 (e1) trv rfl rfl rfl ?_
  refine callP (v := .bool (decide (0 ≤ (z.getD i 0) ∧ (z.getD i 0) ≤ 51))) Try.call102 trv rfl rfl (fun w hs => spec_l02Card_c _ w ) ?_
  refine notD rfl rfl rfl ?_
  refine mvB rfl rfl rfl ?_
  refine rBoolD (d := 18) rfl (fun g2 => ?_) (fun g2 => ?_)
  ·
   replace g2 : ¬ (0 ≤ (z.getD i 0) ∧ (z.getD i 0) ≤ 51) := g2
   refine rSkipQ rfl rfl ?_
   refine rSkipQ rfl rfl ?_
   refine rSkipQ rfl rfl ?_
   refine rSkipQ rfl rfl ?_
   refine rSkipL trv rfl rfl ?_
   refine rSkipQ rfl rfl ?_
   refine rSkipL trv rfl rfl ?_
   refine pickB rfl rfl rfl rfl ?_
   refine rNil ?_
   refine qSeq rfl ?_
   refine hIfT rfl ?_
   refine hSeq ?_
   refine hReg (sq 0 sz) (by kernel_rfl) ?_
   refine asB rfl rfl rfl ?_
   refine rNil ?_
   refine qSeq rfl ?_
   refine hRet ?_
   exact fun w hs => ⟨[.bool false], ⟨rfl, trivial⟩, ⟨bB (Iso.areB_out (i := i) (by omega) (by omega)).symm, hs.upd⟩⟩
  ·
   replace g2 : ¬ (¬ (0 ≤ (z.getD i 0) ∧ (z.getD i 0) ≤ 51)) := g2
   have htw : (Iso.seenB (z.take i)).getD (z.getD i 0).toNat false = true → (z.getD i 0) ∈ z.take i := fun h => by rw [Iso.seenB_get (by omega)] at h; exact of_decide_eq_true h
   have hsn : (z.getD i 0) ∈ z.take i → (Iso.seenB (z.take i)).getD (z.getD i 0).toNat false = true := fun h => by rw [Iso.seenB_get (by omega)]; exact decide_eq_true h
   refine mvS rfl rfl rfl ?_
   refine mvS rfl rfl rfl ?_
   refine mvI rfl rfl rfl ?_
   refine ixIl (zn := i) el23 (Kn.drop (k := 1) kz) rfl rfl rfl rfl (by omega) (by omega) rfl ?_
   intro ae2 e2
   refine ldl Try.isAgg2 (e2) trv rfl rfl rfl ?_
   refine ixRl (zn := ((z.getD i 0)).toNat) (((Iso.seenB (z.take i))).getD (((z.getD i 0)).toNat) false) el137 ((Kn.at_ 0 rfl).imp fun _ h => OwnR.rd h boK.ok) rfl rfl rfl rfl (by omega) (by omega) rfl (nth false (by rw [Iso.seenB_len]; omega)) ?_
   intro be3 oe3 e3
   refine ldl Try.isAgg4 (Kn.fld e3 0 rfl) trv rfl rfl rfl ?_
   refine pickB rfl rfl rfl rfl ?_
   refine rNil ?_
   refine qSeq rfl ?_
   refine hIf rfl (fun c3 => ?_) (fun c3 => ?_)
   ·
    replace c3 : (((Iso.seenB (z.take i))).getD (((z.getD i 0)).toNat) false) = true := c3
    refine hSeq ?_
    refine hReg (sq 0 sz) (by kernel_rfl) ?_
    refine asB rfl rfl rfl ?_
    refine rNil ?_
    refine qSeq rfl ?_
    refine hRet ?_
    exact fun w hs => ⟨[.bool false], ⟨rfl, trivial⟩, ⟨bB (Iso.areB_twice (i := i) (by omega) (htw c3)).symm, hs.upd⟩⟩
   ·
    replace c3 : (((Iso.seenB (z.take i))).getD (((z.getD i 0)).toNat) false) = false := c3
    replace c3 : ¬ (Iso.seenB (z.take i)).getD (z.getD i 0).toNat false = true := by rw [c3]; exact Bool.false_ne_true
    refine hSkip ?_
    refine qSeq rfl ?_
    refine hReg (sq 0 (sq 1 (sq 2 (sq 3 (sl 4 (sq 5 (sl 6 sz))))))) (by kernel_rfl) ?_
    refine mvS rfl rfl rfl ?_
    refine mvS rfl rfl rfl ?_
    refine mvI rfl rfl rfl ?_
    refine ixIl (zn := i) el23 (Kn.drop (k := 1) kz) rfl rfl rfl rfl (by omega) (by omega) rfl ?_
    intro ae4 e4
    refine ldl Try.isAgg2 (e4) trv rfl rfl rfl ?_
    refine oxR (zn := ((z.getD i 0)).toNat) 0 rfl el137 rfl rfl rfl rfl (by omega) (by omega) rfl ?_
    intro gk5 hgk5
    refine stRc (f := 0) (v := .bool true) (((Iso.seenB (z.take i))).getD (((z.getD i 0)).toNat) false) true (((z.getD i 0)).toNat) 0 boK.ok rfl hgk5 (nth false (by rw [Iso.seenB_len]; omega)) rfl rfl Try.sizeOf4 trv rfl rfl rfl rfl (by decide) rfl rfl ?_
    refine rNil ?_
    refine qSeq rfl ?_
    refine hReg (sq 0 (sq 1 (sq 2 sz))) (by kernel_rfl) ?_
    refine mvI rfl rfl rfl ?_
    refine add rfl rfl rfl rfl (by omega) ?_
    refine asI rfl rfl rfl ?_
    refine rNil ?_
    rw [Iso.seenB_set (by omega), ← Iso.take_snoc (by omega)]
    exact qNext rfl (i + 1) (by omega) ⟨by omega, Iso.areP_next (by omega) ha (by omega) (fun h => c3 (hsn h))⟩ ⟨rfl, rfl, rfl, trivial⟩ (fun _ h => h.pick [0])
 ·
  replace c1 : ¬ ((i : Int) < (nz : Int)) := c1
  refine hExit rfl ?_
  refine qSeq rfl ?_
  refine hSeq ?_
  refine hReg (sq 0 sz) (by kernel_rfl) ?_
  refine asB rfl rfl rfl ?_
  refine rNil ?_
  refine qSeq rfl ?_
  refine hRet ?_
  exact fun w hs => ⟨[.bool true], ⟨rfl, trivial⟩, ⟨bB (Iso.areB_end (i := i) (by omega) ha).symm, hs.upd⟩⟩
theorem impl_checkSets_1_c (az : Option Addr) (nz : Nat) (cz : Nat) (z : List Int) (w : World) (rz : RdI az nz z w) :
  Calls Try.prog 125 #[.slice az nz cz] w (Ret fun v w' => v = .bool ((!(Iso.areB z))) ∧ Ext w w') := by
 have kz : Kn w none_ [] (RdI az nz z) := fun w' hs => rz.ext hs.upd
 have lz : z.length = nz := rz.1
 have mz : nz ≤ 9223372036854775807 := rz.2.1
 refine fn (M := none_) (rs := [.tmp 2]) Try.func125 rfl Try.ntmps125 rfl rfl (Sep.start _ _) ?_
 refine hSeq ?_
 refine hReg (sq 0 sz) (by kernel_rfl) ?_
 refine asB rfl rfl rfl ?_
 refine rNil ?_
 refine qSeq rfl ?_
 refine hSeq ?_
 refine hReg (sq 0 (sl 1 (sq 2 (sq 3 sz)))) (by kernel_rfl) ?_
 refine mvS rfl rfl rfl ?_
 refine callP (v := .bool (Iso.areB z)) Try.call72 trv rfl rfl (fun w hs => impl_AreCards_c _ _ _ _ w (kz w hs)) ?_
 refine not rfl rfl rfl ?_
 refine asB rfl rfl rfl ?_
 refine rNil ?_
 refine qSeq rfl ?_
 refine hRet ?_
 exact fun w hs => ⟨[.bool ((!(Iso.areB z)))], ⟨rfl, trivial⟩, ⟨by first | rfl | exact bD (by omega) | exact bT (by omega) | exact bF (by omega) | exact vI (by omega), hs.upd⟩⟩
theorem slices_IndexFunc_int64_int64_c (az : Option Addr) (nz : Nat) (cz : Nat) (Hz : Nat → Hd) (z : List (List Int)) (w : World) (rz : RdR maK az nz Hz z w) :
  Calls Try.prog 150 #[.slice az nz cz, .func (.func 125) #[] #[]] w (Ret fun v w' => v = .int .i64 (Iso.badAt z) ∧ Ext w w') := by
 have kz : Kn w none_ [] (RdR maK az nz Hz z) := fun w' hs => rz.ext hs.upd
 have lz : z.length = nz := rz.1
 have mz : nz ≤ 9223372036854775807 := rz.2.1
 refine fn (M := none_) (rs := [.tmp 4]) Try.func150 rfl Try.ntmps150 rfl rfl (Sep.start _ _) ?_
 refine hSeq ?_
 refine hReg (sq 0 sz) (by kernel_rfl) ?_
 refine asI rfl rfl rfl ?_
 refine rNil ?_
 refine qSeq rfl ?_
 refine hSeq ?_
 refine hSeq ?_
 refine hReg (sq 0 (sq 1 (sq 2 sz))) (by kernel_rfl) ?_
 refine mvS rfl rfl rfl ?_
 refine lenS Try.runUnderlying22 rfl rfl rfl ?_
 refine mvI rfl rfl rfl ?_
 refine rNil ?_
 refine qSeq rfl ?_
 refine hBlk ?_
 refine hLoop (α := Nat) (fun i => i ≤ nz ∧ (z.take i).all Iso.areB = true) (fun i => nz - i) (fun i => []) (fun i => [(0, .slice az nz cz), (1, .func (.func 125) #[] #[]), (7, .int .i64 (nz : Int)), (8, .int .i64 (i : Int))]) 0 ⟨Nat.zero_le _, rfl⟩ (fun _ h => h.pick []) ⟨rfl, rfl, rfl, rfl, trivial⟩ ?_
 rintro i τ1 ⟨hi, hal⟩
 refine hSeq ?_
 refine hReg (sq 0 sz) (by kernel_rfl) ?_
 refine lss rfl rfl rfl rfl ?_
 refine rNil ?_
 refine qSeq rfl ?_
 refine hSeq ?_
 refine hIfD rfl (fun c1 => ?_) (fun c1 => ?_)
 ·
  replace c1 : (i : Int) < (nz : Int) := c1
  refine hSkip ?_
  refine qSeq rfl ?_
  refine hSeq ?_
  refine hBlk ?_
  refine hSeq ?_
  refine hReg (sq 0 (sq 1 sz)) (by kernel_rfl) ?_
  refine mvI rfl rfl rfl ?_
  refine asI rfl rfl rfl ?_
  refine rNil ?_
  refine qSeq rfl ?_
  refine hSeq ?_
  refine hReg (sq 0 (sq 1 (sq 2 (sq 3 (sl 4 (sl 5 sz)))))) (by kernel_rfl) ?_
  refine mv rfl rfl rfl ?_
  refine mvS rfl rfl rfl ?_
  refine mvI rfl rfl rfl ?_
  refine ixRl (zn := i) (z.getD i []) el22 (kz) rfl rfl rfl rfl (by omega) (by omega) rfl (nth [] (by omega)) ?_
  intro be1 oe1 e1
  refine ldl Try.isAgg23 (Kn.fld e1 0 rfl) trv rfl rfl rfl ?_
  refine callF (v := .bool ((!(Iso.areB (z.getD i []))))) Try.call125 trv rfl rfl rfl (fun w hs => impl_checkSets_1_c _ _ _ _ w ((Kn.imp kz fun _ h => h.kidM (nth [] (by omega))) w hs)) ?_
  refine rNil ?_
  refine qSeq rfl ?_
  refine hIf rfl (fun c2 => ?_) (fun c2 => ?_)
  ·
   replace c2 : (!(Iso.areB (z.getD i []))) = true := c2
   refine hSeq ?_
   refine hReg (sq 0 (sq 1 sz)) (by kernel_rfl) ?_
   refine mvI rfl rfl rfl ?_
   refine asI rfl rfl rfl ?_
   refine rNil ?_
   refine qSeq rfl ?_
   refine hRet ?_
   exact fun w hs => ⟨[.int .i64 (i : Int)], ⟨rfl, trivial⟩, ⟨vI (Iso.badAt_here (i := i) (by omega) hal (by simpa using c2)).symm, hs.upd⟩⟩
  ·
   replace c2 : (!(Iso.areB (z.getD i []))) = false := c2
   refine hSkip ?_
   refine qSeq rfl ?_
   refine hReg (sq 0 (sq 1 sz)) (by kernel_rfl) ?_
   refine add rfl rfl rfl rfl (by omega) ?_
   refine mvI rfl rfl rfl ?_
   refine rNil ?_
   exact qNext rfl (i + 1) (by omega) ⟨by omega, by rw [Iso.all_snoc [] (by omega), hal]; simpa using c2⟩ ⟨rfl, rfl, rfl, rfl, trivial⟩ (fun _ h => h.pick [])
 ·
  replace c1 : ¬ ((i : Int) < (nz : Int)) := c1
  refine hExit rfl ?_
  refine qSeq rfl ?_
  refine hSeq ?_
  refine hReg (sq 0 sz) (by kernel_rfl) ?_
  refine asI rfl rfl rfl ?_
  refine rNil ?_
  refine qSeq rfl ?_
  refine hRet ?_
  exact fun w hs => ⟨[.int .i64 (-1)], ⟨rfl, trivial⟩, ⟨vI (Iso.badAt_end (Iso.all_end (by omega) hal)).symm, hs.upd⟩⟩
theorem slices_ContainsFunc_int64_int64_c (az : Option Addr) (nz : Nat) (cz : Nat) (Hz : Nat → Hd) (z : List (List Int)) (w : World) (rz : RdR maK az nz Hz z w) :
  Calls Try.prog 124 #[.slice az nz cz, .func (.func 125) #[] #[]] w (Ret fun v w' => v = .bool ((!(z.all Iso.areB))) ∧ Ext w w') := by
 have kz : Kn w none_ [] (RdR maK az nz Hz z) := fun w' hs => rz.ext hs.upd
 have lz : z.length = nz := rz.1
 have mz : nz ≤ 9223372036854775807 := rz.2.1
 refine fn (M := none_) (rs := [.tmp 4]) Try.func124 rfl Try.ntmps124 rfl rfl (Sep.start _ _) ?_
 refine hSeq ?_
 refine hReg (sq 0 sz) (by kernel_rfl) ?_
 refine asB rfl rfl rfl ?_
 refine rNil ?_
 refine qSeq rfl ?_
 refine hSeq ?_
 refine hReg (sq 0 (sq 1 (sl 2 (sq 3 (sq 4 sz))))) (by kernel_rfl) ?_
 refine mvS rfl rfl rfl ?_
 refine mv rfl rfl rfl ?_
 refine callP (v := .int .i64 (Iso.badAt z)) Try.call150 trv rfl rfl (fun w hs => slices_IndexFunc_int64_int64_c _ _ _ _ _ w (kz w hs)) ?_
 refine geq rfl rfl rfl rfl ?_
 refine asB rfl rfl rfl ?_
 refine rNil ?_
 refine qSeq rfl ?_
 refine hRet ?_
 exact fun w hs => ⟨[.bool (decide (0 ≤ (Iso.badAt z)))], ⟨rfl, trivial⟩, ⟨bB (Iso.badAt_neg z), hs.upd⟩⟩
theorem impl_checkSets_c (az : Option Addr) (nz : Nat) (cz : Nat) (Hz : Nat → Hd) (z : List (List Int)) (w : World) (rz : RdR maK az nz Hz z w) :
  Calls Try.prog 80 #[.slice az nz cz] w (Ret fun v w' => v = .int .i64 (Iso.codeS z) ∧ Ext w w') := by
 have kz : Kn w none_ [] (RdR maK az nz Hz z) := fun w' hs => rz.ext hs.upd
 have lz : z.length = nz := rz.1
 have mz : nz ≤ 9223372036854775807 := rz.2.1
 refine fn (M := none_) (rs := [.tmp 2]) Try.func80 rfl Try.ntmps80 rfl rfl (Sep.start _ _) ?_
 refine hSeq ?_
 refine hReg (sq 0 sz) (by kernel_rfl) ?_
 refine asI rfl rfl rfl ?_
 refine rNil ?_
 refine qSeq rfl ?_
 refine hSeq ?_
 refine hBlk ?_
 refine hSeq ?_
 refine hReg (sq 0 (sq 1 (sq 2 (sq 3 sz)))) (by kernel_rfl) ?_
 refine mvS rfl rfl rfl ?_
 refine lenS Try.runUnderlying22 rfl rfl rfl ?_
 refine gtr rfl rfl rfl rfl ?_
 refine asB rfl rfl rfl ?_
 refine rNil ?_
 refine qSeq rfl ?_
 refine hIfD rfl (fun c1 => ?_) (fun c1 => ?_)
 ·
  replace c1 : 6 < (nz : Int) := c1
  refine hSeq ?_
  refine hReg (sq 0 sz) (by kernel_rfl) ?_
  refine asI rfl rfl rfl ?_
  refine rNil ?_
  refine qSeq rfl ?_
  refine hRet ?_
  exact fun w hs => ⟨[.int .i64 3], ⟨rfl, trivial⟩, ⟨vI (Iso.code_lim (by omega)).symm, hs.upd⟩⟩
 ·
  replace c1 : ¬ (6 < (nz : Int)) := c1
  refine hSeq ?_
  refine hReg (sq 0 (sl 1 (sq 2 sz))) (by kernel_rfl) ?_
  refine mvS rfl rfl rfl ?_
  refine callP (v := .bool ((!(z.all Iso.areB)))) Try.call124 trv rfl rfl (fun w hs => slices_ContainsFunc_int64_int64_c _ _ _ _ _ w (kz w hs)) ?_
  refine asB rfl rfl rfl ?_
  refine rNil ?_
  refine qSeq rfl ?_
  refine hIf rfl (fun c2 => ?_) (fun c2 => ?_)
  ·
   replace c2 : (!(z.all Iso.areB)) = true := c2
   refine hSeq ?_
   refine hReg (sq 0 sz) (by kernel_rfl) ?_
   refine asI rfl rfl rfl ?_
   refine rNil ?_
   refine qSeq rfl ?_
   refine hRet ?_
   exact fun w hs => ⟨[.int .i64 1], ⟨rfl, trivial⟩, ⟨vI (Iso.code_bad (by omega) (by first | exact Iso.all_not [] (i := i) (by omega) (by simpa using c3) | simpa using c2)).symm, hs.upd⟩⟩
  ·
   replace c2 : (!(z.all Iso.areB)) = false := c2
   refine hSkip ?_
   refine qSeq rfl ?_
   refine hSeq ?_
   refine hReg (sq 0 sz) (by kernel_rfl) ?_
   refine asI rfl rfl rfl ?_
   refine rNil ?_
   refine qSeq rfl ?_
   refine hRet ?_
   exact fun w hs => ⟨[.int .i64 0], ⟨rfl, trivial⟩, ⟨vI (Iso.code_yes (by omega) (by first | exact Iso.all_end (i := i) (by omega) hal | simpa using c2)).symm, hs.upd⟩⟩
theorem spec_l18Code_c (az : Option Addr) (nz : Nat) (cz : Nat) (Hz : Nat → Hd) (z : List (List Int)) (w : World) (rz : RdR maK az nz Hz z w) :
  Calls Try.prog 77 #[.slice az nz cz] w (Ret fun v w' => v = .int .i64 (Iso.codeS z) ∧ Ext w w') := by
 have kz : Kn w none_ [] (RdR maK az nz Hz z) := fun w' hs => rz.ext hs.upd
 have lz : z.length = nz := rz.1
 have mz : nz ≤ 9223372036854775807 := rz.2.1
 refine fn (M := none_) (rs := [.tmp 2]) Try.func77 rfl Try.ntmps77 rfl rfl (Sep.start _ _) ?_
 refine hSeq ?_
 refine hReg (sq 0 sz) (by kernel_rfl) ?_
 refine asI rfl rfl rfl ?_
 refine rNil ?_
 refine qSeq rfl ?_
 refine hSeq ?_
 refine hSeq ?_
 refine hReg (sq 0 (sq 1 (sq 2 sz))) (by kernel_rfl) ?_
 refine mvS rfl rfl rfl ?_
 refine lenS Try.runUnderlying22 rfl rfl rfl ?_
 refine gtr rfl rfl rfl rfl ?_
 refine rNil ?_
 refine qSeq rfl ?_
 refine hIfD rfl (fun c1 => ?_) (fun c1 => ?_)
 ·
  replace c1 : 6 < (nz : Int) := c1
  refine hSeq ?_
  refine hReg (sq 0 sz) (by kernel_rfl) ?_
  refine asI rfl rfl rfl ?_
  refine rNil ?_
  refine qSeq rfl ?_
  refine hRet ?_
  exact fun w hs => ⟨[.int .i64 3], ⟨rfl, trivial⟩, ⟨vI (Iso.code_lim (by omega)).symm, hs.upd⟩⟩
 ·
  replace c1 : ¬ (6 < (nz : Int)) := c1
  refine hSkip ?_
  refine qSeq rfl ?_
  refine hSeq ?_
  refine hSeq ?_
  refine hReg (sq 0 sz) (by kernel_rfl) ?_
  refine asI rfl rfl rfl ?_
  refine rNil ?_
  refine qSeq rfl ?_
  refine hBlk ?_
  refine hLoop (α := Nat) (fun i => i ≤ nz ∧ (z.take i).all Iso.areB = true) (fun i => nz - i) (fun i => []) (fun i => [(0, .slice az nz cz), (3, .int .i64 (i : Int))]) 0 ⟨Nat.zero_le _, rfl⟩ (fun _ h => h.pick []) ⟨rfl, rfl, trivial⟩ ?_
  rintro i τ1 ⟨hi, hal⟩
  refine hSeq ?_
  refine hSeq ?_
  refine hReg (sq 0 (sq 1 (sq 2 (sq 3 sz)))) (by kernel_rfl) ?_
  refine mvI rfl rfl rfl ?_
  refine mvS rfl rfl rfl ?_
  refine lenS Try.runUnderlying22 rfl rfl rfl ?_
  refine lss rfl rfl rfl rfl ?_
  refine rNil ?_
  refine qSeq rfl ?_
  refine hIfD rfl (fun c2 => ?_) (fun c2 => ?_)
  ·
   replace c2 : (i : Int) < (nz : Int) := c2
   refine hSkip ?_
   refine qSeq rfl ?_
   refine hSeq ?_
   refine hBlk ?_
   refine hSeq ?_
   refine hReg (sq 0 (sq 1 (sq 2 (sl 3 (sl 4 (sq 5 sz)))))) (by kernel_rfl) ?_
   refine mvS rfl rfl rfl ?_
   refine mvI rfl rfl rfl ?_
   refine ixRl (zn := i) (z.getD i []) el22 (kz) rfl rfl rfl rfl (by omega) (by omega) rfl (nth [] (by omega)) ?_
   intro be1 oe1 e1
   refine ldl Try.isAgg23 (Kn.fld e1 0 rfl) trv rfl rfl rfl ?_
   refine callP (v := .bool ((Iso.areB (z.getD i [])))) Try.call94 trv rfl rfl (fun w hs => spec_AreCards_c _ _ _ _ w ((Kn.imp kz fun _ h => h.kidM (nth [] (by omega))) w hs)) ?_
   refine not rfl rfl rfl ?_
   refine rNil ?_
   refine qSeq rfl ?_
   refine hIfN rfl (fun c3 => ?_) (fun c3 => ?_)
   ·
    replace c3 : (Iso.areB (z.getD i [])) = false := c3
    refine hSeq ?_
    refine hReg (sq 0 sz) (by kernel_rfl) ?_
    refine asI rfl rfl rfl ?_
    refine rNil ?_
    refine qSeq rfl ?_
    refine hRet ?_
    exact fun w hs => ⟨[.int .i64 1], ⟨rfl, trivial⟩, ⟨vI (Iso.code_bad (by omega) (by first | exact Iso.all_not [] (i := i) (by omega) (by simpa using c3) | simpa using c2)).symm, hs.upd⟩⟩
   ·
    replace c3 : (Iso.areB (z.getD i [])) = true := c3
    refine hSkip ?_
    refine qSeq rfl ?_
    refine hReg (sq 0 (sq 1 (sq 2 sz))) (by kernel_rfl) ?_
    refine mvI rfl rfl rfl ?_
    refine add rfl rfl rfl rfl (by omega) ?_
    refine asI rfl rfl rfl ?_
    refine rNil ?_
    exact qNext rfl (i + 1) (by omega) ⟨by omega, by rw [Iso.all_snoc [] (by omega), hal]; simpa using c3⟩ ⟨rfl, rfl, trivial⟩ (fun _ h => h.pick [])
  ·
   replace c2 : ¬ ((i : Int) < (nz : Int)) := c2
   refine hExit rfl ?_
   refine qSeq rfl ?_
   refine hSeq ?_
   refine hReg (sq 0 sz) (by kernel_rfl) ?_
   refine asI rfl rfl rfl ?_
   refine rNil ?_
   refine qSeq rfl ?_
   refine hRet ?_
   exact fun w hs => ⟨[.int .i64 0], ⟨rfl, trivial⟩, ⟨vI (Iso.code_yes (by omega) (by first | exact Iso.all_end (i := i) (by omega) hal | simpa using c2)).symm, hs.upd⟩⟩
end Go.Proofs.Yteaahdakammffaa
/- Contracts of exchanges of suits. Their conditions stand in each. -/
namespace Go.Proofs.Yteaahdakammffaa
open Go Go.RowKit V
set_option linter.unusedVariables false
set_option linter.unusedSimpArgs false
set_option maxRecDepth 100000
theorem mk88 : Mk Try.prog 88 90 4 32 [.int .i64 0, .int .i64 0, .int .i64 0, .int .i64 0] := ⟨Try.underlying88, Try.t90, _, by kernel_rfl, rfl, rfl, rfl, rfl, rfl, by decide, by decide⟩
theorem bsl88_1 (v0 v1 v2 v3 : Value) (h0 : v0.cells = #[v0]) (h1 : v1.cells = #[v1]) (h2 : v2.cells = #[v2]) (h3 : v3.cells = #[v3]) : ∀ w, (Instr.buildSlice 88 1 ([(0, .agg #[v0, v1, v2, v3])] : List (Nat × Value)).toArray).run Try.prog w = .ok (.slice (some ⟨w.heap.size, 0, none⟩) 1 1) (w.alloc (.cells ([v0, v1, v2, v3] : List Value).toArray 90)) := by
 intro w; simp [Instr.buildSlice, Instr.fill, Try.zeroValue90, Try.runUnderlying88, Try.sizeOf90, aggCells, newRow, show Array.range 4 = #[0, 1, 2, 3] from by decide]
theorem el88 : Elt Try.prog 88 4 := ⟨90, Try.runUnderlying88, Try.sizeOf90⟩
theorem ar90 : Arr Try.prog 90 4 1 := ⟨2, Try.runUnderlying90, Try.sizeOf2⟩
theorem bld90_0_1_2_3 (v0 v1 v2 v3 : Value) (h0 : v0.cells = #[v0]) (h1 : v1.cells = #[v1]) (h2 : v2.cells = #[v2]) (h3 : v3.cells = #[v3]) : ∀ w, (Instr.build 90 ([(0, v0), (1, v1), (2, v2), (3, v3)] : List (Nat × Value)).toArray).run Try.prog w = .ok (.agg ([v0, v1, v2, v3] : List Value).toArray) w := by
 intro w; simp [Instr.build, Instr.fill, Try.zeroValue90, Try.runUnderlying90, aggCells, Try.sizeOf2, h0, h1, h2, h3]
theorem impl_suitOrders_c (w : World) :
  Calls Try.prog 81 #[] w (Ret fun v w' => ∃ x : Option Addr × Nat × Nat × (Nat → Hd) × List (List Int), v = .slice x.1 x.2.1 x.2.2.1 ∧ (x.2.2.2.2 = Iso.orders) ∧ Sep w none_ [OwnR a4K 90 2 x.1 x.2.1 x.2.2.1 x.2.2.2.1 x.2.2.2.2] w') := by
 refine fn (M := none_) (rs := [.tmp 0]) Try.func81 rfl Try.ntmps81 rfl rfl (Sep.start _ _) ?_
 refine hSeq ?_
 refine hReg (sq 0 sz) (by kernel_rfl) ?_
 refine asS rfl rfl rfl ?_
 refine rNil ?_
 refine qSeq rfl ?_
 refine hSeq ?_
 refine hReg (sq 0 sz) (by kernel_rfl) ?_
 refine asS rfl rfl rfl ?_
 refine rNil ?_
 refine qSeq rfl ?_
 refine hSeq ?_
 refine hSeq ?_
 refine hReg (sq 0 sz) (by kernel_rfl) ?_
 refine mvI rfl rfl rfl ?_
 refine rNil ?_
 refine qSeq rfl ?_
 refine hBlk ?_
 refine hPieces (fun _ h => Sep.nilR a4K 90 2 (fun _ => (none, 0)) h) ?_
 refine hLoop (α := Nat × Nat × Hd × (Nat → Hd)) (fun x => x.1 ≤ 256 ∧ x.2.1 ≤ x.1) (fun x => 256 - x.1) (fun x => [OwnR a4K 90 2 x.2.2.1.1 x.2.1 x.2.2.1.2 x.2.2.2 (Iso.ords x.1)]) (fun x => [(1, .slice x.2.2.1.1 x.2.1 x.2.2.1.2), (4, .int .i64 (x.1 : Int))]) ((0, 0, ((none, 0), (fun _ => (none, 0))))) ⟨Nat.zero_le _, Nat.le_refl _⟩ (fun _ h => h.pick [0]) ⟨rfl, rfl, trivial⟩ ?_
 rintro ⟨k, q, hd⟩ τ1 ⟨hk, hq⟩
 dsimp only at hk hq
 refine hRe [(1, .slice hd.1.1 q hd.1.2), (4, .int .i64 (k : Int))] [OwnR a4K 90 2 hd.1.1 q hd.1.2 hd.2 (Iso.ords k)] rfl rfl ?_
 refine hSeq ?_
 refine hReg (sq 0 sz) (by kernel_rfl) ?_
 refine lss rfl rfl rfl rfl ?_
 refine rNil ?_
 refine qSeq rfl ?_
 refine hSeq ?_
 refine hIfD rfl (fun c1 => ?_) (fun c1 => ?_)
 ·
  replace c1 : (k : Int) < 256 := c1
  refine hSkip ?_
  refine qSeq rfl ?_
  refine hSeq ?_
  refine hBlk ?_
  refine hSeq ?_
  refine hReg (sq 0 (sq 1 sz)) (by kernel_rfl) ?_
  refine mvI rfl rfl rfl ?_
  refine asI rfl rfl rfl ?_
  refine rNil ?_
  refine qSeq rfl ?_
  refine hSeq ?_
  refine hReg (sq 0 (sq 1 (sq 2 (sq 3 (sq 4 (sq 5 (sq 6 (sq 7 (sq 8 (sq 9 (sq 10 (sl 11 (sl 12 sz))))))))))))) (by kernel_rfl) ?_
  refine mvI rfl rfl rfl ?_
  refine quo rfl rfl rfl rfl (by omega) ?_
  refine mvI rfl rfl rfl ?_
  refine quo rfl rfl rfl rfl (by omega) ?_
  refine rem rfl rfl rfl rfl (by omega) ?_
  refine mvI rfl rfl rfl ?_
  refine quo rfl rfl rfl rfl (by omega) ?_
  refine rem rfl rfl rfl rfl (by omega) ?_
  refine mvI rfl rfl rfl ?_
  refine rem rfl rfl rfl rfl (by omega) ?_
  refine bld rfl rfl rfl (bld90_0_1_2_3 (.int .i64 _) (.int .i64 _) (.int .i64 _) (.int .i64 _) rfl rfl rfl rfl) ?_
  refine alc Try.zeroValue90 rfl trv1 rfl rfl (fun bka2 hbka2 => ?_)
  refine stAl (vs := [.int .i64 (((k : Int) / 64)), .int .i64 (((((k : Int) / 16)) % 4)), .int .i64 (((((k : Int) / 4)) % 4)), .int .i64 (((k : Int) % 4))]) 0 rfl Try.sizeOf90 trv rfl rfl rfl rfl rfl (by simp [Value.oneCell']) rfl ?_
  refine rNil ?_
  refine qSeq rfl ?_
  refine hSeq ?_
  refine hReg (sq 0 (sl 1 (sq 2 (sl 3 (sq 4 (sq 5 (sq 6 (sl 7 (sq 8 (sl 9 (sq 10 (sq 11 (sq 12 (sq 13 (sl 14 (sq 15 (sl 16 (sq 17 (sq 18 (sq 19 (sq 20 (sl 21 (sq 22 (sl 23 (sq 24 (sq 25 (sq 26 (sq 27 (sl 28 (sq 29 (sl 30 (sq 31 (sq 32 (sq 33 (sq 34 (sl 35 (sq 36 (sl 37 (sq 38 (sq 39 sz)))))))))))))))))))))))))))))))))))))))) (by kernel_rfl) ?_
  refine ixA (z := 0) ar90 rfl rfl rfl rfl (by decide) ?_
  refine ldl Try.isAgg2 (cB 0 rfl rfl) trv rfl rfl rfl ?_
  refine ixA (z := 1) ar90 rfl rfl rfl rfl (by decide) ?_
  refine ldl Try.isAgg2 (cB 0 rfl rfl) trv rfl rfl rfl ?_
  refine neq rfl rfl rfl rfl ?_
  refine mvB rfl rfl rfl ?_
  refine rBoolD (d := 23) rfl (fun g2 => ?_) (fun g2 => ?_)
  ·
   replace g2 : ((k : Int) / 64) ≠ ((((k : Int) / 16)) % 4) := g2
   refine ixA (z := 0) ar90 rfl rfl rfl rfl (by decide) ?_
   refine ldl Try.isAgg2 (cB 0 rfl rfl) trv rfl rfl rfl ?_
   refine ixA (z := 2) ar90 rfl rfl rfl rfl (by decide) ?_
   refine ldl Try.isAgg2 (cB 0 rfl rfl) trv rfl rfl rfl ?_
   refine neq rfl rfl rfl rfl ?_
   refine pickB rfl rfl rfl rfl ?_
   refine mvB rfl rfl rfl ?_
   refine rBoolD (d := 30) rfl (fun g3 => ?_) (fun g3 => ?_)
   ·
    replace g3 : ((k : Int) / 64) ≠ ((((k : Int) / 4)) % 4) := g3
    refine ixA (z := 0) ar90 rfl rfl rfl rfl (by decide) ?_
    refine ldl Try.isAgg2 (cB 0 rfl rfl) trv rfl rfl rfl ?_
    refine ixA (z := 3) ar90 rfl rfl rfl rfl (by decide) ?_
    refine ldl Try.isAgg2 (cB 0 rfl rfl) trv rfl rfl rfl ?_
    refine neq rfl rfl rfl rfl ?_
    refine pickB rfl rfl rfl rfl ?_
    refine mvB rfl rfl rfl ?_
    refine rBoolD (d := 37) rfl (fun g4 => ?_) (fun g4 => ?_)
    ·
     replace g4 : ((k : Int) / 64) ≠ ((k : Int) % 4) := g4
     refine ixA (z := 1) ar90 rfl rfl rfl rfl (by decide) ?_
     refine ldl Try.isAgg2 (cB 0 rfl rfl) trv rfl rfl rfl ?_
     refine ixA (z := 2) ar90 rfl rfl rfl rfl (by decide) ?_
     refine ldl Try.isAgg2 (cB 0 rfl rfl) trv rfl rfl rfl ?_
     refine neq rfl rfl rfl rfl ?_
     refine pickB rfl rfl rfl rfl ?_
     refine mvB rfl rfl rfl ?_
     refine rBoolD (d := 44) rfl (fun g5 => ?_) (fun g5 => ?_)
     ·
      replace g5 : ((((k : Int) / 16)) % 4) ≠ ((((k : Int) / 4)) % 4) := g5
      refine ixA (z := 1) ar90 rfl rfl rfl rfl (by decide) ?_
      refine ldl Try.isAgg2 (cB 0 rfl rfl) trv rfl rfl rfl ?_
      refine ixA (z := 3) ar90 rfl rfl rfl rfl (by decide) ?_
      refine ldl Try.isAgg2 (cB 0 rfl rfl) trv rfl rfl rfl ?_
      refine neq rfl rfl rfl rfl ?_
      refine pickB rfl rfl rfl rfl ?_
      refine mvB rfl rfl rfl ?_
      refine rBoolD (d := 51) rfl (fun g6 => ?_) (fun g6 => ?_)
      ·
       replace g6 : ((((k : Int) / 16)) % 4) ≠ ((k : Int) % 4) := g6
       refine ixA (z := 2) ar90 rfl rfl rfl rfl (by decide) ?_
       refine ldl Try.isAgg2 (cB 0 rfl rfl) trv rfl rfl rfl ?_
       refine ixA (z := 3) ar90 rfl rfl rfl rfl (by decide) ?_
       refine ldl Try.isAgg2 (cB 0 rfl rfl) trv rfl rfl rfl ?_
       refine neq rfl rfl rfl rfl ?_
       refine pickB rfl rfl rfl rfl ?_
       refine rNil ?_
       refine qSeq rfl ?_
       refine hIfD rfl (fun c7 => ?_) (fun c7 => ?_)
       ·
        replace c7 : ((((k : Int) / 4)) % 4) ≠ ((k : Int) % 4) := c7
        refine hReg (sq 0 (sl 1 (sl 2 (sl 3 (sq 4 sz))))) (by kernel_rfl) ?_
        refine mvS rfl rfl rfl ?_
        refine ldAl Try.isAgg90 Try.sizeOf90 (cBs 0 rfl) trv rfl rfl rfl rfl ?_
        refine bsl trv1 rfl rfl rfl (bsl88_1 (.int .i64 (((k : Int) / 64))) (.int .i64 (((((k : Int) / 16)) % 4))) (.int .i64 (((((k : Int) / 4)) % 4))) (.int .i64 (((k : Int) % 4))) rfl rfl rfl rfl) (fun bkl3 hbkl3 => ?_)
        refine rPieces (fun _ h => Sep.nilI 2 h) ?_
        refine apR (hd := (none, 0)) (x := [((k : Int) / 64), ((((k : Int) / 16)) % 4), ((((k : Int) / 4)) % 4), ((k : Int) % 4)]) 3 0 1 a4K.ok rfl rfl rfl (fun _ => rfl) mk88 trv1 rfl rfl rfl rfl (by omega) ?_
        intro aq1 cq1
        refine asS rfl rfl rfl ?_
        refine rNil ?_
        refine qSeq rfl ?_
        refine hReg (sq 0 (sq 1 sz)) (by kernel_rfl) ?_
        refine add rfl rfl rfl rfl (by omega) ?_
        refine mvI rfl rfl rfl ?_
        refine rNil ?_
        rw [show ((Iso.ords k) ++ [[((k : Int) / 64), ((((k : Int) / 16)) % 4), ((((k : Int) / 4)) % 4), ((k : Int) % 4)]]) = Iso.ords (k + 1) from (Iso.ords_yes (decide_eq_true ⟨g2, g3, g4, g5, g6, c7⟩)).symm]
        exact qNext rfl ((k + 1, (q + 1), ((aq1, cq1), (hset hd.2 (Iso.ords k).length (none, 0))))) (by dsimp only; omega) ⟨by dsimp only; omega, by dsimp only; omega⟩ ⟨rfl, rfl, trivial⟩ (fun _ h => h.pick [0])
       ·
        replace c7 : ¬ (((((k : Int) / 4)) % 4) ≠ ((k : Int) % 4)) := c7
        refine hSkip ?_
        refine qSeq rfl ?_
        refine hReg (sq 0 (sq 1 sz)) (by kernel_rfl) ?_
        refine add rfl rfl rfl rfl (by omega) ?_
        refine mvI rfl rfl rfl ?_
        refine rNil ?_
        rw [← Iso.ords_no (k := k) (decide_eq_false fun h => c7 h.2.2.2.2.2)]
        exact qNext rfl ((k + 1, q, ((hd.1.1, hd.1.2), hd.2))) (by dsimp only; omega) ⟨by dsimp only; omega, by dsimp only; omega⟩ ⟨rfl, rfl, trivial⟩ (fun _ h => h.pick [1])
      ·
       replace g6 : ¬ (((((k : Int) / 16)) % 4) ≠ ((k : Int) % 4)) := g6
       refine rSkipQ rfl rfl ?_
       refine rSkipL trv rfl rfl ?_
       refine rSkipQ rfl rfl ?_
       refine rSkipL trv rfl rfl ?_
       refine rSkipQ rfl rfl ?_
       refine pickB rfl rfl rfl rfl ?_
       refine rNil ?_
       refine qSeq rfl ?_
       refine hIfF rfl ?_
       refine hSkip ?_
       refine qSeq rfl ?_
       refine hReg (sq 0 (sq 1 sz)) (by kernel_rfl) ?_
       refine add rfl rfl rfl rfl (by omega) ?_
       refine mvI rfl rfl rfl ?_
       refine rNil ?_
       rw [← Iso.ords_no (k := k) (decide_eq_false fun h => g6 h.2.2.2.2.1)]
       exact qNext rfl ((k + 1, q, ((hd.1.1, hd.1.2), hd.2))) (by dsimp only; omega) ⟨by dsimp only; omega, by dsimp only; omega⟩ ⟨rfl, rfl, trivial⟩ (fun _ h => h.pick [1])
     ·
      replace g5 : ¬ (((((k : Int) / 16)) % 4) ≠ ((((k : Int) / 4)) % 4)) := g5
      refine rSkipQ rfl rfl ?_
      refine rSkipL trv rfl rfl ?_
      refine rSkipQ rfl rfl ?_
      refine rSkipL trv rfl rfl ?_
      refine rSkipQ rfl rfl ?_
      refine pickB rfl rfl rfl rfl ?_
      refine mvB rfl rfl rfl ?_
      refine rSkipQ rfl rfl ?_
      refine rSkipL trv rfl rfl ?_
      refine rSkipQ rfl rfl ?_
      refine rSkipL trv rfl rfl ?_
      refine rSkipQ rfl rfl ?_
      refine pickB rfl rfl rfl rfl ?_
      refine rNil ?_
      refine qSeq rfl ?_
      refine hIfF rfl ?_
      refine hSkip ?_
      refine qSeq rfl ?_
      refine hReg (sq 0 (sq 1 sz)) (by kernel_rfl) ?_
      refine add rfl rfl rfl rfl (by omega) ?_
      refine mvI rfl rfl rfl ?_
      refine rNil ?_
      rw [← Iso.ords_no (k := k) (decide_eq_false fun h => g5 h.2.2.2.1)]
      exact qNext rfl ((k + 1, q, ((hd.1.1, hd.1.2), hd.2))) (by dsimp only; omega) ⟨by dsimp only; omega, by dsimp only; omega⟩ ⟨rfl, rfl, trivial⟩ (fun _ h => h.pick [1])
    ·
     replace g4 : ¬ (((k : Int) / 64) ≠ ((k : Int) % 4)) := g4
     refine rSkipQ rfl rfl ?_
     refine rSkipL trv rfl rfl ?_
     refine rSkipQ rfl rfl ?_
     refine rSkipL trv rfl rfl ?_
     refine rSkipQ rfl rfl ?_
     refine pickB rfl rfl rfl rfl ?_
     refine mvB rfl rfl rfl ?_
     refine rSkipQ rfl rfl ?_
     refine rSkipL trv rfl rfl ?_
     refine rSkipQ rfl rfl ?_
     refine rSkipL trv rfl rfl ?_
     refine rSkipQ rfl rfl ?_
     refine pickB rfl rfl rfl rfl ?_
     refine mvB rfl rfl rfl ?_
     refine rSkipQ rfl rfl ?_
     refine rSkipL trv rfl rfl ?_
     refine rSkipQ rfl rfl ?_
     refine rSkipL trv rfl rfl ?_
     refine rSkipQ rfl rfl ?_
     refine pickB rfl rfl rfl rfl ?_
     refine rNil ?_
     refine qSeq rfl ?_
     refine hIfF rfl ?_
     refine hSkip ?_
     refine qSeq rfl ?_
     refine hReg (sq 0 (sq 1 sz)) (by kernel_rfl) ?_
     refine add rfl rfl rfl rfl (by omega) ?_
     refine mvI rfl rfl rfl ?_
     refine rNil ?_
     rw [← Iso.ords_no (k := k) (decide_eq_false fun h => g4 h.2.2.1)]
     exact qNext rfl ((k + 1, q, ((hd.1.1, hd.1.2), hd.2))) (by dsimp only; omega) ⟨by dsimp only; omega, by dsimp only; omega⟩ ⟨rfl, rfl, trivial⟩ (fun _ h => h.pick [1])
   ·
    replace g3 : ¬ (((k : Int) / 64) ≠ ((((k : Int) / 4)) % 4)) := g3
    refine rSkipQ rfl rfl ?_
    refine rSkipL trv rfl rfl ?_
    refine rSkipQ rfl rfl ?_
    refine rSkipL trv rfl rfl ?_
    refine rSkipQ rfl rfl ?_
    refine pickB rfl rfl rfl rfl ?_
    refine mvB rfl rfl rfl ?_
    refine rSkipQ rfl rfl ?_
    refine rSkipL trv rfl rfl ?_
    refine rSkipQ rfl rfl ?_
    refine rSkipL trv rfl rfl ?_
    refine rSkipQ rfl rfl ?_
    refine pickB rfl rfl rfl rfl ?_
    refine mvB rfl rfl rfl ?_
    refine rSkipQ rfl rfl ?_
    refine rSkipL trv rfl rfl ?_
    refine rSkipQ rfl rfl ?_
    refine rSkipL trv rfl rfl ?_
    refine rSkipQ rfl rfl ?_
    refine pickB rfl rfl rfl rfl ?_
    refine mvB rfl rfl rfl ?_
    refine rSkipQ rfl rfl ?_
    refine rSkipL trv rfl rfl ?_
    refine rSkipQ rfl rfl ?_
    refine rSkipL trv rfl rfl ?_
    refine rSkipQ rfl rfl ?_
    refine pickB rfl rfl rfl rfl ?_
    refine rNil ?_
    refine qSeq rfl ?_
    refine hIfF rfl ?_
    refine hSkip ?_
    refine qSeq rfl ?_
    refine hReg (sq 0 (sq 1 sz)) (by kernel_rfl) ?_
    refine add rfl rfl rfl rfl (by omega) ?_
    refine mvI rfl rfl rfl ?_
    refine rNil ?_
    rw [← Iso.ords_no (k := k) (decide_eq_false fun h => g3 h.2.1)]
    exact qNext rfl ((k + 1, q, ((hd.1.1, hd.1.2), hd.2))) (by dsimp only; omega) ⟨by dsimp only; omega, by dsimp only; omega⟩ ⟨rfl, rfl, trivial⟩ (fun _ h => h.pick [1])
  ·
   replace g2 : ¬ (((k : Int) / 64) ≠ ((((k : Int) / 16)) % 4)) := g2
   refine rSkipQ rfl rfl ?_
   refine rSkipL trv rfl rfl ?_
   refine rSkipQ rfl rfl ?_
   refine rSkipL trv rfl rfl ?_
   refine rSkipQ rfl rfl ?_
   refine pickB rfl rfl rfl rfl ?_
   refine mvB rfl rfl rfl ?_
   refine rSkipQ rfl rfl ?_
   refine rSkipL trv rfl rfl ?_
   refine rSkipQ rfl rfl ?_
   refine rSkipL trv rfl rfl ?_
   refine rSkipQ rfl rfl ?_
   refine pickB rfl rfl rfl rfl ?_
   refine mvB rfl rfl rfl ?_
   refine rSkipQ rfl rfl ?_
   refine rSkipL trv rfl rfl ?_
   refine rSkipQ rfl rfl ?_
   refine rSkipL trv rfl rfl ?_
   refine rSkipQ rfl rfl ?_
   refine pickB rfl rfl rfl rfl ?_
   refine mvB rfl rfl rfl ?_
   refine rSkipQ rfl rfl ?_
   refine rSkipL trv rfl rfl ?_
   refine rSkipQ rfl rfl ?_
   refine rSkipL trv rfl rfl ?_
   refine rSkipQ rfl rfl ?_
   refine pickB rfl rfl rfl rfl ?_
   refine mvB rfl rfl rfl ?_
   refine rSkipQ rfl rfl ?_
   refine rSkipL trv rfl rfl ?_
   refine rSkipQ rfl rfl ?_
   refine rSkipL trv rfl rfl ?_
   refine rSkipQ rfl rfl ?_
   refine pickB rfl rfl rfl rfl ?_
   refine rNil ?_
   refine qSeq rfl ?_
   refine hIfF rfl ?_
   refine hSkip ?_
   refine qSeq rfl ?_
   refine hReg (sq 0 (sq 1 sz)) (by kernel_rfl) ?_
   refine add rfl rfl rfl rfl (by omega) ?_
   refine mvI rfl rfl rfl ?_
   refine rNil ?_
   rw [← Iso.ords_no (k := k) (decide_eq_false fun h => g2 h.1)]
   exact qNext rfl ((k + 1, q, ((hd.1.1, hd.1.2), hd.2))) (by dsimp only; omega) ⟨by dsimp only; omega, by dsimp only; omega⟩ ⟨rfl, rfl, trivial⟩ (fun _ h => h.pick [1])
 ·
  replace c1 : ¬ ((k : Int) < 256) := c1
  refine hExit rfl ?_
  refine qSeq rfl ?_
  refine hSeq ?_
  refine hReg (sq 0 (sq 1 sz)) (by kernel_rfl) ?_
  refine mvS rfl rfl rfl ?_
  refine asS rfl rfl rfl ?_
  refine rNil ?_
  refine qSeq rfl ?_
  refine hRet ?_
  exact fun w hs => ⟨[.slice hd.1.1 q hd.1.2], ⟨rfl, trivial⟩, ⟨(hd.1.1, q, hd.1.2, hd.2, (Iso.ords k)), rfl, by rw [show k = 256 by omega]; rfl, hs.pick [0]⟩⟩
theorem impl_exchanged_c (az : Option Addr) (nz : Nat) (cz : Nat) (z : List Int) (p : List Int) (w : World) (rz : RdI az nz z w) (hz : ∀ x ∈ z, 0 ≤ x ∧ x ≤ 51) (hl : z.length ≤ 52) (hp : Iso.isP p) :
  Calls Try.prog 83 #[.slice az nz cz, .agg #[.int .i64 (p.getD 0 0), .int .i64 (p.getD 1 0), .int .i64 (p.getD 2 0), .int .i64 (p.getD 3 0)]] w (Ret fun v w' => ∃ x : Option Addr × Nat × Nat × List Int, v = .slice x.1 x.2.1 x.2.2.1 ∧ (x.2.2.2 = srt (Iso.image4 p z) ∧ x.2.1 = nz) ∧ Sep w none_ [OwnI 2 x.1 x.2.1 x.2.2.1 x.2.2.2] w') := by
 have kz : Kn w none_ [] (RdI az nz z) := fun w' hs => rz.ext hs.upd
 have lz : z.length = nz := rz.1
 have mz : nz ≤ 9223372036854775807 := rz.2.1
 have lim : (Iso.image4 p z).length = nz := by rw [Iso.image4_len]; exact lz
 refine fn (M := none_) (rs := [.tmp 4]) Try.func83 rfl Try.ntmps83 rfl rfl (Sep.start _ _) ?_
 refine hSeq ?_
 refine hReg (sl 0 (sq 1 sz)) (by kernel_rfl) ?_
 refine box trv1 rfl rfl rfl rfl (fun bkb1 hbkb1 => ?_)
 refine asS rfl rfl rfl ?_
 refine rNil ?_
 refine qSeq rfl ?_
 refine hSeq ?_
 refine hReg (sq 0 (sq 1 (sl 2 (sq 3 sz)))) (by kernel_rfl) ?_
 refine mvS rfl rfl rfl ?_
 refine lenS Try.runUnderlying23 rfl rfl rfl ?_
 refine mksI nz mk23 trv1 rfl rfl rfl rfl (rfl) (by omega) (fun bkm2 hbkm2 => ?_)
 refine asS rfl rfl rfl ?_
 refine rNil ?_
 refine qSeq rfl ?_
 refine hSeq ?_
 refine hSeq ?_
 refine hReg (sq 0 (sq 1 (sq 2 sz))) (by kernel_rfl) ?_
 refine mvS rfl rfl rfl ?_
 refine lenS Try.runUnderlying23 rfl rfl rfl ?_
 refine mvI rfl rfl rfl ?_
 refine rNil ?_
 refine qSeq rfl ?_
 refine hBlk ?_
 rw [Math.fill_start (Iso.image4 p z) nz 0]
 refine hLoop (α := Nat) (fun i => i ≤ nz) (fun i => nz - i) (fun i => [OwnI 2 (some ⟨bkm2, 0, none⟩) nz nz (((Iso.image4 p z).take i ++ List.replicate (nz - i) 0)), blk bkb1 90 [.int .i64 (p.getD 0 0), .int .i64 (p.getD 1 0), .int .i64 (p.getD 2 0), .int .i64 (p.getD 3 0)]]) (fun i => [(3, .pointer (some ⟨bkb1, 0, none⟩)), (5, .slice (some ⟨bkm2, 0, none⟩) nz nz), (11, .slice az nz cz), (12, .int .i64 (nz : Int)), (13, .int .i64 (i : Int))]) 0 (Nat.zero_le _) (fun _ h => h.pick [0, 0]) ⟨rfl, rfl, rfl, rfl, rfl, trivial⟩ ?_
 rintro i τ1 hi
 refine hSeq ?_
 refine hReg (sq 0 sz) (by kernel_rfl) ?_
 refine lss rfl rfl rfl rfl ?_
 refine rNil ?_
 refine qSeq rfl ?_
 refine hSeq ?_
 refine hIfD rfl (fun c1 => ?_) (fun c1 => ?_)
 ·
  replace c1 : (i : Int) < (nz : Int) := c1
  have hx := hz _ (Math.getD_mem 0 (show i < z.length by omega))
  have hpx := hp.2 ((z.getD i 0) % 4).toNat
  refine hSkip ?_
  refine qSeq rfl ?_
  refine hSeq ?_
  refine hBlk ?_
  refine hSeq ?_
  refine hReg (sq 0 (sq 1 (sl 2 (sq 3 (sq 4 sz))))) (by kernel_rfl) ?_
  refine mvI rfl rfl rfl ?_
  refine ixIl (zn := i) el23 (Kn.drop (k := 2) kz) rfl rfl rfl rfl (by omega) (by omega) rfl ?_
  intro ae1 e1
  refine ldl Try.isAgg2 (e1) trv rfl rfl rfl ?_
  refine asI rfl rfl rfl ?_
  refine asI rfl rfl rfl ?_
  refine rNil ?_
  refine qSeq rfl ?_
  refine hReg (sq 0 (sq 1 (sq 2 (sq 3 (sq 4 (sq 5 (sq 6 (sq 7 (sl 8 (sq 9 (sq 10 (sl 11 sz)))))))))))) (by kernel_rfl) ?_
  refine mvS rfl rfl rfl ?_
  refine mvI rfl rfl rfl ?_
  refine mvI rfl rfl rfl ?_
  refine quo rfl rfl rfl rfl (by omega) ?_
  refine mul rfl rfl rfl rfl (by omega) ?_
  refine mvI rfl rfl rfl ?_
  refine rem rfl rfl rfl rfl (by omega) ?_
  refine ixAv ((((z.getD i 0) % 4)).toNat) (by omega) ar90 (by omega) rfl rfl rfl rfl ?_
  refine ldl Try.isAgg2 (cA4 (x := p) (z := ((((z.getD i 0) % 4)).toNat)) 1 rfl (by omega)) trv rfl rfl rfl ?_
  refine add rfl rfl rfl rfl (by omega) ?_
  refine oxI (zn := i) 0 rfl el23 rfl rfl rfl rfl (by omega) (by omega) rfl ?_
  intro gk2 hgk2
  refine stoI (off := i) (x := ((((z.getD i 0) / 4) * 4) + (p.getD ((((z.getD i 0) % 4)).toNat) 0))) 0 rfl hgk2 Try.sizeOf2 trv rfl rfl rfl rfl (by omega) ?_
  refine rNil ?_
  refine qSeq rfl ?_
  refine hReg (sq 0 (sq 1 sz)) (by kernel_rfl) ?_
  refine add rfl rfl rfl rfl (by omega) ?_
  refine mvI rfl rfl rfl ?_
  refine rNil ?_
  rw [show (((((z.getD i 0) / 4) * 4) + (p.getD ((((z.getD i 0) % 4)).toNat) 0))) = (Iso.image4 p z).getD i 0 from (Iso.image4_at (by omega)).symm, Math.fill_step 0 0 lim (by omega)]
  exact qNext rfl (i + 1) (by omega) (by omega) ⟨rfl, rfl, rfl, rfl, rfl, trivial⟩ (fun _ h => h.pick [0, 0])
 ·
  replace c1 : ¬ ((i : Int) < (nz : Int)) := c1
  refine hExit rfl ?_
  refine qSeq rfl ?_
  refine hSeq ?_
  refine hReg (sq 0 (sl 1 sz)) (by kernel_rfl) ?_
  refine mvS rfl rfl rfl ?_
  refine srtI 0 rfl (by omega) sort_c Try.call126 trv rfl rfl rfl ?_
  refine rNil ?_
  refine qSeq rfl ?_
  refine hSeq ?_
  refine hReg (sq 0 (sq 1 sz)) (by kernel_rfl) ?_
  refine mvS rfl rfl rfl ?_
  refine asS rfl rfl rfl ?_
  refine rNil ?_
  refine qSeq rfl ?_
  refine hRet ?_
  exact fun w hs => ⟨[.slice (some ⟨bkm2, 0, none⟩) nz nz], ⟨rfl, trivial⟩, ⟨((some ⟨bkm2, 0, none⟩), nz, nz, (srt (((Iso.image4 p z).take i ++ List.replicate (nz - i) 0)))), rfl, ⟨by rw [Math.fill_end 0 lim (by omega)], rfl⟩, hs.pick [0]⟩⟩
theorem impl_fixing_c (az : Option Addr) (nz : Nat) (cz : Nat) (Hz : Nat → Hd) (z : List (List Int)) (w : World) (rz : RdR maK az nz Hz z w) (hc : Iso.codeS z = 0) :
  Calls Try.prog 90 #[.slice az nz cz] w (Ret fun v w' => ∃ x : Option Addr × Nat × Nat × (Nat → Hd) × List (List Int), v = .slice x.1 x.2.1 x.2.2.1 ∧ (x.2.2.2.2 = Iso.fixA z) ∧ Sep w none_ [OwnR a4K 90 2 x.1 x.2.1 x.2.2.1 x.2.2.2.1 x.2.2.2.2] w') := by
 have kz : Kn w none_ [] (RdR maK az nz Hz z) := fun w' hs => rz.ext hs.upd
 have lz : z.length = nz := rz.1
 have mz : nz ≤ 9223372036854775807 := rz.2.1
 have hol := Iso.orders_len
 refine fn (M := none_) (rs := [.tmp 2]) Try.func90 rfl Try.ntmps90 rfl rfl (Sep.start _ _) ?_
 refine hSeq ?_
 refine hReg (sq 0 sz) (by kernel_rfl) ?_
 refine asS rfl rfl rfl ?_
 refine rNil ?_
 refine qSeq rfl ?_
 refine hSeq ?_
 refine hReg (sq 0 sz) (by kernel_rfl) ?_
 refine asS rfl rfl rfl ?_
 refine rNil ?_
 refine qSeq rfl ?_
 refine hSeq ?_
 refine hSeq ?_
 refine hReg (sl 0 (sq 1 (sq 2 sz))) (by kernel_rfl) ?_
 refine callS Try.call81 trv1 rfl rfl (fun w hs => impl_suitOrders_c  w ) ?_
 rintro ⟨ay1, ny1, cy1, Hy1, y1⟩ hr1
 dsimp only at hr1
 subst y1
 refine rKnow (fun w hs => (show OwnR a4K 90 2 ay1 ny1 cy1 Hy1 Iso.orders w from hs.at_ 0 rfl).1) (fun lenn1 => ?_)
 refine lenS Try.runUnderlying88 rfl rfl rfl ?_
 refine mvI rfl rfl rfl ?_
 refine rNil ?_
 refine qSeq rfl ?_
 refine hBlk ?_
 refine hPieces (fun _ h => Sep.nilR a4K 90 2 (fun _ => (none, 0)) h) ?_
 refine hLoop (α := Nat × Nat × Hd × (Nat → Hd)) (fun x => x.1 ≤ ny1 ∧ x.2.1 ≤ x.1) (fun x => ny1 - x.1) (fun x => [OwnR a4K 90 2 x.2.2.1.1 x.2.1 x.2.2.1.2 x.2.2.2 (Iso.fixL z x.1), OwnR a4K 90 2 ay1 ny1 cy1 Hy1 Iso.orders]) (fun x => [(0, .slice az nz cz), (3, .slice x.2.2.1.1 x.2.1 x.2.2.1.2), (9, .slice ay1 ny1 cy1), (10, .int .i64 (ny1 : Int)), (11, .int .i64 (x.1 : Int))]) ((0, 0, ((none, 0), (fun _ => (none, 0))))) ⟨Nat.zero_le _, Nat.le_refl _⟩ (fun _ h => h.pick [0, 0]) ⟨rfl, rfl, rfl, rfl, rfl, trivial⟩ ?_
 rintro ⟨i, q, hd⟩ τ1 ⟨hi, hq⟩
 dsimp only at hi hq
 refine hRe [(0, .slice az nz cz), (3, .slice hd.1.1 q hd.1.2), (9, .slice ay1 ny1 cy1), (10, .int .i64 (ny1 : Int)), (11, .int .i64 (i : Int))] [OwnR a4K 90 2 hd.1.1 q hd.1.2 hd.2 (Iso.fixL z i), OwnR a4K 90 2 ay1 ny1 cy1 Hy1 Iso.orders] rfl rfl ?_
 refine hSeq ?_
 refine hReg (sq 0 sz) (by kernel_rfl) ?_
 refine lss rfl rfl rfl rfl ?_
 refine rNil ?_
 refine qSeq rfl ?_
 refine hSeq ?_
 refine hIfD rfl (fun c1 => ?_) (fun c1 => ?_)
 ·
  replace c1 : (i : Int) < (ny1 : Int) := c1
  refine hSkip ?_
  refine qSeq rfl ?_
  refine hSeq ?_
  refine hBlk ?_
  refine hSeq ?_
  refine hReg (sq 0 (sl 1 (sl 2 (sl 3 sz)))) (by kernel_rfl) ?_
  refine ixRl (zn := i) (Iso.orders.getD i []) el88 ((Kn.at_ 1 rfl).imp fun _ h => OwnR.rd h a4K.ok) rfl rfl rfl rfl (by omega) (by omega) rfl (nth [] (by omega)) ?_
  intro be2 oe2 e2
  refine ldAl Try.isAgg90 Try.sizeOf90 (e2) trv rfl rfl rfl rfl ?_
  refine alc Try.zeroValue90 rfl trv1 rfl rfl (fun bka3 hbka3 => ?_)
  refine stAl (vs := [.int .i64 (((Iso.orders.getD i []).getD 0 0)), .int .i64 (((Iso.orders.getD i []).getD 1 0)), .int .i64 (((Iso.orders.getD i []).getD 2 0)), .int .i64 (((Iso.orders.getD i []).getD 3 0))]) 0 rfl Try.sizeOf90 trv rfl rfl rfl rfl rfl (by simp [Value.oneCell']) rfl ?_
  refine rNil ?_
  refine qSeq rfl ?_
  refine hSeq ?_
  refine hReg (sq 0 sz) (by kernel_rfl) ?_
  refine asB rfl rfl rfl ?_
  refine rNil ?_
  refine qSeq rfl ?_
  refine hSeq ?_
  refine hSeq ?_
  refine hReg (sq 0 (sq 1 (sq 2 sz))) (by kernel_rfl) ?_
  refine mvS rfl rfl rfl ?_
  refine lenS Try.runUnderlying22 rfl rfl rfl ?_
  refine mvI rfl rfl rfl ?_
  refine rNil ?_
  refine qSeq rfl ?_
  refine hBlk ?_
  refine hLoop (α := Nat × Bool) (fun x => x.1 ≤ nz ∧ x.2 = Iso.fixS (Iso.orders.getD i []) (z.take x.1)) (fun x => nz - x.1) (fun x => [blk bka3 90 [.int .i64 (((Iso.orders.getD i []).getD 0 0)), .int .i64 (((Iso.orders.getD i []).getD 1 0)), .int .i64 (((Iso.orders.getD i []).getD 2 0)), .int .i64 (((Iso.orders.getD i []).getD 3 0))], OwnR a4K 90 2 hd.1.1 q hd.1.2 hd.2 (Iso.fixL z i), OwnR a4K 90 2 ay1 ny1 cy1 Hy1 Iso.orders]) (fun x => [(0, .slice az nz cz), (3, .slice hd.1.1 q hd.1.2), (5, .pointer (some ⟨bka3, 0, none⟩)), (6, .bool x.2), (9, .slice ay1 ny1 cy1), (10, .int .i64 (ny1 : Int)), (11, .int .i64 (i : Int)), (15, .slice az nz cz), (16, .int .i64 (nz : Int)), (17, .int .i64 (x.1 : Int))]) (0, true) ⟨Nat.zero_le _, rfl⟩ (fun _ h => h.pick [0, 0, 0]) ⟨rfl, rfl, rfl, rfl, rfl, rfl, rfl, rfl, rfl, rfl, trivial⟩ ?_
  rintro ⟨j, b⟩ τ2 ⟨hj, hb⟩
  dsimp only at hj hb
  refine hRe [(0, .slice az nz cz), (3, .slice hd.1.1 q hd.1.2), (5, .pointer (some ⟨bka3, 0, none⟩)), (6, .bool b), (9, .slice ay1 ny1 cy1), (10, .int .i64 (ny1 : Int)), (11, .int .i64 (i : Int)), (15, .slice az nz cz), (16, .int .i64 (nz : Int)), (17, .int .i64 (j : Int))] [blk bka3 90 [.int .i64 (((Iso.orders.getD i []).getD 0 0)), .int .i64 (((Iso.orders.getD i []).getD 1 0)), .int .i64 (((Iso.orders.getD i []).getD 2 0)), .int .i64 (((Iso.orders.getD i []).getD 3 0))], OwnR a4K 90 2 hd.1.1 q hd.1.2 hd.2 (Iso.fixL z i), OwnR a4K 90 2 ay1 ny1 cy1 Hy1 Iso.orders] rfl rfl ?_
  refine hSeq ?_
  refine hReg (sq 0 sz) (by kernel_rfl) ?_
  refine lss rfl rfl rfl rfl ?_
  refine rNil ?_
  refine qSeq rfl ?_
  refine hSeq ?_
  refine hIfD rfl (fun c2 => ?_) (fun c2 => ?_)
  ·
   replace c2 : (j : Int) < (nz : Int) := c2
   have hps := Iso.codeS_at hc (show j < z.length by omega)
   have hpl := Iso.areP_len hps
   refine hSkip ?_
   refine qSeq rfl ?_
   refine hSeq ?_
   refine hBlk ?_
   refine hSeq ?_
   refine hReg (sq 0 (sl 1 (sq 2 sz))) (by kernel_rfl) ?_
   refine ixRl (zn := j) (z.getD j []) el22 (Kn.drop (k := 3) kz) rfl rfl rfl rfl (by omega) (by omega) rfl (nth [] (by omega)) ?_
   intro be3 oe3 e3
   refine ldl Try.isAgg23 (Kn.fld e3 0 rfl) trv rfl rfl rfl ?_
   refine asS rfl rfl rfl ?_
   refine rNil ?_
   refine qSeq rfl ?_
   refine hReg (sq 0 (sq 1 (sq 2 (sl 3 (sl 4 (sq 5 (sl 6 (sl 7 (sl 8 (sq 9 (sq 10 sz))))))))))) (by kernel_rfl) ?_
   refine mvB rfl rfl rfl ?_
   refine mvB rfl rfl rfl ?_
   refine rBool (d := 22) rfl (fun g3 => ?_) (fun g3 => ?_)
   ·
    replace g3 : b = true := g3
    refine mvS rfl rfl rfl ?_
    refine ldAl Try.isAgg90 Try.sizeOf90 (cBs 0 rfl) trv rfl rfl rfl rfl ?_
    refine callS Try.call83 trv1 rfl rfl (fun w hs => impl_exchanged_c _ ((z.getD j []).length) ((Hz j).2) _ _ w (Kn.drop (k := 3) ((Kn.imp kz fun _ h => h.kidM (nth [] (by omega)))) w hs) hps.1 (by omega) (Iso.orders_at (by omega))) ?_
    rintro ⟨ay4, ny4, cy4, y4⟩ ⟨hr4a, hr4b⟩
    dsimp only at hr4a hr4b
    subst y4
    subst ny4
    refine rKnow (fun w hs => (show OwnI 2 ay4 (((((z.getD j []).length)))) cy4 (((srt (Iso.image4 (Iso.orders.getD i []) (z.getD j []))))) w from hs.at_ 0 rfl).lenz) (fun lenn4 => ?_)
    refine mvS rfl rfl rfl ?_
    refine callN (α := Nat) (val := fun x => .func (.func 128) #[] #[.pointer (some ⟨x, 0, none⟩)]) (good := fun _ => True) (φ := fun x => blk x 23 [.slice ((Hz j).1) ((z.getD j []).length) ((Hz j).2)]) Try.call85 trv1 rfl rfl (fun w hs => values_c ((Hz j).1) ((z.getD j []).length) ((Hz j).2) w) ?_
    rintro bkv5 -
    refine callS Try.call84 trv1 rfl rfl (fun w hs => sorted_c bkv5 ((Hz j).1) ((z.getD j []).length) ((Hz j).2) (z.getD j []) w (blk.cell (hs.at_ 0 rfl) rfl) (Kn.drop (k := 5) ((Kn.imp kz fun _ h => h.kidM (nth [] (by omega)))) w hs) (by omega)) ?_
    rintro ⟨aw5, cw5⟩ -
    refine callP (v := .bool (decide ((((srt (Iso.image4 (Iso.orders.getD i []) (z.getD j []))))) = ((srt (z.getD j [])))))) Try.call82 trv rfl rfl (fun w hs => equal_c _ (((((z.getD j []).length)))) cy4 _ _ ((z.getD j []).length) cw5 _ w (OwnI.rd (hs.at_ 2 rfl)) (OwnI.rd (hs.at_ 0 rfl)) (by first | rfl | omega)) ?_
    refine pickB rfl rfl rfl rfl ?_
    refine asB rfl rfl rfl ?_
    refine rNil ?_
    refine qSeq rfl ?_
    refine hReg (sq 0 (sq 1 sz)) (by kernel_rfl) ?_
    refine add rfl rfl rfl rfl (by omega) ?_
    refine mvI rfl rfl rfl ?_
    refine rNil ?_
    exact qNext rfl ((j + 1, decide ((((srt (Iso.image4 (Iso.orders.getD i []) (z.getD j []))))) = ((srt (z.getD j [])))))) (by dsimp only; omega) ⟨by dsimp only; omega, by dsimp only; rw [Iso.fixS_snoc (by omega), ← hb, g3]; rfl⟩ ⟨rfl, rfl, rfl, rfl, rfl, rfl, rfl, rfl, rfl, rfl, trivial⟩ (fun _ h => h.pick [3, 3, 3])
   ·
    replace g3 : b = false := g3
    refine rSkipQ rfl rfl ?_
    refine rSkipL trv rfl rfl ?_
    refine rSkipL trv rfl rfl ?_
    refine rSkipQ rfl rfl ?_
    refine rSkipL trv rfl rfl ?_
    refine rSkipL trv rfl rfl ?_
    refine rSkipL trv rfl rfl ?_
    refine pickB rfl rfl rfl rfl ?_
    refine asB rfl rfl rfl ?_
    refine rNil ?_
    refine qSeq rfl ?_
    refine hReg (sq 0 (sq 1 sz)) (by kernel_rfl) ?_
    refine add rfl rfl rfl rfl (by omega) ?_
    refine mvI rfl rfl rfl ?_
    refine rNil ?_
    exact qNext rfl (j + 1, false) (by dsimp only; omega) ⟨by dsimp only; omega, by dsimp only; rw [Iso.fixS_snoc (by omega), ← hb, g3]; rfl⟩ ⟨rfl, rfl, rfl, rfl, rfl, rfl, rfl, rfl, rfl, rfl, trivial⟩ (fun _ h => h.pick [0, 0, 0])
  ·
   replace c2 : ¬ ((j : Int) < (nz : Int)) := c2
   have hfx : b = Iso.fixS (Iso.orders.getD i []) z := by rw [hb, List.take_of_length_le (by omega)]
   refine hExit rfl ?_
   refine qSeq rfl ?_
   refine hSeq ?_
   refine hReg (sq 0 sz) (by kernel_rfl) ?_
   refine mvB rfl rfl rfl ?_
   refine rNil ?_
   refine qSeq rfl ?_
   refine hIf rfl (fun c4 => ?_) (fun c4 => ?_)
   ·
    replace c4 : b = true := c4
    refine hReg (sq 0 (sl 1 (sl 2 (sl 3 (sq 4 sz))))) (by kernel_rfl) ?_
    refine mvS rfl rfl rfl ?_
    refine ldAl Try.isAgg90 Try.sizeOf90 (cBs 0 rfl) trv rfl rfl rfl rfl ?_
    refine bsl trv1 rfl rfl rfl (bsl88_1 (.int .i64 (((Iso.orders.getD i []).getD 0 0))) (.int .i64 (((Iso.orders.getD i []).getD 1 0))) (.int .i64 (((Iso.orders.getD i []).getD 2 0))) (.int .i64 (((Iso.orders.getD i []).getD 3 0))) rfl rfl rfl rfl) (fun bkl7 hbkl7 => ?_)
    refine rPieces (fun _ h => Sep.nilI 2 h) ?_
    refine apR (hd := (none, 0)) (x := (Iso.orders.getD i [])) 3 0 1 a4K.ok rfl rfl rfl (fun _ => rfl) mk88 trv1 rfl rfl rfl rfl (by omega) ?_
    intro aq6 cq6
    refine asS rfl rfl rfl ?_
    refine rNil ?_
    refine qSeq rfl ?_
    refine hReg (sq 0 (sq 1 sz)) (by kernel_rfl) ?_
    refine add rfl rfl rfl rfl (by omega) ?_
    refine mvI rfl rfl rfl ?_
    refine rNil ?_
    rw [← Iso.fixL_yes (by omega) (by rw [← hfx]; assumption)]
    exact qNext rfl ((i + 1, (q + 1), ((aq6, cq6), (hset hd.2 (Iso.fixL z i).length (none, 0))))) (by dsimp only; omega) ⟨by dsimp only; omega, by dsimp only; omega⟩ ⟨rfl, rfl, rfl, rfl, rfl, trivial⟩ (fun _ h => h.pick [0, 2])
   ·
    replace c4 : b = false := c4
    refine hSkip ?_
    refine qSeq rfl ?_
    refine hReg (sq 0 (sq 1 sz)) (by kernel_rfl) ?_
    refine add rfl rfl rfl rfl (by omega) ?_
    refine mvI rfl rfl rfl ?_
    refine rNil ?_
    rw [← Iso.fixL_no (by omega) (by rw [← hfx]; assumption)]
    exact qNext rfl ((i + 1, q, ((hd.1.1, hd.1.2), hd.2))) (by dsimp only; omega) ⟨by dsimp only; omega, by dsimp only; omega⟩ ⟨rfl, rfl, rfl, rfl, rfl, trivial⟩ (fun _ h => h.pick [1, 1])
 ·
  replace c1 : ¬ ((i : Int) < (ny1 : Int)) := c1
  refine hExit rfl ?_
  refine qSeq rfl ?_
  refine hSeq ?_
  refine hReg (sq 0 (sq 1 sz)) (by kernel_rfl) ?_
  refine mvS rfl rfl rfl ?_
  refine asS rfl rfl rfl ?_
  refine rNil ?_
  refine qSeq rfl ?_
  refine hRet ?_
  exact fun w hs => ⟨[.slice hd.1.1 q hd.1.2], ⟨rfl, trivial⟩, ⟨(hd.1.1, q, hd.1.2, hd.2, (Iso.fixL z i)), rfl, Iso.fixL_end (by omega), hs.pick [0]⟩⟩
end Go.Proofs.Yteaahdakammffaa
/- A value that is spelt out. No condition. -/
namespace Go.Proofs.Yteaahdakammffaa.V
open Go Go.RowKit
set_option linter.unusedVariables false
section
variable {P : Program} {n : Nat} {w0 : World} {M : Nat → Prop} {L : List (World → Prop)} {σ : Fr} {K : Ko} {ops : Array Oper} {S : World → Prop} {r : Sch} {d : Nat} {v v' : Value}
theorem rVal (he : v' = v) (h : RG P n w0 M ops S L r (upd σ d v') K) : RG P n w0 M ops S L r (upd σ d v) K := by subst he; exact h
end
end Go.Proofs.Yteaahdakammffaa.V
/- Contracts of cards that are alike. Their conditions stand in each. -/
namespace Go.Proofs.Yteaahdakammffaa
open Go Go.RowKit V
set_option linter.unusedVariables false
set_option linter.unusedSimpArgs false
set_option maxRecDepth 100000
theorem bsl23_1 (v0 : Value) (h0 : v0.cells = #[v0]) : ∀ w, (Instr.buildSlice 23 1 ([(0, v0)] : List (Nat × Value)).toArray).run Try.prog w = .ok (.slice (some ⟨w.heap.size, 0, none⟩) 1 1) (w.alloc (.cells ([v0] : List Value).toArray 2)) := by
 intro w; simp [Instr.buildSlice, Instr.fill, Try.zeroValue2, Try.runUnderlying23, Try.sizeOf2, Value.cells_int, newRow, show Array.range 1 = #[0] from by decide, h0]
end Go.Proofs.Yteaahdakammffaa
