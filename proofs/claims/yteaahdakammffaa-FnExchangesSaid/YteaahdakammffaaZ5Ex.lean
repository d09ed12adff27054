/- Contracts of the sources of draws. Their conditions stand in each. -/
import Derived.Test.YteaahdakammffaaZ4Ex
import Derived.Test.YteaahdakammffaaZ0Ex
import Derived.Test.YteaahdakammffaaZ1Ex
import Derived.Test.YteaahdakammffaaRows
import Derived.Test.YteaahdakammffaaZ2Ex
import Derived.Test.YteaahdakammffaaZ3Ex
namespace Go.Proofs.Yteaahdakammffaa
open Go Go.RowKit V
set_option linter.unusedVariables false
set_option linter.unusedSimpArgs false
set_option maxRecDepth 100000
theorem fl130_0 : Fld Try.prog 130 0 0 := by
 intro w ad; simp [Instr.fieldAt, Try.runUnderlying130, Instr.sureAddr, fieldPlace, Try.sizeOf32]
theorem fl130_1 : Fld Try.prog 130 1 1 := by
 intro w ad; simp [Instr.fieldAt, Try.runUnderlying130, Instr.sureAddr, fieldPlace, Try.sizeOf3]
theorem fl130_2 : Fld Try.prog 130 2 2 := by
 intro w ad; simp [Instr.fieldAt, Try.runUnderlying130, Instr.sureAddr, fieldPlace, Try.sizeOf2]
theorem el32 : Elt Try.prog 32 1 := ⟨5, Try.runUnderlying32, Try.sizeOf5⟩
theorem bld130_0_2 (v0 v2 : Value) (h0 : v0.cells = #[v0]) (h2 : v2.cells = #[v2]) : ∀ w, (Instr.build 130 ([(0, v0), (2, v2)] : List (Nat × Value)).toArray).run Try.prog w = .ok (.agg ([v0, .int .i64 0, v2] : List Value).toArray) w := by
 intro w; simp [Instr.build, Instr.fill, Try.zeroValue130, Try.runUnderlying130, aggCells, Try.sizeOf2, Try.sizeOf3, Try.sizeOf32, h0, h2]
theorem l01Next_c (bk : Nat) (ca : Option Addr) (bs : List Int) (cc : Nat) (n : Int) (w : World) (hs0 : SrcIn bk ca bs cc w) :
  Calls Try.prog 76 #[.pointer (some ⟨bk, 0, none⟩), .int .i64 n] w (Ret fun v w' => ∃ x : Int, v = .int .i64 x ∧ (0 ≤ x ∧ (x < n ∨ x = 0)) ∧ Upd (fun k => k = bk) w w' ∧ srcP bk ca bs cc w') := by
 obtain ⟨⟨p, s, hb, h1, h2, h3, h4⟩, hcode, hok⟩ := hs0
 have hK : Kn w (fun k => k = bk) [] (CellsAt ca (bs.map (Value.int .u8))) := fun w' hs => hcode w' hs.upd
 have hl := hok.2
 refine fn (M := (fun k => k = bk)) (rs := [.tmp 4]) Try.func76 rfl Try.ntmps76 rfl rfl (Sep.startB hb) ?_
 refine hSeq ?_
 refine hReg (sq 0 sz) (by kernel_rfl) ?_
 refine asI rfl rfl rfl ?_
 refine rNil ?_
 refine qSeq rfl ?_
 refine hSeq ?_
 refine hSeq ?_
 refine hReg (sq 0 (sq 1 sz)) (by kernel_rfl) ?_
 refine mvI rfl rfl rfl ?_
 refine leq rfl rfl rfl rfl ?_
 refine rNil ?_
 refine qSeq rfl ?_
 refine hIfD rfl (fun c1 => ?_) (fun c1 => ?_)
 ·
  refine hSeq ?_
  refine hReg (sq 0 sz) (by kernel_rfl) ?_
  refine asI rfl rfl rfl ?_
  refine rNil ?_
  refine qSeq rfl ?_
  refine hRet ?_
  exact fun w hs => ⟨[.int .i64 _], ⟨rfl, trivial⟩, ⟨_, rfl, ⟨by omega, by omega⟩, hs.upd, ⟨_, _, hs.at_ 0 rfl, by omega, by omega, by omega, by omega⟩⟩⟩
 ·
  refine hSkip ?_
  refine qSeq rfl ?_
  refine hSeq ?_
  refine hReg (sq 0 (sq 1 (sq 2 (sq 3 (sl 4 (sq 5 (sq 6 (sq 7 (sq 8 (sq 9 (sl 10 sz))))))))))) (by kernel_rfl) ?_
  refine mvP rfl rfl rfl ?_
  refine mvP rfl rfl rfl ?_
  refine nilc rfl rfl rfl ?_
  refine fld fl130_2 rfl rfl rfl ?_
  refine ldl Try.isAgg2 (cB 0 rfl rfl) trv rfl rfl rfl ?_
  refine mul rfl rfl rfl rfl (by omega) ?_
  refine add rfl rfl rfl rfl (by omega) ?_
  refine rem rfl rfl rfl rfl (by omega) ?_
  refine nilc rfl rfl rfl ?_
  refine fld fl130_2 rfl rfl rfl ?_
  refine stl (v := .int .i64 _) 0 rfl Try.sizeOf2 trv rfl rfl rfl rfl rfl (Nat.le_of_ble_eq_true rfl) ?_
  refine rNil ?_
  refine qSeq rfl ?_
  refine hSeq ?_
  refine hReg (sq 0 (sq 1 (sq 2 (sl 3 (sq 4 (sq 5 sz)))))) (by kernel_rfl) ?_
  refine mvP rfl rfl rfl ?_
  refine nilc rfl rfl rfl ?_
  refine fld fl130_2 rfl rfl rfl ?_
  refine ldl Try.isAgg2 (cB 0 rfl rfl) trv rfl rfl rfl ?_
  refine quo rfl rfl rfl rfl (by omega) ?_
  refine asI rfl rfl rfl ?_
  refine rNil ?_
  refine qSeq rfl ?_
  refine hSeq ?_
  refine hSeq ?_
  refine hDraw (by kernel_rfl) (sq 0 (sq 1 (sq 2 (sq 3 (sq 4 (sq 5 (sq 6 (sq 7 (sq 8 (sq 9 sz)))))))))) (by kernel_rfl) (.cons_cons _ .slnil) ?_
  refine mvP rfl rfl rfl ?_
  refine nilc rfl rfl rfl ?_
  refine fld fl130_1 rfl rfl rfl ?_
  refine ldq Try.isAgg3 (cB 0 rfl rfl) rfl rfl rfl ?_
  refine mvP rfl rfl rfl ?_
  refine nilc rfl rfl rfl ?_
  refine fld fl130_0 rfl rfl rfl ?_
  refine ldq Try.isAgg32 (cB 0 rfl rfl) rfl rfl rfl ?_
  refine lenS Try.runUnderlying32 rfl rfl rfl ?_
  refine lss rfl rfl rfl rfl ?_
  refine rNil ?_
  refine qSeq rfl ?_
  refine hIfD rfl (fun c2 => ?_) (fun c2 => ?_)
  ·
   refine hSeq ?_
   refine hDraw (by kernel_rfl) (sq 0 (sq 1 (sq 2 (sq 3 (sq 4 (sq 5 (sq 6 (sq 7 (sq 8 (sq 9 (sq 10 (sq 11 (sq 12 (sq 13 sz)))))))))))))) (by kernel_rfl) (.cons_cons _ .slnil) ?_
   refine mvI rfl rfl rfl ?_
   refine mvP rfl rfl rfl ?_
   refine nilc rfl rfl rfl ?_
   refine fld fl130_0 rfl rfl rfl ?_
   refine ldq Try.isAgg32 (cB 0 rfl rfl) rfl rfl rfl ?_
   refine mvP rfl rfl rfl ?_
   refine nilc rfl rfl rfl ?_
   refine fld fl130_1 rfl rfl rfl ?_
   refine ldq Try.isAgg3 (cB 0 rfl rfl) rfl rfl rfl ?_
   refine ixq el32 (Kn.drop (k := 1) hK) (fun _ h => h.sub (.cons_cons _ .slnil)) rfl rfl rfl rfl (by omega) (by omega) (map_get (by omega)) ?_
   intro ae3 e3
   refine ldq Try.isAgg5 (e3) rfl rfl rfl ?_
   refine cnvI Try.runUnderlying5 Try.runUnderlying2 rfl rfl rfl (by have := hok.at_ p.toNat; omega) ?_
   refine add rfl rfl rfl rfl (by have := hok.at_ p.toNat; omega) ?_
   refine asI rfl rfl rfl ?_
   refine rNil ?_
   refine qSeq rfl ?_
   refine hSeq ?_
   refine hReg (sq 0 (sq 1 (sq 2 (sl 3 (sq 4 (sq 5 (sq 6 (sl 7 sz)))))))) (by kernel_rfl) ?_
   refine mvP rfl rfl rfl ?_
   refine nilc rfl rfl rfl ?_
   refine fld fl130_1 rfl rfl rfl ?_
   refine ldl Try.isAgg3 (cB 0 rfl rfl) trv rfl rfl rfl ?_
   refine add rfl rfl rfl rfl (by omega) ?_
   refine nilc rfl rfl rfl ?_
   refine fld fl130_1 rfl rfl rfl ?_
   refine stl (v := .int .i64 _) 0 rfl Try.sizeOf3 trv rfl rfl rfl rfl rfl (Nat.le_of_ble_eq_true rfl) ?_
   refine rNil ?_
   refine qSeq rfl ?_
   refine hSeq ?_
   refine hReg (sq 0 (sq 1 (sq 2 (sq 3 (sq 4 (sq 5 (sl 6 (sq 7 (sq 8 (sq 9 sz)))))))))) (by kernel_rfl) ?_
   refine mvI rfl rfl rfl ?_
   refine leq rfl rfl rfl rfl ?_
   refine mvB rfl rfl rfl ?_
   refine rBoolD (d := 55) rfl (fun g4 => ?_) (fun g4 => ?_)
   ·
    refine mvP rfl rfl rfl ?_
    refine nilc rfl rfl rfl ?_
    refine fld fl130_1 rfl rfl rfl ?_
    refine ldl Try.isAgg3 (cB 0 rfl rfl) trv rfl rfl rfl ?_
    refine rem rfl rfl rfl rfl (by omega) ?_
    refine eql rfl rfl rfl rfl ?_
    refine pickB rfl rfl rfl rfl ?_
    refine rNil ?_
    refine qSeq rfl ?_
    refine hIfD rfl (fun c5 => ?_) (fun c5 => ?_)
    ·
     refine hDraw (by kernel_rfl) (sq 0 (sq 1 (sq 2 (sq 3 (sq 4 (sq 5 (sq 6 (sq 7 (sq 8 (sq 9 (sq 10 (sq 11 (sq 12 sz))))))))))))) (by kernel_rfl) (.cons_cons _ .slnil) ?_
     refine mvP rfl rfl rfl ?_
     refine nilc rfl rfl rfl ?_
     refine fld fl130_0 rfl rfl rfl ?_
     refine ldq Try.isAgg32 (cB 0 rfl rfl) rfl rfl rfl ?_
     refine mvP rfl rfl rfl ?_
     refine nilc rfl rfl rfl ?_
     refine fld fl130_1 rfl rfl rfl ?_
     refine ldq Try.isAgg3 (cB 0 rfl rfl) rfl rfl rfl ?_
     refine sub rfl rfl rfl rfl (by omega) ?_
     refine ixq el32 (Kn.drop (k := 1) hK) (fun _ h => h.sub (.cons_cons _ .slnil)) rfl rfl rfl rfl (by omega) (by omega) (map_get (by omega)) ?_
     intro ae6 e6
     refine ldq Try.isAgg5 (e6) rfl rfl rfl ?_
     refine cnvI Try.runUnderlying5 Try.runUnderlying2 rfl rfl rfl (by have := hok.at_ (p + 1 - 1).toNat; omega) ?_
     refine asI rfl rfl rfl ?_
     refine rNil ?_
     refine qSeq rfl ?_
     refine hSeq ?_
     refine hReg (sq 0 (sq 1 (sq 2 (sq 3 sz)))) (by kernel_rfl) ?_
     refine mvI rfl rfl rfl ?_
     refine mvI rfl rfl rfl ?_
     refine rem rfl rfl rfl rfl (by have := hok.at_ p.toNat; have := hok.at_ (p + 1 - 1).toNat; omega) ?_
     refine asI rfl rfl rfl ?_
     refine rNil ?_
     refine qSeq rfl ?_
     refine hRet ?_
     exact fun w hs => ⟨[.int .i64 _], ⟨rfl, trivial⟩, ⟨_, rfl, emod_bd _ (by omega), hs.upd, ⟨_, _, hs.at_ 0 rfl, by omega, by omega, by omega, by omega⟩⟩⟩
    ·
     refine hSkip ?_
     refine qSeq rfl ?_
     refine hSeq ?_
     refine hReg (sq 0 (sq 1 (sq 2 (sq 3 sz)))) (by kernel_rfl) ?_
     refine mvI rfl rfl rfl ?_
     refine mvI rfl rfl rfl ?_
     refine rem rfl rfl rfl rfl (by have := hok.at_ p.toNat; have := hok.at_ (p + 1 - 1).toNat; omega) ?_
     refine asI rfl rfl rfl ?_
     refine rNil ?_
     refine qSeq rfl ?_
     refine hRet ?_
     exact fun w hs => ⟨[.int .i64 _], ⟨rfl, trivial⟩, ⟨_, rfl, emod_bd _ (by omega), hs.upd, ⟨_, _, hs.at_ 0 rfl, by omega, by omega, by omega, by omega⟩⟩⟩
   ·
    refine rSkipQ rfl rfl ?_
    refine rSkipQ rfl rfl ?_
    refine rSkipQ rfl rfl ?_
    refine rSkipL trv rfl rfl ?_
    refine rSkipQ rfl rfl ?_
    refine rSkipQ rfl rfl ?_
    refine pickB rfl rfl rfl rfl ?_
    refine rNil ?_
    refine qSeq rfl ?_
    refine hIfF rfl ?_
    refine hSkip ?_
    refine qSeq rfl ?_
    refine hSeq ?_
    refine hReg (sq 0 (sq 1 (sq 2 (sq 3 sz)))) (by kernel_rfl) ?_
    refine mvI rfl rfl rfl ?_
    refine mvI rfl rfl rfl ?_
    refine rem rfl rfl rfl rfl (by have := hok.at_ p.toNat; have := hok.at_ (p + 1 - 1).toNat; omega) ?_
    refine asI rfl rfl rfl ?_
    refine rNil ?_
    refine qSeq rfl ?_
    refine hRet ?_
    exact fun w hs => ⟨[.int .i64 _], ⟨rfl, trivial⟩, ⟨_, rfl, emod_bd _ (by omega), hs.upd, ⟨_, _, hs.at_ 0 rfl, by omega, by omega, by omega, by omega⟩⟩⟩
  ·
   refine hSkip ?_
   refine qSeq rfl ?_
   refine hSeq ?_
   refine hReg (sq 0 (sq 1 (sq 2 (sq 3 sz)))) (by kernel_rfl) ?_
   refine mvI rfl rfl rfl ?_
   refine mvI rfl rfl rfl ?_
   refine rem rfl rfl rfl rfl (by have := hok.at_ p.toNat; have := hok.at_ (p + 1 - 1).toNat; omega) ?_
   refine asI rfl rfl rfl ?_
   refine rNil ?_
   refine qSeq rfl ?_
   refine hRet ?_
   exact fun w hs => ⟨[.int .i64 _], ⟨rfl, trivial⟩, ⟨_, rfl, emod_bd _ (by omega), hs.upd, ⟨_, _, hs.at_ 0 rfl, by omega, by omega, by omega, by omega⟩⟩⟩
theorem l01Pick_c (bk : Nat) (ca : Option Addr) (bs : List Int) (cc : Nat) (a : Option Addr) (cap : Nat) (xs : List Int) (w : World) (hs0 : SrcIn bk ca bs cc w) (hx : Lst bk a xs w) (hn : 0 < xs.length) :
  Calls Try.prog 132 #[.pointer (some ⟨bk, 0, none⟩), .slice a xs.length cap] w (Ret fun v w' => ∃ x : Int, v = .int .i64 x ∧ x ∈ xs ∧ Upd (fun k => k = bk) w w' ∧ srcP bk ca bs cc w') := by
 obtain ⟨hsrc, hcode, hok⟩ := hs0
 have hX : Kn w (fun k => k = bk) [] (CellsAt a (xs.map (Value.int .i64))) := fun w' hs => hx w' hs.upd
 refine fn (M := (fun k => k = bk)) (rs := [.tmp 4]) Try.func132 rfl Try.ntmps132 rfl rfl (Sep.startS hsrc) ?_
 refine hSeq ?_
 refine hReg (sq 0 sz) (by kernel_rfl) ?_
 refine asI rfl rfl rfl ?_
 refine rNil ?_
 refine qSeq rfl ?_
 refine hSeq ?_
 refine hReg (sq 0 (sq 1 (sq 2 (sq 3 (sl 4 (sq 5 (sl 6 (sq 7 sz)))))))) (by kernel_rfl) ?_
 refine mvS rfl rfl rfl ?_
 refine mvP rfl rfl rfl ?_
 refine mvS rfl rfl rfl ?_
 refine lenS Try.runUnderlying23 rfl rfl rfl ?_
 refine callK 0 rfl srcP_mem srcP_st Try.call76 trv rfl rfl (fun w hs => l01Next_c _ _ _ _ _ w ⟨hs.at_ 0 rfl, hcode.upd hs.upd, hok⟩) ?_
 rintro x1 hx1
 refine ixl el23 (Kn.drop (k := 1) hX) rfl rfl rfl rfl (by omega) (by omega) (map_get (by omega)) ?_
 intro ae2 e2
 refine ldl Try.isAgg2 (e2) trv rfl rfl rfl ?_
 refine asI rfl rfl rfl ?_
 refine rNil ?_
 refine qSeq rfl ?_
 refine hRet ?_
 exact fun w hs => ⟨[.int .i64 _], ⟨rfl, trivial⟩, ⟨_, rfl, getD_mem (by omega), hs.upd, hs.at_ 0 rfl⟩⟩
theorem l01From_c (ca : Option Addr) (bs : List Int) (cc : Nat) (w : World) (hc : CellsAt ca (bs.map (Value.int .u8)) w) (hok : okBytes bs) :
  Calls Try.prog 74 #[.slice ca bs.length cc] w (Ret fun v w' => ∃ bk : Nat, v = .pointer (some ⟨bk, 0, none⟩) ∧ w.heap.size ≤ bk ∧ Ext w w' ∧ St (New w w') (srcP bk ca bs cc) w') := by
 have hK : Kn w none_ [] (CellsAt ca (bs.map (Value.int .u8))) := fun w' hs => hc.ext hs.upd
 refine fn (M := none_) (rs := [.tmp 2]) Try.func74 rfl Try.ntmps74 rfl rfl (Sep.start _ _) ?_
 refine hSeq ?_
 refine hReg (sq 0 sz) (by kernel_rfl) ?_
 refine asn rfl rfl rfl ?_
 refine rNil ?_
 refine qSeq rfl ?_
 refine hSeq ?_
 refine hReg (sq 0 (sq 1 (sl 2 (sq 3 sz)))) (by kernel_rfl) ?_
 refine mvS rfl rfl rfl ?_
 refine bld rfl rfl rfl (bld130_0_2 (.slice _ _ _) (.int .i64 _) rfl rfl) ?_
 refine box trv1 rfl rfl rfl rfl (fun bkb1 hbkb1 => ?_)
 refine asn rfl rfl rfl ?_
 refine rNil ?_
 refine qSeq rfl ?_
 refine hSeq ?_
 refine hSeq ?_
 refine hReg (sq 0 sz) (by kernel_rfl) ?_
 refine asI rfl rfl rfl ?_
 refine rNil ?_
 refine qSeq rfl ?_
 refine hBlk ?_
 refine hLoop (α := Int × Int) (fun x => (0 ≤ x.1 ∧ x.1 ≤ 64) ∧ (0 ≤ x.2 ∧ x.2 ≤ 2147483646)) (fun x => (64 - x.1).toNat) (fun x => [blk bkb1 130 [.slice ca bs.length cc, .int .i64 0, .int .i64 x.2]]) (fun x => [(0, .slice ca bs.length cc), (3, .pointer (some ⟨bkb1, 0, none⟩)), (4, .int .i64 x.1)]) (0, 45007) ⟨by decide, by decide⟩ (fun _ h => h) ⟨rfl, rfl, rfl, trivial⟩ ?_
 rintro ⟨i, s⟩ τ1 ⟨⟨hi, hi2⟩, hs1, hs2⟩
 dsimp only at hi hi2 hs1 hs2
 refine hRe [(0, .slice ca bs.length cc), (3, .pointer (some ⟨bkb1, 0, none⟩)), (4, .int .i64 i)] [blk bkb1 130 [.slice ca bs.length cc, .int .i64 0, .int .i64 s]] rfl rfl ?_
 refine hSeq ?_
 refine hSeq ?_
 refine hReg (sq 0 (sq 1 (sq 2 (sq 3 (sq 4 (sq 5 (sq 6 (sq 7 sz)))))))) (by kernel_rfl) ?_
 refine mvI rfl rfl rfl ?_
 refine mvS rfl rfl rfl ?_
 refine lenS Try.runUnderlying32 rfl rfl rfl ?_
 refine lss rfl rfl rfl rfl ?_
 refine mvB rfl rfl rfl ?_
 refine rBoolD (d := 12) rfl (fun g1 => ?_) (fun g1 => ?_)
 ·
  refine mvI rfl rfl rfl ?_
  refine lss rfl rfl rfl rfl ?_
  refine pickB rfl rfl rfl rfl ?_
  refine rNil ?_
  refine qSeq rfl ?_
  refine hIfD rfl (fun c2 => ?_) (fun c2 => ?_)
  ·
   refine hSkip ?_
   refine qSeq rfl ?_
   refine hSeq ?_
   refine hBlk ?_
   refine hDraw (by kernel_rfl) (sq 0 (sq 1 (sq 2 (sq 3 (sq 4 (sq 5 (sq 6 (sq 7 (sq 8 (sq 9 (sq 10 (sq 11 (sq 12 (sl 13 (sq 14 (sf 15 sz)))))))))))))))) (by kernel_rfl) (.cons_cons _ .slnil) ?_
   refine mvP rfl rfl rfl ?_
   refine mvP rfl rfl rfl ?_
   refine nilc rfl rfl rfl ?_
   refine fld fl130_2 rfl rfl rfl ?_
   refine ldq Try.isAgg2 (cB 0 rfl rfl) rfl rfl rfl ?_
   refine mul rfl rfl rfl rfl (by omega) ?_
   refine mvS rfl rfl rfl ?_
   refine mvI rfl rfl rfl ?_
   refine ixq el32 (Kn.drop (k := 1) hK) (fun _ h => h.sub (.cons_cons _ .slnil)) rfl rfl rfl rfl (by omega) (by omega) (map_get (by omega)) ?_
   intro ae3 e3
   refine ldq Try.isAgg5 (e3) rfl rfl rfl ?_
   refine cnvI Try.runUnderlying5 Try.runUnderlying2 rfl rfl rfl (by have := hok.at_ i.toNat; omega) ?_
   refine add rfl rfl rfl rfl (by have := hok.at_ i.toNat; omega) ?_
   refine rem rfl rfl rfl rfl (by have := hok.at_ i.toNat; omega) ?_
   refine nilcL (fun _ h => h.sub (.cons_cons _ .slnil)) rfl rfl rfl ?_
   refine fld fl130_2 rfl rfl rfl ?_
   refine stf (v := .int .i64 _) 0 rfl Try.sizeOf2 rfl rfl rfl rfl rfl (Nat.le_of_ble_eq_true rfl) ?_
   refine rNil ?_
   refine qSeq rfl ?_
   refine hReg (sq 0 (sq 1 (sq 2 sz))) (by kernel_rfl) ?_
   refine mvI rfl rfl rfl ?_
   refine add rfl rfl rfl rfl (by omega) ?_
   refine asI rfl rfl rfl ?_
   refine rNil ?_
   exact qNext rfl (i + 1, (s * 61 + bs.getD i.toNat 0) % 2147483647) (by dsimp only; omega) ⟨by dsimp only; omega, by dsimp only; omega⟩ ⟨rfl, rfl, rfl, trivial⟩ (fun _ h => h)
  ·
   refine hExit rfl ?_
   refine qSeq rfl ?_
   refine hSeq ?_
   refine hReg (sq 0 (sq 1 sz)) (by kernel_rfl) ?_
   refine mvP rfl rfl rfl ?_
   refine asn rfl rfl rfl ?_
   refine rNil ?_
   refine qSeq rfl ?_
   refine hRet ?_
   exact fun w hs => ⟨[.pointer _], ⟨rfl, trivial⟩, ⟨_, rfl, hbkb1, hs.upd, (hs.fresh0 rfl).imp fun w h => ⟨_, _, h, by omega, by omega, by omega, by omega⟩⟩⟩
 ·
  refine rSkipQ rfl rfl ?_
  refine rSkipQ rfl rfl ?_
  refine pickB rfl rfl rfl rfl ?_
  refine rNil ?_
  refine qSeq rfl ?_
  refine hIfF rfl ?_
  refine hExit rfl ?_
  refine qSeq rfl ?_
  refine hSeq ?_
  refine hReg (sq 0 (sq 1 sz)) (by kernel_rfl) ?_
  refine mvP rfl rfl rfl ?_
  refine asn rfl rfl rfl ?_
  refine rNil ?_
  refine qSeq rfl ?_
  refine hRet ?_
  exact fun w hs => ⟨[.pointer _], ⟨rfl, trivial⟩, ⟨_, rfl, hbkb1, hs.upd, (hs.fresh0 rfl).imp fun w h => ⟨_, _, h, by omega, by omega, by omega, by omega⟩⟩⟩
theorem l01PickV_c (bk : Nat) (ca : Option Addr) (bs : List Int) (cc : Nat) (a : Option Addr) (len cap : Nat) (vs : List Value) (w : World) (hs0 : SrcIn bk ca bs cc w) (hx : Lst bk a (vs.map toI) w) (hl : len = vs.length) (hn : 0 < len) :
  Calls Try.prog 132 #[.pointer (some ⟨bk, 0, none⟩), .slice a len cap] w (Ret fun v w' => ∃ x : Int, v = .int .i64 x ∧ x ∈ vs.map toI ∧ Upd (fun k => k = bk) w w' ∧ srcP bk ca bs cc w') := by
 subst hl
 simpa using l01Pick_c bk ca bs cc a cap (vs.map toI) w hs0 hx (by simpa using hn)
end Go.Proofs.Yteaahdakammffaa
/- A slice put into an owned row; plain facts on bet trees. No condition. -/
namespace Go.Proofs.Yteaahdakammffaa.V
open Go Go.RowKit
set_option linter.unusedVariables false
set_option linter.unusedSimpArgs false
section
variable {P : Program} {n : Nat} {w0 : World} {M : Nat → Prop} {L L' : List (World → Prop)} {σ : Fr} {K K' : Ko} {c x y : Code} {ops : Array Oper} {S : World → Prop} {r : Sch} {i : Nat}
variable {d : Nat} {t : TypeId} {p : String} {af : Array Edge} {g : Option (Nat × Bool)} {a b : Operand}
variable {α : Type} {k : RK α} {ty e e1 by_ N C : Nat} {ao : Option Addr} {hs : Nat → Hd} {xs : List α} {zc : List Value}
end
end Go.Proofs.Yteaahdakammffaa.V
namespace Go.Proofs.Yteaahdakammffaa.Math
open Go.Proofs.Yteaahdakammffaa.V
/-- How often a tree may grow on. -/
def ckN (ck : Bool) : Int := if ck then 2 else 3
def p2 : Nat → Nat
 | 0 => 1
 | f + 1 => p2 f + p2 f
/-- A bet tree: the nodes that are added. -/
def growF : Nat → Int → Int → Int → Int → Int → Bool → Nat → List Nd
 | 0, _, _, _, _, _, _, _ => []
 | f + 1, pl, p0, p1, bet, r, ck, b =>
  if p0 = p1 then
   ⟨pl, p0, p1, -1, [((b + 1 : Nat) : Int), ((b + 1 + (if ck then [(⟨2, p0, p1, -1, []⟩ : Nd)] else growF f (1 - pl) p0 p1 bet r true (b + 1)).length : Nat) : Int)]⟩ ::
    ((if ck then [(⟨2, p0, p1, -1, []⟩ : Nd)] else growF f (1 - pl) p0 p1 bet r true (b + 1)) ++
     growF f (1 - pl) (if pl = 0 then p1 + bet else p0) (if pl = 0 then p1 else p0 + bet) bet r false (b + 1 + (if ck then [(⟨2, p0, p1, -1, []⟩ : Nd)] else growF f (1 - pl) p0 p1 bet r true (b + 1)).length))
  else if r = 0 then [⟨pl, p0, p1, -1, [((b + 1 : Nat) : Int), ((b + 1 + 1 : Nat) : Int)]⟩, ⟨2, p0, p1, pl, []⟩, ⟨2, if pl = 0 then p1 else p0, if pl = 0 then p1 else p0, -1, []⟩]
  else ⟨pl, p0, p1, -1, [((b + 1 : Nat) : Int), ((b + 1 + 1 : Nat) : Int), ((b + 1 + 1 + 1 : Nat) : Int)]⟩ :: ⟨2, p0, p1, pl, []⟩ :: ⟨2, if pl = 0 then p1 else p0, if pl = 0 then p1 else p0, -1, []⟩ ::
   growF f (1 - pl) (if pl = 0 then p1 + bet else p0) (if pl = 0 then p1 else p0 + bet) bet (r - 1) false (b + 1 + 1 + 1)
section
variable {z : List Nd} {f n n1 n2 : Nat} {pl p0 p1 q0 q1 o bet r r1 pm : Int} {ck : Bool} {ch : List Int} {A B : List Nd}
end
def betAt (ante bet r : Int) : List Nd × Int := if (0 ≤ ante ∧ ante ≤ 100) ∧ (1 ≤ bet ∧ bet ≤ 100) ∧ (0 ≤ r ∧ r ≤ 2) ∧ ante + bet * (r + 1) ≤ 100 then (growF 5 0 ante ante bet r false 0, 0) else ([], 2)
end Go.Proofs.Yteaahdakammffaa.Math
/- Calls that turn what they are handed, and read what nobody turns. No condition. -/
namespace Go.Proofs.Yteaahdakammffaa.V
open Go Go.RowKit
set_option linter.unusedVariables false
set_option linter.unusedSimpArgs false
section
variable {P : Program} {n : Nat} {w0 : World} {M : Nat → Prop} {L L' Lf Lr : List (World → Prop)} {σ : Fr} {K K' : Ko} {c x y : Code} {ops : Array Oper} {S : World → Prop} {r : Sch} {i : Nat}
variable {d : Nat} {t : TypeId} {p : String} {af : Array Edge} {g : Option (Nat × Bool)} {a b : Operand}
theorem callMK {α : Type} {f : FuncId} {args : Array Operand} {tys : Array TypeId} {val : α → Value} {good : α → Prop} {φs : α → List (World → Prop)} (hL : L = Lf ++ Lr) (hf : ∀ args w, (callFunc f args).run P w = .ok (.enter f args) w) (hS : ∀ x w, Sep w0 M (φs x ++ Lr) w → S w) (ho : ops[i]? = some ⟨some d, .call ⟨.value (.func f), args, tys⟩, t, p, af, g⟩) (hg : go ops σ g)
  (hc : ∀ w M0, Sep w M0 Lf w → (∀ φ, Kn w0 M [] φ → Kn w M0 [] φ) → Calls P f (args.toList.map (ev σ)).toArray w (Ret fun v' w' => ∃ x, v' = val x ∧ good x ∧ Sep w M0 (φs x) w')) (h : ∀ x, good x → RG P n w0 M ops S (φs x ++ Lr) r (upd σ d (val x)) K) : RG P n w0 M ops S L (.op .l i r) σ K := by
 subst hL
 exact rL (Lx := fun x => φs x ++ Lr) (v := val) hS ho hg (fun w hs => by
  obtain ⟨M0, h1, h2⟩ := hs.focus
  refine call_opw hf (hc w M0 h1 fun φ hk w' hs' => hk w' ((h2 [] w' hs').sub (List.nil_sublist _))) fun v' w' ⟨x, he, hx, hsep⟩ => by subst he; exact ⟨x, hx, h2 _ _ hsep, rfl⟩) h
end
theorem Sep.nilU {w w' : World} {M : Nat → Prop} (h : Upd M w w') : Sep w M [] w' := ⟨h, [], trivial⟩
end Go.Proofs.Yteaahdakammffaa.V
namespace Go.Proofs.Yteaahdakammffaa
open Go Go.RowKit V
theorem src_in {bk : Nat} {ca : Option Addr} {bs : List Int} {cc : Nat} {w : World} {M0 : Nat → Prop} {L : List (World → Prop)} (hs0 : V.Sep w M0 (srcP bk ca bs cc :: L) w) (hc : Kn w M0 [] (CellsAt ca (bs.map (Value.int .u8)))) (hok : okBytes bs) : SrcIn bk ca bs cc w := by
 refine ⟨hs0.at_ 0 rfl, fun w' hu => hc w' (Sep.nilU (hu.mono fun k hk hb => ?_)), hok⟩
 subst hb
 obtain ⟨_, fs, h⟩ := hs0
 match fs, h with
 | f :: fs, ⟨h1, _, h3, _⟩ =>
  have hm := srcP_mem f w h3
  exact (h1 _ hm).1.resolve_left (Nat.not_le_of_lt (h1 _ hm).2)
 | [], h => exact h.elim
theorem src_out {bk : Nat} {ca : Option Addr} {bs : List Int} {cc : Nat} {w w' : World} {M0 : Nat → Prop} {L : List (World → Prop)} (hs0 : V.Sep w M0 (srcP bk ca bs cc :: L) w) (hu : Upd (fun k => k = bk) w w') (h : srcP bk ca bs cc w') : V.Sep w M0 (srcP bk ca bs cc :: L) w' :=
 hs0.change 0 rfl fun f hf => ⟨f, fun _ h => .inl h, srcP_st f w' h (srcP_mem f w hf), hu.mono fun k _ hk => by subst hk; exact srcP_mem f w hf⟩
end Go.Proofs.Yteaahdakammffaa
/- Numbers that a source hands out. Their conditions stand in each. -/
namespace Go.Proofs.Yteaahdakammffaa
open Go Go.RowKit V
set_option linter.unusedVariables false
set_option linter.unusedSimpArgs false
set_option maxRecDepth 100000
theorem src_next (bk : Nat) (ca : Option Addr) (bs : List Int) (cc : Nat) (n : Int) (w : World) (M0 : Nat → Prop) (hs0 : V.Sep w M0 [srcP bk ca bs cc] w) (hc : Kn w M0 [] (CellsAt ca (bs.map (Value.int .u8)))) (hok : okBytes bs) :
  Calls Try.prog 76 #[.pointer (some ⟨bk, 0, none⟩), .int .i64 n] w (Ret fun v w' => ∃ x : Int, v = .int .i64 x ∧ (0 ≤ x ∧ (x < n ∨ x = 0)) ∧ V.Sep w M0 [srcP bk ca bs cc] w') :=
 Calls.mono (l01Next_c bk ca bs cc n w (src_in hs0 hc hok)) fun e w' ⟨v, he, x, hv, hx, hu, h⟩ => ⟨v, he, x, hv, hx, src_out hs0 hu h⟩
theorem src_pick (bk : Nat) (ca : Option Addr) (bs : List Int) (cc : Nat) (lb e len cap : Nat) (vs : List Value) (w : World) (M0 : Nat → Prop) (hs0 : V.Sep w M0 [srcP bk ca bs cc, blk lb e vs] w) (hc : Kn w M0 [] (CellsAt ca (bs.map (Value.int .u8)))) (hok : okBytes bs) (hv : vs = (vs.map toI).map (Value.int .i64)) (hl : len = vs.length) (hn : 0 < len) :
  Calls Try.prog 132 #[.pointer (some ⟨bk, 0, none⟩), .slice (some ⟨lb, 0, none⟩) len cap] w (Ret fun v w' => ∃ x : Int, v = .int .i64 x ∧ x ∈ vs.map toI ∧ V.Sep w M0 [srcP bk ca bs cc, blk lb e vs] w') :=
 Calls.mono (l01PickV_c bk ca bs cc _ len cap vs w (src_in hs0 hc hok) (Lst.of' hs0 1 0 rfl rfl (by decide) hv) hl hn) fun e w' ⟨v, he, x, hv, hx, hu, h⟩ => ⟨v, he, x, hv, hx, src_out hs0 hu h⟩
end Go.Proofs.Yteaahdakammffaa
/- Contracts of what laws on exchanges call. Their conditions stand in each. -/
namespace Go.Proofs.Yteaahdakammffaa
open Go Go.RowKit V
set_option linter.unusedVariables false
set_option linter.unusedSimpArgs false
set_option maxRecDepth 100000
theorem slices_Index_4_int64_4_int64_c (az : Option Addr) (nz : Nat) (cz : Nat) (Hz : Nat → Hd) (z : List (List Int)) (p : List Int) (w : World) (rz : RdR a4K az nz Hz z w) (hz : ∀ x ∈ z, Iso.isP x) (hp : p.length = 4) :
  Calls Try.prog 131 #[.slice az nz cz, .agg #[.int .i64 (p.getD 0 0), .int .i64 (p.getD 1 0), .int .i64 (p.getD 2 0), .int .i64 (p.getD 3 0)]] w (Ret fun v w' => v = .int .i64 (Iso.indexOf4 z p) ∧ Ext w w') := by
 have kz : Kn w none_ [] (RdR a4K az nz Hz z) := fun w' hs => rz.ext hs.upd
 have lz : z.length = nz := rz.1
 have mz : nz ≤ 9223372036854775807 := rz.2.1
 refine fn (M := none_) (rs := [.tmp 4]) Try.func131 rfl Try.ntmps131 rfl rfl (Sep.start _ _) ?_
 refine hSeq ?_
 refine hReg (sl 0 (sq 1 sz)) (by kernel_rfl) ?_
 refine box trv1 rfl rfl rfl rfl (fun bkb1 hbkb1 => ?_)
 refine asI rfl rfl rfl ?_
 refine rNil ?_
 refine qSeq rfl ?_
 refine hSeq ?_
 refine hSeq ?_
 refine hReg (sq 0 (sq 1 (sq 2 sz))) (by kernel_rfl) ?_
 refine mvS rfl rfl rfl ?_
 refine lenS Try.runUnderlying88 rfl rfl rfl ?_
 refine mvI rfl rfl rfl ?_
 refine rNil ?_
 refine qSeq rfl ?_
 refine hBlk ?_
 refine hLoop (α := Nat) (fun i => i ≤ nz ∧ ∀ j, j < i → z.getD j [] ≠ p) (fun i => nz - i) (fun i => [blk bkb1 90 [.int .i64 (p.getD 0 0), .int .i64 (p.getD 1 0), .int .i64 (p.getD 2 0), .int .i64 (p.getD 3 0)]]) (fun i => [(0, .slice az nz cz), (3, .pointer (some ⟨bkb1, 0, none⟩)), (7, .int .i64 (nz : Int)), (8, .int .i64 (i : Int))]) 0 ⟨Nat.zero_le _, fun j hj => by omega⟩ (fun _ h => h.pick [0]) ⟨rfl, rfl, rfl, rfl, trivial⟩ ?_
 rintro i τ1 ⟨hi, hal⟩
 refine hSeq ?_
 refine hReg (sq 0 sz) (by kernel_rfl) ?_
 refine lss rfl rfl rfl rfl ?_
 refine rNil ?_
 refine qSeq rfl ?_
 refine hSeq ?_
 refine hIfD rfl (fun c1 => ?_) (fun c1 => ?_)
 ·
  replace c1 : (i : Int) < (nz : Int) := c1
  refine hSkip ?_
  refine qSeq rfl ?_
  refine hSeq ?_
  refine hBlk ?_
  refine hSeq ?_
  refine hReg (sq 0 (sq 1 sz)) (by kernel_rfl) ?_
  refine mvI rfl rfl rfl ?_
  refine asI rfl rfl rfl ?_
  refine rNil ?_
  refine qSeq rfl ?_
  refine hSeq ?_
  refine hDraw (Ls := [blk bkb1 90 [.int .i64 (p.getD 0 0), .int .i64 (p.getD 1 0), .int .i64 (p.getD 2 0), .int .i64 (p.getD 3 0)]]) (by kernel_rfl) (sq 0 (sq 1 (sq 2 (sq 3 (sq 4 (sq 5 sz)))))) (by kernel_rfl) (.cons_cons _ .slnil) ?_
  refine ldAq Try.isAgg90 Try.sizeOf90 (cBs 0 rfl) rfl rfl rfl rfl ?_
  refine mvS rfl rfl rfl ?_
  refine mvI rfl rfl rfl ?_
  refine ixRq (zn := i) (z.getD i []) el88 (Kn.drop (k := 1) kz) (fun _ h => h.pick [0]) rfl rfl rfl rfl (by omega) (by omega) rfl (nth [] (by omega)) ?_
  intro be1 oe1 e1
  refine ldAq Try.isAgg90 Try.sizeOf90 (e1) rfl rfl rfl rfl ?_
  refine eqlA4 eq4A rfl rfl rfl rfl ?_
  refine rNil ?_
  refine qSeq rfl ?_
  refine hIfD rfl (fun c2 => ?_) (fun c2 => ?_)
  ·
   replace c2 : [(p.getD 0 0), (p.getD 1 0), (p.getD 2 0), (p.getD 3 0)] = [((z.getD i []).getD 0 0), ((z.getD i []).getD 1 0), ((z.getD i []).getD 2 0), ((z.getD i []).getD 3 0)] := c2
   refine hSeq ?_
   refine hReg (sq 0 (sq 1 sz)) (by kernel_rfl) ?_
   refine mvI rfl rfl rfl ?_
   refine asI rfl rfl rfl ?_
   refine rNil ?_
   refine qSeq rfl ?_
   refine hRet ?_
   exact fun w hs => ⟨[.int .i64 (i : Int)], ⟨rfl, trivial⟩, ⟨vI (Iso.indexOf4_yes (by omega) (Iso.four_eq hp (hz _ (Math.getD_mem [] (show i < z.length by omega))).1 c2).symm hal).symm, hs.upd⟩⟩
  ·
   replace c2 : ¬ ([(p.getD 0 0), (p.getD 1 0), (p.getD 2 0), (p.getD 3 0)] = [((z.getD i []).getD 0 0), ((z.getD i []).getD 1 0), ((z.getD i []).getD 2 0), ((z.getD i []).getD 3 0)]) := c2
   refine hSkip ?_
   refine qSeq rfl ?_
   refine hReg (sq 0 (sq 1 sz)) (by kernel_rfl) ?_
   refine add rfl rfl rfl rfl (by omega) ?_
   refine mvI rfl rfl rfl ?_
   refine rNil ?_
   exact qNext rfl (i + 1) (by omega) ⟨by omega, Math.upto hal (fun h => c2 (by rw [h]))⟩ ⟨rfl, rfl, rfl, rfl, trivial⟩ (fun _ h => h.pick [0])
 ·
  replace c1 : ¬ ((i : Int) < (nz : Int)) := c1
  refine hExit rfl ?_
  refine qSeq rfl ?_
  refine hSeq ?_
  refine hReg (sq 0 sz) (by kernel_rfl) ?_
  refine asI rfl rfl rfl ?_
  refine rNil ?_
  refine qSeq rfl ?_
  refine hRet ?_
  exact fun w hs => ⟨[.int .i64 (-1)], ⟨rfl, trivial⟩, ⟨vI (Iso.indexOf4_no (i := i) (by omega) hal).symm, hs.upd⟩⟩
theorem slices_Contains_4_int64_4_int64_c (az : Option Addr) (nz : Nat) (cz : Nat) (Hz : Nat → Hd) (z : List (List Int)) (p : List Int) (w : World) (rz : RdR a4K az nz Hz z w) (hz : ∀ x ∈ z, Iso.isP x) (hp : p.length = 4) :
  Calls Try.prog 89 #[.slice az nz cz, .agg #[.int .i64 (p.getD 0 0), .int .i64 (p.getD 1 0), .int .i64 (p.getD 2 0), .int .i64 (p.getD 3 0)]] w (Ret fun v w' => v = .bool (z.contains p) ∧ Ext w w') := by
 have kz : Kn w none_ [] (RdR a4K az nz Hz z) := fun w' hs => rz.ext hs.upd
 have lz : z.length = nz := rz.1
 have mz : nz ≤ 9223372036854775807 := rz.2.1
 refine fn (M := none_) (rs := [.tmp 4]) Try.func89 rfl Try.ntmps89 rfl rfl (Sep.start _ _) ?_
 refine hSeq ?_
 refine hReg (sl 0 (sq 1 sz)) (by kernel_rfl) ?_
 refine box trv1 rfl rfl rfl rfl (fun bkb1 hbkb1 => ?_)
 refine asB rfl rfl rfl ?_
 refine rNil ?_
 refine qSeq rfl ?_
 refine hSeq ?_
 refine hReg (sq 0 (sl 1 (sl 2 (sq 3 (sq 4 sz))))) (by kernel_rfl) ?_
 refine mvS rfl rfl rfl ?_
 refine ldAl Try.isAgg90 Try.sizeOf90 (cBs 0 rfl) trv rfl rfl rfl rfl ?_
 refine callP (v := .int .i64 (Iso.indexOf4 z p)) Try.call131 trv rfl rfl (fun w hs => slices_Index_4_int64_4_int64_c _ _ _ _ _ _ w (Kn.drop (k := 1) kz w hs) (by assumption) (by first | assumption | omega)) ?_
 refine geq rfl rfl rfl rfl ?_
 refine asB rfl rfl rfl ?_
 refine rNil ?_
 refine qSeq rfl ?_
 refine hRet ?_
 exact fun w hs => ⟨[.bool (decide (0 ≤ (Iso.indexOf4 z p)))], ⟨rfl, trivial⟩, ⟨bB (Iso.indexOf4_neg z p), hs.upd⟩⟩
theorem impl_FixingExchanges_c (az : Option Addr) (nz : Nat) (cz : Nat) (Hz : Nat → Hd) (z : List (List Int)) (w : World) (rz : RdR maK az nz Hz z w) :
  Calls Try.prog 40 #[.slice az nz cz] w (Ret fun v w' => ∃ x : Option Addr × Nat × Nat × (Nat → Hd) × List (List Int) × Int, v = .tuple #[.slice x.1 x.2.1 x.2.2.1, .int .i64 x.2.2.2.2.2] ∧ (x.2.2.2.2.1 = Iso.feY z ∧ x.2.2.2.2.2 = Iso.codeS z) ∧ Sep w none_ [RdR maK x.1 x.2.1 x.2.2.2.1 x.2.2.2.2.1] w') := by
 have kz : Kn w none_ [] (RdR maK az nz Hz z) := fun w' hs => rz.ext hs.upd
 have lz : z.length = nz := rz.1
 have mz : nz ≤ 9223372036854775807 := rz.2.1
 refine fn (M := none_) (rs := [.tmp 2, .tmp 3]) Try.func40 rfl Try.ntmps40 rfl rfl (Sep.start _ _) ?_
 refine hSeq ?_
 refine hReg (sq 0 (sq 1 sz)) (by kernel_rfl) ?_
 refine asS rfl rfl rfl ?_
 refine asI rfl rfl rfl ?_
 refine rNil ?_
 refine qSeq rfl ?_
 refine hSeq ?_
 refine hSeq ?_
 refine hReg (sq 0 (sl 1 (sq 2 sz))) (by kernel_rfl) ?_
 refine mvS rfl rfl rfl ?_
 refine callP (v := .int .i64 (Iso.codeS z)) Try.call80 trv rfl rfl (fun w hs => impl_checkSets_c _ nz cz _ _ w (kz w hs)) ?_
 refine asI rfl rfl rfl ?_
 refine rNil ?_
 refine qSeq rfl ?_
 refine hSeq ?_
 refine hReg (sq 0 (sq 1 sz)) (by kernel_rfl) ?_
 refine mvI rfl rfl rfl ?_
 refine neq rfl rfl rfl rfl ?_
 refine rNil ?_
 refine qSeq rfl ?_
 refine hIfD rfl (fun c1 => ?_) (fun c1 => ?_)
 ·
  replace c1 : (Iso.codeS z) ≠ 0 := c1
  refine hSeq ?_
  refine hReg (sq 0 (sq 1 (sq 2 sz))) (by kernel_rfl) ?_
  refine mvI rfl rfl rfl ?_
  refine asS rfl rfl rfl ?_
  refine asI rfl rfl rfl ?_
  refine rNil ?_
  refine qSeq rfl ?_
  refine hRet ?_
  refine knP (fun _ h => Sep.nilR maK 23 90 (fun _ => (none, 0)) h) ?_
  refine knP (L' := [RdR maK none 0 ((fun _ => (none, 0))) []]) (fun _ h => h.imp 0 rfl fun _ h => OwnR.rd h maK.ok) ?_
  exact fun w hs => ⟨[.slice none 0 0, .int .i64 (Iso.codeS z)], ⟨rfl, ⟨rfl, trivial⟩⟩, ⟨(none, 0, 0, (fun _ => (none, 0)), [], (Iso.codeS z)), rfl, ⟨(Iso.feY_no c1).symm, rfl⟩, hs.pick [0]⟩⟩
 ·
  replace c1 : ¬ ((Iso.codeS z) ≠ 0) := c1
  have hc0 : Iso.codeS z = 0 := by simpa using c1
  have hfl := Iso.fixA_len z
  refine hSkip ?_
  refine qSeq rfl ?_
  refine hSeq ?_
  refine hReg (sq 0 sz) (by kernel_rfl) ?_
  refine asS rfl rfl rfl ?_
  refine rNil ?_
  refine qSeq rfl ?_
  refine hSeq ?_
  refine hSeq ?_
  refine hReg (sq 0 (sl 1 (sq 2 (sq 3 sz)))) (by kernel_rfl) ?_
  refine mvS rfl rfl rfl ?_
  refine callS Try.call90 trv1 rfl rfl (fun w hs => impl_fixing_c _ nz cz _ _ w (kz w hs) (by assumption)) ?_
  rintro ⟨ay1, ny1, cy1, Hy1, y1⟩ hr1
  dsimp only at hr1
  subst y1
  refine rKnow (fun w hs => (show OwnR a4K 90 2 ay1 ny1 cy1 Hy1 (Iso.fixA z) w from hs.at_ 0 rfl).1) (fun lenn2 => ?_)
  refine rVal (v' := .slice ay1 ny1 cy1) rfl ?_
  refine lenS Try.runUnderlying88 rfl rfl rfl ?_
  refine mvI rfl rfl rfl ?_
  refine rNil ?_
  refine qSeq rfl ?_
  refine hBlk ?_
  refine hPieces (fun _ h => Sep.nilR maK 23 90 (fun _ => (none, 0)) h) ?_
  refine hLoop (α := Nat × Nat × Hd × (Nat → Hd)) (fun x => x.1 ≤ (Iso.fixA z).length ∧ x.2.1 = x.1) (fun x => (Iso.fixA z).length - x.1) (fun x => [OwnR maK 23 90 x.2.2.1.1 x.2.1 x.2.2.1.2 x.2.2.2 (((Iso.fixA z).take x.1)), OwnR a4K 90 2 ay1 ny1 cy1 Hy1 (Iso.fixA z)]) (fun x => [(5, .slice x.2.2.1.1 x.2.1 x.2.2.1.2), (14, .slice ay1 ny1 cy1), (15, .int .i64 (ny1 : Int)), (16, .int .i64 (x.1 : Int))]) ((0, 0, ((none, 0), (fun _ => (none, 0))))) ⟨Nat.zero_le _, rfl⟩ (fun _ h => h.pick [0, 0]) ⟨rfl, rfl, rfl, rfl, trivial⟩ ?_
  rintro ⟨i, q, hd⟩ τ1 ⟨hi, hq⟩
  dsimp only at hi hq
  refine hRe [(5, .slice hd.1.1 q hd.1.2), (14, .slice ay1 ny1 cy1), (15, .int .i64 (ny1 : Int)), (16, .int .i64 (i : Int))] [OwnR maK 23 90 hd.1.1 q hd.1.2 hd.2 (((Iso.fixA z).take i)), OwnR a4K 90 2 ay1 ny1 cy1 Hy1 (Iso.fixA z)] rfl rfl ?_
  refine hSeq ?_
  refine hReg (sq 0 sz) (by kernel_rfl) ?_
  refine lss rfl rfl rfl rfl ?_
  refine rNil ?_
  refine qSeq rfl ?_
  refine hSeq ?_
  refine hIfD rfl (fun c2 => ?_) (fun c2 => ?_)
  ·
   replace c2 : (i : Int) < (ny1 : Int) := c2
   have hfe := Iso.fix4_eq (z := z) (i := i) (by omega)
   refine hSkip ?_
   refine qSeq rfl ?_
   refine hSeq ?_
   refine hBlk ?_
   refine hSeq ?_
   refine hReg (sq 0 (sl 1 (sl 2 (sl 3 sz)))) (by kernel_rfl) ?_
   refine ixRl (zn := i) ((Iso.fixA z).getD i []) el88 ((Kn.at_ 1 rfl).imp fun _ h => OwnR.rd h a4K.ok) rfl rfl rfl rfl (by omega) (by omega) rfl (nth [] (by omega)) ?_
   intro be2 oe2 e2
   refine ldAl Try.isAgg90 Try.sizeOf90 (e2) trv rfl rfl rfl rfl ?_
   refine alc Try.zeroValue90 rfl trv1 rfl rfl (fun bka4 hbka4 => ?_)
   refine stAl (vs := [.int .i64 (((((Iso.fixA z).getD i [])).getD 0 0)), .int .i64 (((((Iso.fixA z).getD i [])).getD 1 0)), .int .i64 (((((Iso.fixA z).getD i [])).getD 2 0)), .int .i64 (((((Iso.fixA z).getD i [])).getD 3 0))]) 0 rfl Try.sizeOf90 trv rfl rfl rfl rfl rfl (by simp [Value.oneCell']) rfl ?_
   refine rNil ?_
   refine qSeq rfl ?_
   refine hReg (sq 0 (sq 1 (sl 2 (sl 3 (sq 4 sz))))) (by kernel_rfl) ?_
   refine mvS rfl rfl rfl ?_
   refine slAr Try.underlying90 Try.sizeOf2 rfl rfl rfl ?_
   refine bsl trv1 rfl rfl rfl (bsl22_1 (.slice _ _ _) rfl) (fun bkl5 hbkl5 => ?_)
   refine rPieces (fun _ h => Sep.litI h 1 [((((Iso.fixA z).getD i [])).getD 0 0), ((((Iso.fixA z).getD i [])).getD 1 0), ((((Iso.fixA z).getD i [])).getD 2 0), ((((Iso.fixA z).getD i [])).getD 3 0)] rfl rfl rfl) ?_
   refine apR (hd := ((some ⟨bka4, 0, none⟩), 4)) (x := [((((Iso.fixA z).getD i [])).getD 0 0), ((((Iso.fixA z).getD i [])).getD 1 0), ((((Iso.fixA z).getD i [])).getD 2 0), ((((Iso.fixA z).getD i [])).getD 3 0)]) 2 1 0 maK.ok rfl rfl rfl (fun h => by first | rfl | (dsimp only at h; rw [h]; rfl) | (rw [h]; rfl) | exact congrArg (fun m => [Value.slice _ m _]) h) mk22 trv1 rfl rfl rfl rfl (by omega) ?_
   intro aq3 cq3
   refine asS rfl rfl rfl ?_
   refine rNil ?_
   refine qSeq rfl ?_
   refine hReg (sq 0 (sq 1 sz)) (by kernel_rfl) ?_
   refine add rfl rfl rfl rfl (by omega) ?_
   refine mvI rfl rfl rfl ?_
   refine rNil ?_
   rw [hfe, Iso.take_snocR (z := Iso.fixA z) (i := i) (by omega)]
   exact qNext rfl ((i + 1, (q + 1), ((aq3, cq3), (hset hd.2 (((Iso.fixA z).take i)).length ((some ⟨bka4, 0, none⟩), 4))))) (by dsimp only; omega) ⟨by dsimp only; omega, by dsimp only; omega⟩ ⟨rfl, rfl, rfl, rfl, trivial⟩ (fun _ h => h.pick [0, 1])
  ·
   replace c2 : ¬ ((i : Int) < (ny1 : Int)) := c2
   refine hExit rfl ?_
   refine qSeq rfl ?_
   refine hSeq ?_
   refine hReg (sq 0 (sq 1 (sq 2 sz))) (by kernel_rfl) ?_
   refine mvS rfl rfl rfl ?_
   refine asS rfl rfl rfl ?_
   refine asI rfl rfl rfl ?_
   refine rNil ?_
   refine qSeq rfl ?_
   refine hRet ?_
   refine knP (L' := [RdR maK hd.1.1 q hd.2 (((Iso.fixA z).take i)), OwnR a4K 90 2 ay1 ny1 cy1 Hy1 (Iso.fixA z)]) (fun _ h => h.imp 0 rfl fun _ h => OwnR.rd h maK.ok) ?_
   exact fun w hs => ⟨[.slice hd.1.1 q hd.1.2, .int .i64 0], ⟨rfl, ⟨rfl, trivial⟩⟩, ⟨(hd.1.1, q, hd.1.2, hd.2, ((Iso.fixA z).take i), 0), rfl, ⟨by rw [Iso.feY_yes hc0, List.take_of_length_le (by omega)], hc0.symm⟩, hs.pick [0]⟩⟩
theorem spec_FixingExchanges_c (az : Option Addr) (nz : Nat) (cz : Nat) (Hz : Nat → Hd) (z : List (List Int)) (w : World) (rz : RdR maK az nz Hz z w) :
  Calls Try.prog 41 #[.slice az nz cz] w (Ret fun v w' => ∃ x : Option Addr × Nat × Nat × (Nat → Hd) × List (List Int) × Int, v = .tuple #[.slice x.1 x.2.1 x.2.2.1, .int .i64 x.2.2.2.2.2] ∧ (x.2.2.2.2.1 = Iso.feY z ∧ x.2.2.2.2.2 = Iso.codeS z) ∧ Sep w none_ [RdR maK x.1 x.2.1 x.2.2.2.1 x.2.2.2.2.1] w') := by
 have kz : Kn w none_ [] (RdR maK az nz Hz z) := fun w' hs => rz.ext hs.upd
 have lz : z.length = nz := rz.1
 have mz : nz ≤ 9223372036854775807 := rz.2.1
 refine fn (M := none_) (rs := [.tmp 2, .tmp 3]) Try.func41 rfl Try.ntmps41 rfl rfl (Sep.start _ _) ?_
 refine hSeq ?_
 refine hReg (sq 0 (sq 1 sz)) (by kernel_rfl) ?_
 refine asS rfl rfl rfl ?_
 refine asI rfl rfl rfl ?_
 refine rNil ?_
 refine qSeq rfl ?_
 refine hSeq ?_
 refine hReg (sq 0 (sl 1 (sq 2 sz))) (by kernel_rfl) ?_
 refine mvS rfl rfl rfl ?_
 refine callP (v := .int .i64 (Iso.codeS z)) Try.call77 trv rfl rfl (fun w hs => spec_l18Code_c _ nz cz _ _ w (kz w hs)) ?_
 refine asI rfl rfl rfl ?_
 refine rNil ?_
 refine qSeq rfl ?_
 refine hSeq ?_
 refine hSeq ?_
 refine hReg (sq 0 (sq 1 sz)) (by kernel_rfl) ?_
 refine mvI rfl rfl rfl ?_
 refine neq rfl rfl rfl rfl ?_
 refine rNil ?_
 refine qSeq rfl ?_
 refine hIfD rfl (fun c1 => ?_) (fun c1 => ?_)
 ·
  replace c1 : (Iso.codeS z) ≠ 0 := c1
  refine hSeq ?_
  refine hReg (sq 0 (sq 1 (sq 2 sz))) (by kernel_rfl) ?_
  refine mvI rfl rfl rfl ?_
  refine asS rfl rfl rfl ?_
  refine asI rfl rfl rfl ?_
  refine rNil ?_
  refine qSeq rfl ?_
  refine hRet ?_
  refine knP (fun _ h => Sep.nilR maK 23 2 (fun _ => (none, 0)) h) ?_
  refine knP (L' := [RdR maK none 0 ((fun _ => (none, 0))) []]) (fun _ h => h.imp 0 rfl fun _ h => OwnR.rd h maK.ok) ?_
  exact fun w hs => ⟨[.slice none 0 0, .int .i64 (Iso.codeS z)], ⟨rfl, ⟨rfl, trivial⟩⟩, ⟨(none, 0, 0, (fun _ => (none, 0)), [], (Iso.codeS z)), rfl, ⟨(Iso.feY_no c1).symm, rfl⟩, hs.pick [0]⟩⟩
 ·
  replace c1 : ¬ ((Iso.codeS z) ≠ 0) := c1
  have hc0 : Iso.codeS z = 0 := by simpa using c1
  refine hSkip ?_
  refine qSeq rfl ?_
  refine hSeq ?_
  refine hReg (sq 0 (sl 1 (sq 2 (sq 3 sz)))) (by kernel_rfl) ?_
  refine mvS rfl rfl rfl ?_
  refine callS Try.call91 trv1 rfl rfl (fun w hs => spec_l18Fixing_c _ nz cz _ _ w (kz w hs) (by assumption)) ?_
  rintro ⟨ay1, ny1, cy1, Hy1, y1⟩ hr1
  dsimp only at hr1
  subst y1
  refine rKnow (fun w hs => (show RdR maK ay1 ny1 Hy1 (Iso.fixA z) w from hs.at_ 0 rfl).1) (fun lenn2 => ?_)
  refine rVal (v' := .slice ay1 ny1 cy1) rfl ?_
  refine asS rfl rfl rfl ?_
  refine asI rfl rfl rfl ?_
  refine rNil ?_
  refine qSeq rfl ?_
  refine hRet ?_
  exact fun w hs => ⟨[.slice ay1 ny1 cy1, .int .i64 0], ⟨rfl, ⟨rfl, trivial⟩⟩, ⟨(ay1, ny1, cy1, Hy1, (Iso.fixA z), 0), rfl, ⟨(Iso.feY_yes hc0).symm, hc0.symm⟩, hs.pick [0]⟩⟩
theorem spec_l18Exchange_c (ap : Option Addr) (np : Nat) (cp : Nat) (p : List Int) (w : World) (rp : RdI ap np p w) (hl : p.length ≤ 1000000) :
  Calls Try.prog 95 #[.slice ap np cp] w (Ret fun v w' => v = .bool (Iso.orders.contains p) ∧ Ext w w') := by
 have kp : Kn w none_ [] (RdI ap np p) := fun w' hs => rp.ext hs.upd
 have lp : p.length = np := rp.1
 have mp : np ≤ 9223372036854775807 := rp.2.1
 refine fn (M := none_) (rs := [.tmp 2]) Try.func95 rfl Try.ntmps95 rfl rfl (Sep.start _ _) ?_
 refine hSeq ?_
 refine hReg (sq 0 sz) (by kernel_rfl) ?_
 refine asB rfl rfl rfl ?_
 refine rNil ?_
 refine qSeq rfl ?_
 refine hSeq ?_
 refine hReg (sq 0 (sl 1 (sl 2 (sl 3 (sq 4 sz))))) (by kernel_rfl) ?_
 refine mvS rfl rfl rfl ?_
 refine callS Try.call130 trv1 rfl rfl (fun w hs => spec_l02Sorted_c _ np cp _ w (kp w hs) (by omega)) ?_
 rintro ⟨ay1, ny1, cy1, y1⟩ ⟨hr1a, hr1b⟩
 dsimp only at hr1a hr1b
 subst y1
 subst ny1
 refine rKnow (fun w hs => (show OwnI 2 ay1 np cy1 (srt p) w from hs.at_ 0 rfl).lenz) (fun lenn1 => ?_)
 refine bsl trv1 rfl rfl rfl (bsl23_4 (.int .i64 _) (.int .i64 _) (.int .i64 _) (.int .i64 _) rfl rfl rfl rfl) (fun bkl2 hbkl2 => ?_)
 refine callP (v := .bool (decide ((srt p) = [0, 1, 2, 3]))) Try.call129 trv rfl rfl (fun w hs => spec_l01Same_c _ np cy1 _ _ 4 4 _ w (OwnI.rd (hs.at_ 1 rfl)) (RdI.lit (zs := [0, 1, 2, 3]) (n := 4) (hs.at_ 0 rfl) rfl rfl rfl)) ?_
 refine asB rfl rfl rfl ?_
 refine rNil ?_
 refine qSeq rfl ?_
 refine hRet ?_
 exact fun w hs => ⟨[.bool (decide ((srt p) = [0, 1, 2, 3]))], ⟨rfl, trivial⟩, ⟨bB (by rw [Iso.orders_iff]), hs.upd⟩⟩
theorem spec_ExchangeCards_c (az : Option Addr) (nz : Nat) (cz : Nat) (z : List Int) (ap : Option Addr) (np : Nat) (cp : Nat) (p : List Int) (w : World) (rz : RdI az nz z w) (rp : RdI ap np p w) (hlp : p.length ≤ 1000000) :
  Calls Try.prog 43 #[.slice az nz cz, .slice ap np cp] w (Ret fun v w' => ∃ x : Option Addr × Nat × Nat × List Int × Int, v = .tuple #[.slice x.1 x.2.1 x.2.2.1, .int .i64 x.2.2.2.2] ∧ (x.2.2.2.1 = Iso.exY z p ∧ x.2.2.2.2 = Iso.exE z p) ∧ Sep w none_ [OwnI 2 x.1 x.2.1 x.2.2.1 x.2.2.2.1] w') := by
 have kz : Kn w none_ [] (RdI az nz z) := fun w' hs => rz.ext hs.upd
 have lz : z.length = nz := rz.1
 have mz : nz ≤ 9223372036854775807 := rz.2.1
 have kp : Kn w none_ [] (RdI ap np p) := fun w' hs => rp.ext hs.upd
 have lp : p.length = np := rp.1
 have mp : np ≤ 9223372036854775807 := rp.2.1
 refine fn (M := none_) (rs := [.tmp 4, .tmp 5]) Try.func43 rfl Try.ntmps43 rfl rfl (Sep.start _ _) ?_
 refine hSeq ?_
 refine hReg (sq 0 (sq 1 sz)) (by kernel_rfl) ?_
 refine asS rfl rfl rfl ?_
 refine asI rfl rfl rfl ?_
 refine rNil ?_
 refine qSeq rfl ?_
 refine hSeq ?_
 refine hSeq ?_
 refine hReg (sq 0 (sl 1 (sq 2 sz))) (by kernel_rfl) ?_
 refine mvS rfl rfl rfl ?_
 refine callP (v := .bool (Iso.areB z)) Try.call94 trv rfl rfl (fun w hs => spec_AreCards_c _ nz cz _ w (kz w hs)) ?_
 refine not rfl rfl rfl ?_
 refine rNil ?_
 refine qSeq rfl ?_
 refine hIfN rfl (fun c1 => ?_) (fun c1 => ?_)
 ·
  replace c1 : (Iso.areB z) = false := c1
  refine hSeq ?_
  refine hReg (sq 0 (sq 1 sz)) (by kernel_rfl) ?_
  refine asS rfl rfl rfl ?_
  refine asI rfl rfl rfl ?_
  refine rNil ?_
  refine qSeq rfl ?_
  refine hRet ?_
  refine knP (fun _ h => Sep.nilI 2 h) ?_
  exact fun w hs => ⟨[.slice none 0 0, .int .i64 1], ⟨rfl, ⟨rfl, trivial⟩⟩, ⟨(none, 0, 0, [], 1), rfl, ⟨(Iso.exY_no (by rw [Iso.exE_1 (by simpa using c1)]; decide)).symm, (Iso.exE_1 (by simpa using c1)).symm⟩, hs.pick [0]⟩⟩
 ·
  replace c1 : (Iso.areB z) = true := c1
  have hps := Iso.areB_P (show Iso.areB z = true by simpa using c1)
  have hpl := Iso.areP_len hps
  refine hSkip ?_
  refine qSeq rfl ?_
  refine hSeq ?_
  refine hSeq ?_
  refine hReg (sq 0 (sl 1 (sq 2 sz))) (by kernel_rfl) ?_
  refine mvS rfl rfl rfl ?_
  refine callP (v := .bool (Iso.orders.contains p)) Try.call95 trv rfl rfl (fun w hs => spec_l18Exchange_c _ np cp _ w (kp w hs) (by omega)) ?_
  refine not rfl rfl rfl ?_
  refine rNil ?_
  refine qSeq rfl ?_
  refine hIfN rfl (fun c2 => ?_) (fun c2 => ?_)
  ·
   replace c2 : (Iso.orders.contains p) = false := c2
   have hx2 : Iso.exE z p = 2 := Iso.exE_2 (by simpa using c1) (by simpa using c2)
   refine hSeq ?_
   refine hReg (sq 0 (sq 1 sz)) (by kernel_rfl) ?_
   refine asS rfl rfl rfl ?_
   refine asI rfl rfl rfl ?_
   refine rNil ?_
   refine qSeq rfl ?_
   refine hRet ?_
   refine knP (fun _ h => Sep.nilI 2 h) ?_
   exact fun w hs => ⟨[.slice none 0 0, .int .i64 2], ⟨rfl, ⟨rfl, trivial⟩⟩, ⟨(none, 0, 0, [], 2), rfl, ⟨(Iso.exY_no (by rw [hx2]; decide)).symm, hx2.symm⟩, hs.pick [0]⟩⟩
  ·
   replace c2 : (Iso.orders.contains p) = true := c2
   have hoc : Iso.orders.contains p = true := by simpa using c2
   have hx0 : Iso.exE z p = 0 := Iso.exE_0 (by simpa using c1) hoc
   have hisp := Iso.orders_isP (List.contains_iff_mem.1 hoc)
   refine hSkip ?_
   refine qSeq rfl ?_
   refine hSeq ?_
   refine hReg (sq 0 (sq 1 (sl 2 (sq 3 (sq 4 sz))))) (by kernel_rfl) ?_
   refine mvS rfl rfl rfl ?_
   refine mvS rfl rfl rfl ?_
   refine callS Try.call79 trv1 rfl rfl (fun w hs => spec_l18Image_c _ nz cz _ _ np cp _ w (kz w hs) (kp w hs) hps.1 (by omega) (by assumption)) ?_
   rintro ⟨ay1, ny1, cy1, y1⟩ ⟨hr1a, hr1b⟩
   dsimp only at hr1a hr1b
   subst y1
   subst ny1
   refine rKnow (fun w hs => (show OwnI 2 ay1 nz cy1 ((((Iso.image4 p z)))) w from hs.at_ 0 rfl).lenz) (fun lenn3 => ?_)
   refine rVal (v' := .slice ay1 nz cy1) rfl ?_
   refine asS rfl rfl rfl ?_
   refine asI rfl rfl rfl ?_
   refine rNil ?_
   refine qSeq rfl ?_
   refine hRet ?_
   exact fun w hs => ⟨[.slice ay1 nz cy1, .int .i64 0], ⟨rfl, ⟨rfl, trivial⟩⟩, ⟨(ay1, nz, cy1, (((Iso.image4 p z))), 0), rfl, ⟨by rw [Iso.exY_0 hx0], hx0.symm⟩, hs.pick [0]⟩⟩
theorem impl_ExchangeCards_c (az : Option Addr) (nz : Nat) (cz : Nat) (z : List Int) (ap : Option Addr) (np : Nat) (cp : Nat) (p : List Int) (w : World) (rz : RdI az nz z w) (rp : RdI ap np p w) :
  Calls Try.prog 38 #[.slice az nz cz, .slice ap np cp] w (Ret fun v w' => ∃ x : Option Addr × Nat × Nat × List Int × Int, v = .tuple #[.slice x.1 x.2.1 x.2.2.1, .int .i64 x.2.2.2.2] ∧ (x.2.2.2.1 = Iso.exY z p ∧ x.2.2.2.2 = Iso.exE z p) ∧ Sep w none_ [OwnI 2 x.1 x.2.1 x.2.2.1 x.2.2.2.1] w') := by
 have kz : Kn w none_ [] (RdI az nz z) := fun w' hs => rz.ext hs.upd
 have lz : z.length = nz := rz.1
 have mz : nz ≤ 9223372036854775807 := rz.2.1
 have kp : Kn w none_ [] (RdI ap np p) := fun w' hs => rp.ext hs.upd
 have lp : p.length = np := rp.1
 have mp : np ≤ 9223372036854775807 := rp.2.1
 refine fn (M := none_) (rs := [.tmp 4, .tmp 5]) Try.func38 rfl Try.ntmps38 rfl rfl (Sep.start _ _) ?_
 refine hSeq ?_
 refine hReg (sq 0 (sq 1 sz)) (by kernel_rfl) ?_
 refine asS rfl rfl rfl ?_
 refine asI rfl rfl rfl ?_
 refine rNil ?_
 refine qSeq rfl ?_
 refine hSeq ?_
 refine hSeq ?_
 refine hReg (sq 0 (sl 1 (sq 2 sz))) (by kernel_rfl) ?_
 refine mvS rfl rfl rfl ?_
 refine callP (v := .bool (Iso.areB z)) Try.call72 trv rfl rfl (fun w hs => impl_AreCards_c _ nz cz _ w (kz w hs)) ?_
 refine not rfl rfl rfl ?_
 refine rNil ?_
 refine qSeq rfl ?_
 refine hIfN rfl (fun c1 => ?_) (fun c1 => ?_)
 ·
  replace c1 : (Iso.areB z) = false := c1
  refine hSeq ?_
  refine hReg (sq 0 (sq 1 sz)) (by kernel_rfl) ?_
  refine asS rfl rfl rfl ?_
  refine asI rfl rfl rfl ?_
  refine rNil ?_
  refine qSeq rfl ?_
  refine hRet ?_
  refine knP (fun _ h => Sep.nilI 2 h) ?_
  exact fun w hs => ⟨[.slice none 0 0, .int .i64 1], ⟨rfl, ⟨rfl, trivial⟩⟩, ⟨(none, 0, 0, [], 1), rfl, ⟨(Iso.exY_no (by rw [Iso.exE_1 (by simpa using c1)]; decide)).symm, (Iso.exE_1 (by simpa using c1)).symm⟩, hs.pick [0]⟩⟩
 ·
  replace c1 : (Iso.areB z) = true := c1
  have hps := Iso.areB_P (show Iso.areB z = true by simpa using c1)
  have hpl := Iso.areP_len hps
  have lim : (Iso.image4 p z).length = nz := by rw [Iso.image4_len]; exact lz
  refine hSkip ?_
  refine qSeq rfl ?_
  refine hSeq ?_
  refine hSeq ?_
  refine hDraw (Ls := []) (by kernel_rfl) (sq 0 (sq 1 (sq 2 (sq 3 (sq 5 (sq 6 (sq 7 (sl 4 (sl 8 (sq 9 (sq 10 sz))))))))))) (by kernel_rfl) .slnil ?_
  refine mvS rfl rfl rfl ?_
  refine lenS Try.runUnderlying23 rfl rfl rfl ?_
  refine neq rfl rfl rfl rfl ?_
  refine mvB rfl rfl rfl ?_
  refine rBoolD (d := 15) rfl (fun g2 => ?_) (fun g2 => ?_)
  ·
   replace g2 : (np : Int) ≠ 4 := g2
   have hx2 : Iso.exE z p = 2 := Iso.exE_2 (by simpa using c1) (Iso.ord_len (by omega))
   refine rSkipQ rfl rfl ?_
   refine rSkipQ rfl rfl ?_
   refine rSkipQ rfl rfl ?_
   refine rSkipL (fun _ h => h.pick []) rfl rfl ?_
   refine rSkipL (fun _ h => h.pick []) rfl rfl ?_
   refine rSkipQ rfl rfl ?_
   refine pickB rfl rfl rfl rfl ?_
   refine rNil ?_
   refine qSeq rfl ?_
   refine hIfT rfl ?_
   refine hSeq ?_
   refine hReg (sq 0 (sq 1 sz)) (by kernel_rfl) ?_
   refine asS rfl rfl rfl ?_
   refine asI rfl rfl rfl ?_
   refine rNil ?_
   refine qSeq rfl ?_
   refine hRet ?_
   refine knP (fun _ h => Sep.nilI 2 h) ?_
   exact fun w hs => ⟨[.slice none 0 0, .int .i64 2], ⟨rfl, ⟨rfl, trivial⟩⟩, ⟨(none, 0, 0, [], 2), rfl, ⟨(Iso.exY_no (by rw [hx2]; decide)).symm, hx2.symm⟩, hs.pick [0]⟩⟩
  ·
   replace g2 : ¬ ((np : Int) ≠ 4) := g2
   refine mvS rfl rfl rfl ?_
   refine sapq (zs := p) Try.underlying90 (kp) (fun _ h => h.pick []) rfl rfl rfl rfl (by omega) ?_
   intro be1 oe1 e1
   refine ldAq Try.isAgg90 Try.sizeOf90 (e1) rfl rfl rfl rfl ?_
   refine callS Try.call81 (by exact (fun _ _ h => h.pick [])) rfl rfl (fun w hs => impl_suitOrders_c  w ) ?_
   rintro ⟨ay2, ny2, cy2, Hy2, y2⟩ hr2
   dsimp only at hr2
   subst y2
   refine rKnow (fun w hs => (show OwnR a4K 90 2 ay2 ny2 cy2 Hy2 Iso.orders w from hs.at_ 0 rfl).1) (fun lenn3 => ?_)
   refine rVal (v' := .slice ay2 ny2 cy2) rfl ?_
   refine callP (v := .bool (Iso.orders.contains p)) Try.call89 (fun _ h => h.pick []) rfl rfl (fun w hs => slices_Contains_4_int64_4_int64_c _ ny2 cy2 _ _ _ w (OwnR.rd (hs.at_ 0 rfl) a4K.ok) (fun x hx => Iso.orders_isP hx) (by first | assumption | omega)) ?_
   refine not rfl rfl rfl ?_
   refine pickB rfl rfl rfl rfl ?_
   refine rNil ?_
   refine qSeq rfl ?_
   refine hIfN rfl (fun c3 => ?_) (fun c3 => ?_)
   ·
    replace c3 : (Iso.orders.contains p) = false := c3
    have hx2 : Iso.exE z p = 2 := Iso.exE_2 (by simpa using c1) (by simpa using c3)
    refine hSeq ?_
    refine hReg (sq 0 (sq 1 sz)) (by kernel_rfl) ?_
    refine asS rfl rfl rfl ?_
    refine asI rfl rfl rfl ?_
    refine rNil ?_
    refine qSeq rfl ?_
    refine hRet ?_
    refine knP (fun _ h => Sep.nilI 2 h) ?_
    exact fun w hs => ⟨[.slice none 0 0, .int .i64 2], ⟨rfl, ⟨rfl, trivial⟩⟩, ⟨(none, 0, 0, [], 2), rfl, ⟨(Iso.exY_no (by rw [hx2]; decide)).symm, hx2.symm⟩, hs.pick [0]⟩⟩
   ·
    replace c3 : (Iso.orders.contains p) = true := c3
    have hoc : Iso.orders.contains p = true := by simpa using c3
    have hx0 : Iso.exE z p = 0 := Iso.exE_0 (by simpa using c1) hoc
    have hisp := Iso.orders_isP (List.contains_iff_mem.1 hoc)
    refine hSkip ?_
    refine qSeq rfl ?_
    refine hSeq ?_
    refine hReg (sq 0 (sq 1 (sl 2 (sq 3 sz)))) (by kernel_rfl) ?_
    refine mvS rfl rfl rfl ?_
    refine lenS Try.runUnderlying23 rfl rfl rfl ?_
    refine mksI nz mk23 trv1 rfl rfl rfl rfl (rfl) (by omega) (fun bkm5 hbkm5 => ?_)
    refine asS rfl rfl rfl ?_
    refine rNil ?_
    refine qSeq rfl ?_
    refine hSeq ?_
    refine hSeq ?_
    refine hReg (sq 0 (sq 1 (sq 2 sz))) (by kernel_rfl) ?_
    refine mvS rfl rfl rfl ?_
    refine lenS Try.runUnderlying23 rfl rfl rfl ?_
    refine mvI rfl rfl rfl ?_
    refine rNil ?_
    refine qSeq rfl ?_
    refine hBlk ?_
    rw [Math.fill_start (Iso.image4 p z) nz 0]
    refine hLoop (α := Nat) (fun i => i ≤ nz) (fun i => nz - i) (fun i => [OwnI 2 (some ⟨bkm5, 0, none⟩) nz nz (((Iso.image4 p z).take i ++ List.replicate (nz - i) 0)), OwnR a4K 90 2 ay2 ny2 cy2 Hy2 Iso.orders]) (fun i => [(1, .slice ap np cp), (6, .slice (some ⟨bkm5, 0, none⟩) nz nz), (26, .slice az nz cz), (27, .int .i64 (nz : Int)), (28, .int .i64 (i : Int))]) 0 (Nat.zero_le _) (fun _ h => h.pick [0, 0]) ⟨rfl, rfl, rfl, rfl, rfl, trivial⟩ ?_
    rintro i τ1 hi
    refine hSeq ?_
    refine hReg (sq 0 sz) (by kernel_rfl) ?_
    refine lss rfl rfl rfl rfl ?_
    refine rNil ?_
    refine qSeq rfl ?_
    refine hSeq ?_
    refine hIfD rfl (fun c4 => ?_) (fun c4 => ?_)
    ·
     replace c4 : (i : Int) < (nz : Int) := c4
     have hx := hps.1 _ (Math.getD_mem 0 (show i < z.length by omega))
     have hpx := hisp.2 ((z.getD i 0) % 4).toNat
     refine hSkip ?_
     refine qSeq rfl ?_
     refine hSeq ?_
     refine hBlk ?_
     refine hSeq ?_
     refine hReg (sq 0 (sq 1 (sl 2 (sq 3 (sq 4 sz))))) (by kernel_rfl) ?_
     refine mvI rfl rfl rfl ?_
     refine ixIl (zn := i) el23 (Kn.drop (k := 2) kz) rfl rfl rfl rfl (by omega) (by omega) rfl ?_
     intro ae3 e3
     refine ldl Try.isAgg2 (e3) trv rfl rfl rfl ?_
     refine asI rfl rfl rfl ?_
     refine asI rfl rfl rfl ?_
     refine rNil ?_
     refine qSeq rfl ?_
     refine hReg (sq 0 (sq 1 (sq 2 (sq 3 (sq 4 (sq 5 (sq 6 (sq 7 (sq 8 (sl 9 (sq 10 (sq 11 (sl 12 sz))))))))))))) (by kernel_rfl) ?_
     refine mvS rfl rfl rfl ?_
     refine mvI rfl rfl rfl ?_
     refine mvI rfl rfl rfl ?_
     refine quo rfl rfl rfl rfl (by omega) ?_
     refine mul rfl rfl rfl rfl (by omega) ?_
     refine mvS rfl rfl rfl ?_
     refine mvI rfl rfl rfl ?_
     refine rem rfl rfl rfl rfl (by omega) ?_
     refine ixIl (zn := (((z.getD i 0) % 4)).toNat) el23 (Kn.drop (k := 2) kp) rfl rfl rfl rfl (by omega) (by omega) rfl ?_
     intro ae4 e4
     refine ldl Try.isAgg2 (e4) trv rfl rfl rfl ?_
     refine add rfl rfl rfl rfl (by omega) ?_
     refine oxI (zn := i) 0 rfl el23 rfl rfl rfl rfl (by omega) (by omega) rfl ?_
     intro gk5 hgk5
     refine stoI (off := i) (x := ((((z.getD i 0) / 4) * 4) + (p.getD ((((z.getD i 0) % 4)).toNat) 0))) 0 rfl hgk5 Try.sizeOf2 trv rfl rfl rfl rfl (by omega) ?_
     refine rNil ?_
     refine qSeq rfl ?_
     refine hReg (sq 0 (sq 1 sz)) (by kernel_rfl) ?_
     refine add rfl rfl rfl rfl (by omega) ?_
     refine mvI rfl rfl rfl ?_
     refine rNil ?_
     rw [show (((((z.getD i 0) / 4) * 4) + (p.getD ((((z.getD i 0) % 4)).toNat) 0))) = (Iso.image4 p z).getD i 0 from (Iso.image4_at (by omega)).symm, Math.fill_step 0 0 lim (by omega)]
     exact qNext rfl (i + 1) (by omega) (by omega) ⟨rfl, rfl, rfl, rfl, rfl, trivial⟩ (fun _ h => h.pick [0, 0])
    ·
     replace c4 : ¬ ((i : Int) < (nz : Int)) := c4
     refine hExit rfl ?_
     refine qSeq rfl ?_
     refine hSeq ?_
     refine hReg (sq 0 (sq 1 (sq 2 sz))) (by kernel_rfl) ?_
     refine mvS rfl rfl rfl ?_
     refine asS rfl rfl rfl ?_
     refine asI rfl rfl rfl ?_
     refine rNil ?_
     refine qSeq rfl ?_
     refine hRet ?_
     exact fun w hs => ⟨[.slice (some ⟨bkm5, 0, none⟩) nz nz, .int .i64 0], ⟨rfl, ⟨rfl, trivial⟩⟩, ⟨((some ⟨bkm5, 0, none⟩), nz, nz, ((Iso.image4 p z).take i ++ List.replicate (nz - i) 0), 0), rfl, ⟨by rw [Iso.exY_0 hx0]; exact Math.fill_end 0 lim (by omega), hx0.symm⟩, hs.pick [0]⟩⟩
end Go.Proofs.Yteaahdakammffaa
/- Contracts of what laws on same deals call. Their conditions stand in each. -/
namespace Go.Proofs.Yteaahdakammffaa
open Go Go.RowKit V
set_option linter.unusedVariables false
set_option linter.unusedSimpArgs false
set_option maxRecDepth 100000
theorem bsl23_3 (v0 v1 v2 : Value) (h0 : v0.cells = #[v0]) (h1 : v1.cells = #[v1]) (h2 : v2.cells = #[v2]) : ∀ w, (Instr.buildSlice 23 3 ([(0, v0), (1, v1), (2, v2)] : List (Nat × Value)).toArray).run Try.prog w = .ok (.slice (some ⟨w.heap.size, 0, none⟩) 3 3) (w.alloc (.cells ([v0, v1, v2] : List Value).toArray 2)) := by
 intro w; simp [Instr.buildSlice, Instr.fill, Try.zeroValue2, Try.runUnderlying23, Try.sizeOf2, Value.cells_int, newRow, show Array.range 3 = #[0, 1, 2] from by decide, h0, h1, h2]
theorem laws_big_c (ca : Option Addr) (bs : List Int) (cc : Nat) (w : World) (rcode : CellsAt ca (bs.map (Value.int .u8)) w) :
  Calls Try.prog 19 #[.slice ca bs.length cc] w (Ret fun v w' => v = .bool (decide (4096 < ((bs.length : Nat) : Int))) ∧ Ext w w') := by
 have kcode : Kn w none_ [] (CellsAt ca (bs.map (Value.int .u8))) := fun w' hs => rcode.ext hs.upd
 refine fn (M := none_) (rs := [.tmp 2]) Try.func19 rfl Try.ntmps19 rfl rfl (Sep.start _ _) ?_
 refine hSeq ?_
 refine hReg (sq 0 sz) (by kernel_rfl) ?_
 refine asB rfl rfl rfl ?_
 refine rNil ?_
 refine qSeq rfl ?_
 refine hSeq ?_
 refine hReg (sq 0 (sq 1 (sq 2 (sq 3 sz)))) (by kernel_rfl) ?_
 refine mvS rfl rfl rfl ?_
 refine lenS Try.runUnderlying32 rfl rfl rfl ?_
 refine gtr rfl rfl rfl rfl ?_
 refine asB rfl rfl rfl ?_
 refine rNil ?_
 refine qSeq rfl ?_
 refine hRet ?_
 exact fun w hs => ⟨[.bool (decide (4096 < ((bs.length : Nat) : Int)))], ⟨rfl, trivial⟩, ⟨by first | rfl | exact bD (by omega) | exact bT (by omega) | exact bF (by omega) | exact vI (by omega), hs.upd⟩⟩
theorem laws_likeInts_c (az : Option Addr) (nz : Nat) (cz : Nat) (z : List Int) (ay : Option Addr) (ny : Nat) (cy : Nat) (y : List Int) (w : World) (rz : RdI az nz z w) (ry : RdI ay ny y w) (heq : z = y) :
  Calls Try.prog 23 #[.slice az nz cz, .slice ay ny cy] w (Ret fun v w' => v = .bool true ∧ Ext w w') := by
 have kz : Kn w none_ [] (RdI az nz z) := fun w' hs => rz.ext hs.upd
 have lz : z.length = nz := rz.1
 have mz : nz ≤ 9223372036854775807 := rz.2.1
 have ky : Kn w none_ [] (RdI ay ny y) := fun w' hs => ry.ext hs.upd
 have ly : y.length = ny := ry.1
 have my : ny ≤ 9223372036854775807 := ry.2.1
 refine fn (M := none_) (rs := [.tmp 4]) Try.func23 rfl Try.ntmps23 rfl rfl (Sep.start _ _) ?_
 refine hSeq ?_
 refine hReg (sq 0 sz) (by kernel_rfl) ?_
 refine asB rfl rfl rfl ?_
 refine rNil ?_
 refine qSeq rfl ?_
 refine hSeq ?_
 refine hSeq ?_
 refine hReg (sq 0 (sq 1 (sq 2 (sq 3 (sq 4 sz))))) (by kernel_rfl) ?_
 refine mvS rfl rfl rfl ?_
 refine lenS Try.runUnderlying23 rfl rfl rfl ?_
 refine mvS rfl rfl rfl ?_
 refine lenS Try.runUnderlying23 rfl rfl rfl ?_
 refine neq rfl rfl rfl rfl ?_
 refine rNil ?_
 refine qSeq rfl ?_
 refine hIfD rfl (fun c1 => ?_) (fun c1 => ?_)
 ·
  replace c1 : (nz : Int) ≠ (ny : Int) := c1
  exact absurd c1 (by rw [heq] at lz; omega)
 ·
  replace c1 : ¬ ((nz : Int) ≠ (ny : Int)) := c1
  refine hSkip ?_
  refine qSeq rfl ?_
  refine hSeq ?_
  refine hSeq ?_
  refine hReg (sq 0 sz) (by kernel_rfl) ?_
  refine asI rfl rfl rfl ?_
  refine rNil ?_
  refine qSeq rfl ?_
  refine hBlk ?_
  refine hLoop (α := Nat) (fun i => i ≤ nz) (fun i => nz - i) (fun i => []) (fun i => [(0, .slice az nz cz), (1, .slice ay ny cy), (5, .int .i64 (i : Int))]) 0 (Nat.zero_le _) (fun _ h => h.pick []) ⟨rfl, rfl, rfl, trivial⟩ ?_
  rintro i τ1 hi
  refine hSeq ?_
  refine hSeq ?_
  refine hReg (sq 0 (sq 1 (sq 2 (sq 3 sz)))) (by kernel_rfl) ?_
  refine mvI rfl rfl rfl ?_
  refine mvS rfl rfl rfl ?_
  refine lenS Try.runUnderlying23 rfl rfl rfl ?_
  refine lss rfl rfl rfl rfl ?_
  refine rNil ?_
  refine qSeq rfl ?_
  refine hIfD rfl (fun c2 => ?_) (fun c2 => ?_)
  ·
   replace c2 : (i : Int) < (nz : Int) := c2
   refine hSkip ?_
   refine qSeq rfl ?_
   refine hSeq ?_
   refine hBlk ?_
   refine hSeq ?_
   refine hDraw (Ls := []) (by kernel_rfl) (sq 0 (sq 1 (sq 2 (sq 3 (sq 4 (sq 5 (sq 6 (sq 7 (sq 8 sz))))))))) (by kernel_rfl) .slnil ?_
   refine mvS rfl rfl rfl ?_
   refine mvI rfl rfl rfl ?_
   refine ixIq (zn := i) el23 (kz) (fun _ h => h.pick []) rfl rfl rfl rfl (by omega) (by omega) rfl ?_
   intro ae1 e1
   refine ldq Try.isAgg2 (e1) rfl rfl rfl ?_
   refine mvS rfl rfl rfl ?_
   refine mvI rfl rfl rfl ?_
   refine ixIq (zn := i) el23 (ky) (fun _ h => h.pick []) rfl rfl rfl rfl (by omega) (by omega) rfl ?_
   intro ae2 e2
   refine ldq Try.isAgg2 (e2) rfl rfl rfl ?_
   refine neq rfl rfl rfl rfl ?_
   refine rNil ?_
   refine qSeq rfl ?_
   refine hIfD rfl (fun c3 => ?_) (fun c3 => ?_)
   ·
    replace c3 : (z.getD i 0) ≠ (y.getD i 0) := c3
    exact absurd (by rw [heq]) c3
   ·
    replace c3 : ¬ ((z.getD i 0) ≠ (y.getD i 0)) := c3
    refine hSkip ?_
    refine qSeq rfl ?_
    refine hReg (sq 0 (sq 1 (sq 2 sz))) (by kernel_rfl) ?_
    refine mvI rfl rfl rfl ?_
    refine add rfl rfl rfl rfl (by omega) ?_
    refine asI rfl rfl rfl ?_
    refine rNil ?_
    exact qNext rfl (i + 1) (by omega) (by omega) ⟨rfl, rfl, rfl, trivial⟩ (fun _ h => h.pick [])
  ·
   replace c2 : ¬ ((i : Int) < (nz : Int)) := c2
   refine hExit rfl ?_
   refine qSeq rfl ?_
   refine hSeq ?_
   refine hReg (sq 0 sz) (by kernel_rfl) ?_
   refine asB rfl rfl rfl ?_
   refine rNil ?_
   refine qSeq rfl ?_
   refine hRet ?_
   exact fun w hs => ⟨[.bool true], ⟨rfl, trivial⟩, ⟨by first | rfl | exact bD (by omega) | exact bT (by omega) | exact bF (by omega) | exact vI (by omega), hs.upd⟩⟩
theorem laws_likeLists_c (az : Option Addr) (nz : Nat) (cz : Nat) (Hz : Nat → Hd) (z : List (List Int)) (ay : Option Addr) (ny : Nat) (cy : Nat) (Hy : Nat → Hd) (y : List (List Int)) (w : World) (rz : RdR maK az nz Hz z w) (ry : RdR maK ay ny Hy y w) (heq : z = y) :
  Calls Try.prog 44 #[.slice az nz cz, .slice ay ny cy] w (Ret fun v w' => v = .bool true ∧ Ext w w') := by
 have kz : Kn w none_ [] (RdR maK az nz Hz z) := fun w' hs => rz.ext hs.upd
 have lz : z.length = nz := rz.1
 have mz : nz ≤ 9223372036854775807 := rz.2.1
 have ky : Kn w none_ [] (RdR maK ay ny Hy y) := fun w' hs => ry.ext hs.upd
 have ly : y.length = ny := ry.1
 have my : ny ≤ 9223372036854775807 := ry.2.1
 refine fn (M := none_) (rs := [.tmp 4]) Try.func44 rfl Try.ntmps44 rfl rfl (Sep.start _ _) ?_
 refine hSeq ?_
 refine hReg (sq 0 sz) (by kernel_rfl) ?_
 refine asB rfl rfl rfl ?_
 refine rNil ?_
 refine qSeq rfl ?_
 refine hSeq ?_
 refine hSeq ?_
 refine hReg (sq 0 (sq 1 (sq 2 (sq 3 (sq 4 sz))))) (by kernel_rfl) ?_
 refine mvS rfl rfl rfl ?_
 refine lenS Try.runUnderlying22 rfl rfl rfl ?_
 refine mvS rfl rfl rfl ?_
 refine lenS Try.runUnderlying22 rfl rfl rfl ?_
 refine neq rfl rfl rfl rfl ?_
 refine rNil ?_
 refine qSeq rfl ?_
 refine hIfD rfl (fun c1 => ?_) (fun c1 => ?_)
 ·
  replace c1 : (nz : Int) ≠ (ny : Int) := c1
  exact absurd c1 (by rw [heq] at lz; omega)
 ·
  replace c1 : ¬ ((nz : Int) ≠ (ny : Int)) := c1
  refine hSkip ?_
  refine qSeq rfl ?_
  refine hSeq ?_
  refine hSeq ?_
  refine hReg (sq 0 sz) (by kernel_rfl) ?_
  refine asI rfl rfl rfl ?_
  refine rNil ?_
  refine qSeq rfl ?_
  refine hBlk ?_
  refine hLoop (α := Nat) (fun i => i ≤ nz) (fun i => nz - i) (fun i => []) (fun i => [(0, .slice az nz cz), (1, .slice ay ny cy), (5, .int .i64 (i : Int))]) 0 (Nat.zero_le _) (fun _ h => h.pick []) ⟨rfl, rfl, rfl, trivial⟩ ?_
  rintro i τ1 hi
  refine hSeq ?_
  refine hSeq ?_
  refine hReg (sq 0 (sq 1 (sq 2 (sq 3 sz)))) (by kernel_rfl) ?_
  refine mvI rfl rfl rfl ?_
  refine mvS rfl rfl rfl ?_
  refine lenS Try.runUnderlying22 rfl rfl rfl ?_
  refine lss rfl rfl rfl rfl ?_
  refine rNil ?_
  refine qSeq rfl ?_
  refine hIfD rfl (fun c2 => ?_) (fun c2 => ?_)
  ·
   replace c2 : (i : Int) < (nz : Int) := c2
   refine hSkip ?_
   refine qSeq rfl ?_
   refine hSeq ?_
   refine hBlk ?_
   refine hSeq ?_
   refine hDraw (Ls := []) (by kernel_rfl) (sq 0 (sq 1 (sq 2 (sq 3 (sq 4 (sq 5 (sq 6 (sq 7 (sl 8 (sq 9 sz)))))))))) (by kernel_rfl) .slnil ?_
   refine mvS rfl rfl rfl ?_
   refine mvI rfl rfl rfl ?_
   refine ixRq (zn := i) (z.getD i []) el22 (kz) (fun _ h => h.pick []) rfl rfl rfl rfl (by omega) (by omega) rfl (nth [] (by omega)) ?_
   intro be1 oe1 e1
   refine ldq Try.isAgg23 (Kn.fld e1 0 rfl) rfl rfl rfl ?_
   refine mvS rfl rfl rfl ?_
   refine mvI rfl rfl rfl ?_
   refine ixRq (zn := i) (y.getD i []) el22 (ky) (fun _ h => h.pick []) rfl rfl rfl rfl (by omega) (by omega) rfl (nth [] (by omega)) ?_
   intro be2 oe2 e2
   refine ldq Try.isAgg23 (Kn.fld e2 0 rfl) rfl rfl rfl ?_
   refine callP (v := .bool true) Try.call23 (fun _ h => h.pick []) rfl rfl (fun w hs => laws_likeInts_c _ _ _ _ _ _ _ _ w ((Kn.imp kz fun _ h => h.kidM (nth [] (by omega))) w hs) ((Kn.imp ky fun _ h => h.kidM (nth [] (by omega))) w hs) (by rw [heq])) ?_
   refine not rfl rfl rfl ?_
   refine rNil ?_
   refine qSeq rfl ?_
   refine hIfF rfl ?_
   refine hSkip ?_
   refine qSeq rfl ?_
   refine hReg (sq 0 (sq 1 (sq 2 sz))) (by kernel_rfl) ?_
   refine mvI rfl rfl rfl ?_
   refine add rfl rfl rfl rfl (by omega) ?_
   refine asI rfl rfl rfl ?_
   refine rNil ?_
   exact qNext rfl (i + 1) (by omega) (by omega) ⟨rfl, rfl, rfl, trivial⟩ (fun _ h => h.pick [])
  ·
   replace c2 : ¬ ((i : Int) < (nz : Int)) := c2
   refine hExit rfl ?_
   refine qSeq rfl ?_
   refine hSeq ?_
   refine hReg (sq 0 sz) (by kernel_rfl) ?_
   refine asB rfl rfl rfl ?_
   refine rNil ?_
   refine qSeq rfl ?_
   refine hRet ?_
   exact fun w hs => ⟨[.bool true], ⟨rfl, trivial⟩, ⟨by first | rfl | exact bD (by omega) | exact bT (by omega) | exact bF (by omega) | exact vI (by omega), hs.upd⟩⟩
theorem laws_hasInt_c (az : Option Addr) (nz : Nat) (cz : Nat) (z : List Int) (x0 : Int) (w : World) (rz : RdI az nz z w) :
  Calls Try.prog 29 #[.slice az nz cz, .int .i64 x0] w (Ret fun v w' => v = .bool (z.contains x0) ∧ Ext w w') := by
 have kz : Kn w none_ [] (RdI az nz z) := fun w' hs => rz.ext hs.upd
 have lz : z.length = nz := rz.1
 have mz : nz ≤ 9223372036854775807 := rz.2.1
 refine fn (M := none_) (rs := [.tmp 4]) Try.func29 rfl Try.ntmps29 rfl rfl (Sep.start _ _) ?_
 refine hSeq ?_
 refine hReg (sq 0 sz) (by kernel_rfl) ?_
 refine asB rfl rfl rfl ?_
 refine rNil ?_
 refine qSeq rfl ?_
 refine hSeq ?_
 refine hSeq ?_
 refine hReg (sq 0 sz) (by kernel_rfl) ?_
 refine asI rfl rfl rfl ?_
 refine rNil ?_
 refine qSeq rfl ?_
 refine hBlk ?_
 refine hLoop (α := Nat) (fun i => i ≤ nz ∧ x0 ∉ z.take i) (fun i => nz - i) (fun i => []) (fun i => [(0, .slice az nz cz), (1, .int .i64 x0), (5, .int .i64 (i : Int))]) 0 ⟨Nat.zero_le _, by simp⟩ (fun _ h => h.pick []) ⟨rfl, rfl, rfl, trivial⟩ ?_
 rintro i τ1 ⟨hi, hal⟩
 refine hSeq ?_
 refine hSeq ?_
 refine hReg (sq 0 (sq 1 (sq 2 (sq 3 sz)))) (by kernel_rfl) ?_
 refine mvI rfl rfl rfl ?_
 refine mvS rfl rfl rfl ?_
 refine lenS Try.runUnderlying23 rfl rfl rfl ?_
 refine lss rfl rfl rfl rfl ?_
 refine rNil ?_
 refine qSeq rfl ?_
 refine hIfD rfl (fun c1 => ?_) (fun c1 => ?_)
 ·
  replace c1 : (i : Int) < (nz : Int) := c1
  refine hSkip ?_
  refine qSeq rfl ?_
  refine hSeq ?_
  refine hBlk ?_
  refine hSeq ?_
  refine hReg (sq 0 (sq 1 (sq 2 (sl 3 (sq 4 (sq 5 sz)))))) (by kernel_rfl) ?_
  refine mvS rfl rfl rfl ?_
  refine mvI rfl rfl rfl ?_
  refine ixIl (zn := i) el23 (kz) rfl rfl rfl rfl (by omega) (by omega) rfl ?_
  intro ae1 e1
  refine ldl Try.isAgg2 (e1) trv rfl rfl rfl ?_
  refine mvI rfl rfl rfl ?_
  refine eql rfl rfl rfl rfl ?_
  refine rNil ?_
  refine qSeq rfl ?_
  refine hIfD rfl (fun c2 => ?_) (fun c2 => ?_)
  ·
   replace c2 : (z.getD i 0) = x0 := c2
   refine hSeq ?_
   refine hReg (sq 0 sz) (by kernel_rfl) ?_
   refine asB rfl rfl rfl ?_
   refine rNil ?_
   refine qSeq rfl ?_
   refine hRet ?_
   exact fun w hs => ⟨[.bool true], ⟨rfl, trivial⟩, ⟨bB (Iso.has_yes (i := i) (by omega) (by assumption)).symm, hs.upd⟩⟩
  ·
   replace c2 : ¬ ((z.getD i 0) = x0) := c2
   refine hSkip ?_
   refine qSeq rfl ?_
   refine hReg (sq 0 (sq 1 (sq 2 sz))) (by kernel_rfl) ?_
   refine mvI rfl rfl rfl ?_
   refine add rfl rfl rfl rfl (by omega) ?_
   refine asI rfl rfl rfl ?_
   refine rNil ?_
   exact qNext rfl (i + 1) (by omega) ⟨by omega, Iso.not_snoc (by omega) hal (by assumption)⟩ ⟨rfl, rfl, rfl, trivial⟩ (fun _ h => h.pick [])
 ·
  replace c1 : ¬ ((i : Int) < (nz : Int)) := c1
  refine hExit rfl ?_
  refine qSeq rfl ?_
  refine hSeq ?_
  refine hReg (sq 0 sz) (by kernel_rfl) ?_
  refine asB rfl rfl rfl ?_
  refine rNil ?_
  refine qSeq rfl ?_
  refine hRet ?_
  exact fun w hs => ⟨[.bool false], ⟨rfl, trivial⟩, ⟨bB (Iso.has_no (i := i) (by omega) hal).symm, hs.upd⟩⟩
end Go.Proofs.Yteaahdakammffaa
