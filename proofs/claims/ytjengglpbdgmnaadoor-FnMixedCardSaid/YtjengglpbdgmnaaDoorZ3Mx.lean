/- Contracts of the sources of draws. Their conditions stand in each. -/
import Derived.Test.YtjengglpbdgmnaaDoorZ2Mx
import Derived.Test.YtjengglpbdgmnaaDoorZ0Mx
import Derived.Test.YtjengglpbdgmnaaDoorZ1Mx
import Derived.Test.YtjengglpbdgmnaaDoorRows
namespace Go.Proofs.YtjengglpbdgmnaaDoor
open Go Go.RowKit V
set_option linter.unusedVariables false
set_option linter.unusedSimpArgs false
set_option maxRecDepth 100000
theorem fl90_0 : Fld Tryd.prog 90 0 0 := by
 intro w ad; simp [Instr.fieldAt, Tryd.runUnderlying90, Instr.sureAddr, fieldPlace, Tryd.sizeOf22]
theorem fl90_1 : Fld Tryd.prog 90 1 1 := by
 intro w ad; simp [Instr.fieldAt, Tryd.runUnderlying90, Instr.sureAddr, fieldPlace, Tryd.sizeOf3]
theorem fl90_2 : Fld Tryd.prog 90 2 2 := by
 intro w ad; simp [Instr.fieldAt, Tryd.runUnderlying90, Instr.sureAddr, fieldPlace, Tryd.sizeOf2]
theorem el22 : Elt Tryd.prog 22 1 := ⟨5, Tryd.runUnderlying22, Tryd.sizeOf5⟩
theorem el50 : Elt Tryd.prog 50 1 := ⟨2, Tryd.runUnderlying50, Tryd.sizeOf2⟩
theorem bld90_0_2 (v0 v2 : Value) (h0 : v0.cells = #[v0]) (h2 : v2.cells = #[v2]) : ∀ w, (Instr.build 90 ([(0, v0), (2, v2)] : List (Nat × Value)).toArray).run Tryd.prog w = .ok (.agg ([v0, .int .i64 0, v2] : List Value).toArray) w := by
 intro w; simp [Instr.build, Instr.fill, Tryd.zeroValue90, Tryd.runUnderlying90, aggCells, Tryd.sizeOf2, Tryd.sizeOf3, Tryd.sizeOf22, h0, h2]
theorem l01Next_c (bk : Nat) (ca : Option Addr) (bs : List Int) (cc : Nat) (n : Int) (w : World) (hs0 : SrcIn bk ca bs cc w) :
  Calls Tryd.prog 24 #[.pointer (some ⟨bk, 0, none⟩), .int .i64 n] w (Ret fun v w' => ∃ x : Int, v = .int .i64 x ∧ (0 ≤ x ∧ (x < n ∨ x = 0)) ∧ Upd (fun k => k = bk) w w' ∧ srcP bk ca bs cc w') := by
 obtain ⟨⟨p, s, hb, h1, h2, h3, h4⟩, hcode, hok⟩ := hs0
 have hK : Kn w (fun k => k = bk) [] (CellsAt ca (bs.map (Value.int .u8))) := fun w' hs => hcode w' hs.upd
 have hl := hok.2
 refine fn (M := (fun k => k = bk)) (rs := [.tmp 4]) Tryd.func24 rfl Tryd.ntmps24 rfl rfl (Sep.startB hb) ?_
 refine hSeq ?_
 refine hReg (sq 0 sz) (by kernel_rfl) ?_
 refine asI rfl rfl rfl ?_
 refine rNil ?_
 refine qSeq rfl ?_
 refine hSeq ?_
 refine hSeq ?_
 refine hReg (sq 0 (sq 1 sz)) (by kernel_rfl) ?_
 refine mvI rfl rfl rfl ?_
 refine leq rfl rfl rfl rfl ?_
 refine rNil ?_
 refine qSeq rfl ?_
 refine hIfD rfl (fun c1 => ?_) (fun c1 => ?_)
 ·
  refine hSeq ?_
  refine hReg (sq 0 sz) (by kernel_rfl) ?_
  refine asI rfl rfl rfl ?_
  refine rNil ?_
  refine qSeq rfl ?_
  refine hRet ?_
  exact fun w hs => ⟨[.int .i64 _], ⟨rfl, trivial⟩, ⟨_, rfl, ⟨by omega, by omega⟩, hs.upd, ⟨_, _, hs.at_ 0 rfl, by omega, by omega, by omega, by omega⟩⟩⟩
 ·
  refine hSkip ?_
  refine qSeq rfl ?_
  refine hSeq ?_
  refine hReg (sq 0 (sq 1 (sq 2 (sq 3 (sl 4 (sq 5 (sq 6 (sq 7 (sq 8 (sq 9 (sl 10 sz))))))))))) (by kernel_rfl) ?_
  refine mvP rfl rfl rfl ?_
  refine mvP rfl rfl rfl ?_
  refine nilc rfl rfl rfl ?_
  refine fld fl90_2 rfl rfl rfl ?_
  refine ldl Tryd.isAgg2 (cB 0 rfl rfl) trv rfl rfl rfl ?_
  refine mul rfl rfl rfl rfl (by omega) ?_
  refine add rfl rfl rfl rfl (by omega) ?_
  refine rem rfl rfl rfl rfl (by omega) ?_
  refine nilc rfl rfl rfl ?_
  refine fld fl90_2 rfl rfl rfl ?_
  refine stl (v := .int .i64 _) 0 rfl Tryd.sizeOf2 trv rfl rfl rfl rfl rfl (Nat.le_of_ble_eq_true rfl) ?_
  refine rNil ?_
  refine qSeq rfl ?_
  refine hSeq ?_
  refine hReg (sq 0 (sq 1 (sq 2 (sl 3 (sq 4 (sq 5 sz)))))) (by kernel_rfl) ?_
  refine mvP rfl rfl rfl ?_
  refine nilc rfl rfl rfl ?_
  refine fld fl90_2 rfl rfl rfl ?_
  refine ldl Tryd.isAgg2 (cB 0 rfl rfl) trv rfl rfl rfl ?_
  refine quo rfl rfl rfl rfl (by omega) ?_
  refine asI rfl rfl rfl ?_
  refine rNil ?_
  refine qSeq rfl ?_
  refine hSeq ?_
  refine hSeq ?_
  refine hDraw (by kernel_rfl) (sq 0 (sq 1 (sq 2 (sq 3 (sq 4 (sq 5 (sq 6 (sq 7 (sq 8 (sq 9 sz)))))))))) (by kernel_rfl) (.cons_cons _ .slnil) ?_
  refine mvP rfl rfl rfl ?_
  refine nilc rfl rfl rfl ?_
  refine fld fl90_1 rfl rfl rfl ?_
  refine ldq Tryd.isAgg3 (cB 0 rfl rfl) rfl rfl rfl ?_
  refine mvP rfl rfl rfl ?_
  refine nilc rfl rfl rfl ?_
  refine fld fl90_0 rfl rfl rfl ?_
  refine ldq Tryd.isAgg22 (cB 0 rfl rfl) rfl rfl rfl ?_
  refine lenS Tryd.runUnderlying22 rfl rfl rfl ?_
  refine lss rfl rfl rfl rfl ?_
  refine rNil ?_
  refine qSeq rfl ?_
  refine hIfD rfl (fun c2 => ?_) (fun c2 => ?_)
  ·
   refine hSeq ?_
   refine hDraw (by kernel_rfl) (sq 0 (sq 1 (sq 2 (sq 3 (sq 4 (sq 5 (sq 6 (sq 7 (sq 8 (sq 9 (sq 10 (sq 11 (sq 12 (sq 13 sz)))))))))))))) (by kernel_rfl) (.cons_cons _ .slnil) ?_
   refine mvI rfl rfl rfl ?_
   refine mvP rfl rfl rfl ?_
   refine nilc rfl rfl rfl ?_
   refine fld fl90_0 rfl rfl rfl ?_
   refine ldq Tryd.isAgg22 (cB 0 rfl rfl) rfl rfl rfl ?_
   refine mvP rfl rfl rfl ?_
   refine nilc rfl rfl rfl ?_
   refine fld fl90_1 rfl rfl rfl ?_
   refine ldq Tryd.isAgg3 (cB 0 rfl rfl) rfl rfl rfl ?_
   refine ixq el22 (Kn.drop (k := 1) hK) (fun _ h => h.sub (.cons_cons _ .slnil)) rfl rfl rfl rfl (by omega) (by omega) (map_get (by omega)) ?_
   intro ae3 e3
   refine ldq Tryd.isAgg5 (e3) rfl rfl rfl ?_
   refine cnvI Tryd.runUnderlying5 Tryd.runUnderlying2 rfl rfl rfl (by have := hok.at_ p.toNat; omega) ?_
   refine add rfl rfl rfl rfl (by have := hok.at_ p.toNat; omega) ?_
   refine asI rfl rfl rfl ?_
   refine rNil ?_
   refine qSeq rfl ?_
   refine hSeq ?_
   refine hReg (sq 0 (sq 1 (sq 2 (sl 3 (sq 4 (sq 5 (sq 6 (sl 7 sz)))))))) (by kernel_rfl) ?_
   refine mvP rfl rfl rfl ?_
   refine nilc rfl rfl rfl ?_
   refine fld fl90_1 rfl rfl rfl ?_
   refine ldl Tryd.isAgg3 (cB 0 rfl rfl) trv rfl rfl rfl ?_
   refine add rfl rfl rfl rfl (by omega) ?_
   refine nilc rfl rfl rfl ?_
   refine fld fl90_1 rfl rfl rfl ?_
   refine stl (v := .int .i64 _) 0 rfl Tryd.sizeOf3 trv rfl rfl rfl rfl rfl (Nat.le_of_ble_eq_true rfl) ?_
   refine rNil ?_
   refine qSeq rfl ?_
   refine hSeq ?_
   refine hReg (sq 0 (sq 1 (sq 2 (sq 3 (sq 4 (sq 5 (sl 6 (sq 7 (sq 8 (sq 9 sz)))))))))) (by kernel_rfl) ?_
   refine mvI rfl rfl rfl ?_
   refine leq rfl rfl rfl rfl ?_
   refine mvB rfl rfl rfl ?_
   refine rBoolD (d := 55) rfl (fun g4 => ?_) (fun g4 => ?_)
   ·
    refine mvP rfl rfl rfl ?_
    refine nilc rfl rfl rfl ?_
    refine fld fl90_1 rfl rfl rfl ?_
    refine ldl Tryd.isAgg3 (cB 0 rfl rfl) trv rfl rfl rfl ?_
    refine rem rfl rfl rfl rfl (by omega) ?_
    refine eql rfl rfl rfl rfl ?_
    refine pickB rfl rfl rfl rfl ?_
    refine rNil ?_
    refine qSeq rfl ?_
    refine hIfD rfl (fun c5 => ?_) (fun c5 => ?_)
    ·
     refine hDraw (by kernel_rfl) (sq 0 (sq 1 (sq 2 (sq 3 (sq 4 (sq 5 (sq 6 (sq 7 (sq 8 (sq 9 (sq 10 (sq 11 (sq 12 sz))))))))))))) (by kernel_rfl) (.cons_cons _ .slnil) ?_
     refine mvP rfl rfl rfl ?_
     refine nilc rfl rfl rfl ?_
     refine fld fl90_0 rfl rfl rfl ?_
     refine ldq Tryd.isAgg22 (cB 0 rfl rfl) rfl rfl rfl ?_
     refine mvP rfl rfl rfl ?_
     refine nilc rfl rfl rfl ?_
     refine fld fl90_1 rfl rfl rfl ?_
     refine ldq Tryd.isAgg3 (cB 0 rfl rfl) rfl rfl rfl ?_
     refine sub rfl rfl rfl rfl (by omega) ?_
     refine ixq el22 (Kn.drop (k := 1) hK) (fun _ h => h.sub (.cons_cons _ .slnil)) rfl rfl rfl rfl (by omega) (by omega) (map_get (by omega)) ?_
     intro ae6 e6
     refine ldq Tryd.isAgg5 (e6) rfl rfl rfl ?_
     refine cnvI Tryd.runUnderlying5 Tryd.runUnderlying2 rfl rfl rfl (by have := hok.at_ (p + 1 - 1).toNat; omega) ?_
     refine asI rfl rfl rfl ?_
     refine rNil ?_
     refine qSeq rfl ?_
     refine hSeq ?_
     refine hReg (sq 0 (sq 1 (sq 2 (sq 3 sz)))) (by kernel_rfl) ?_
     refine mvI rfl rfl rfl ?_
     refine mvI rfl rfl rfl ?_
     refine rem rfl rfl rfl rfl (by have := hok.at_ p.toNat; have := hok.at_ (p + 1 - 1).toNat; omega) ?_
     refine asI rfl rfl rfl ?_
     refine rNil ?_
     refine qSeq rfl ?_
     refine hRet ?_
     exact fun w hs => ⟨[.int .i64 _], ⟨rfl, trivial⟩, ⟨_, rfl, emod_bd _ (by omega), hs.upd, ⟨_, _, hs.at_ 0 rfl, by omega, by omega, by omega, by omega⟩⟩⟩
    ·
     refine hSkip ?_
     refine qSeq rfl ?_
     refine hSeq ?_
     refine hReg (sq 0 (sq 1 (sq 2 (sq 3 sz)))) (by kernel_rfl) ?_
     refine mvI rfl rfl rfl ?_
     refine mvI rfl rfl rfl ?_
     refine rem rfl rfl rfl rfl (by have := hok.at_ p.toNat; have := hok.at_ (p + 1 - 1).toNat; omega) ?_
     refine asI rfl rfl rfl ?_
     refine rNil ?_
     refine qSeq rfl ?_
     refine hRet ?_
     exact fun w hs => ⟨[.int .i64 _], ⟨rfl, trivial⟩, ⟨_, rfl, emod_bd _ (by omega), hs.upd, ⟨_, _, hs.at_ 0 rfl, by omega, by omega, by omega, by omega⟩⟩⟩
   ·
    refine rSkipQ rfl rfl ?_
    refine rSkipQ rfl rfl ?_
    refine rSkipQ rfl rfl ?_
    refine rSkipL trv rfl rfl ?_
    refine rSkipQ rfl rfl ?_
    refine rSkipQ rfl rfl ?_
    refine pickB rfl rfl rfl rfl ?_
    refine rNil ?_
    refine qSeq rfl ?_
    refine hIfF rfl ?_
    refine hSkip ?_
    refine qSeq rfl ?_
    refine hSeq ?_
    refine hReg (sq 0 (sq 1 (sq 2 (sq 3 sz)))) (by kernel_rfl) ?_
    refine mvI rfl rfl rfl ?_
    refine mvI rfl rfl rfl ?_
    refine rem rfl rfl rfl rfl (by have := hok.at_ p.toNat; have := hok.at_ (p + 1 - 1).toNat; omega) ?_
    refine asI rfl rfl rfl ?_
    refine rNil ?_
    refine qSeq rfl ?_
    refine hRet ?_
    exact fun w hs => ⟨[.int .i64 _], ⟨rfl, trivial⟩, ⟨_, rfl, emod_bd _ (by omega), hs.upd, ⟨_, _, hs.at_ 0 rfl, by omega, by omega, by omega, by omega⟩⟩⟩
  ·
   refine hSkip ?_
   refine qSeq rfl ?_
   refine hSeq ?_
   refine hReg (sq 0 (sq 1 (sq 2 (sq 3 sz)))) (by kernel_rfl) ?_
   refine mvI rfl rfl rfl ?_
   refine mvI rfl rfl rfl ?_
   refine rem rfl rfl rfl rfl (by have := hok.at_ p.toNat; have := hok.at_ (p + 1 - 1).toNat; omega) ?_
   refine asI rfl rfl rfl ?_
   refine rNil ?_
   refine qSeq rfl ?_
   refine hRet ?_
   exact fun w hs => ⟨[.int .i64 _], ⟨rfl, trivial⟩, ⟨_, rfl, emod_bd _ (by omega), hs.upd, ⟨_, _, hs.at_ 0 rfl, by omega, by omega, by omega, by omega⟩⟩⟩
theorem l01Pick_c (bk : Nat) (ca : Option Addr) (bs : List Int) (cc : Nat) (a : Option Addr) (cap : Nat) (xs : List Int) (w : World) (hs0 : SrcIn bk ca bs cc w) (hx : Lst bk a xs w) (hn : 0 < xs.length) :
  Calls Tryd.prog 28 #[.pointer (some ⟨bk, 0, none⟩), .slice a xs.length cap] w (Ret fun v w' => ∃ x : Int, v = .int .i64 x ∧ x ∈ xs ∧ Upd (fun k => k = bk) w w' ∧ srcP bk ca bs cc w') := by
 obtain ⟨hsrc, hcode, hok⟩ := hs0
 have hX : Kn w (fun k => k = bk) [] (CellsAt a (xs.map (Value.int .i64))) := fun w' hs => hx w' hs.upd
 refine fn (M := (fun k => k = bk)) (rs := [.tmp 4]) Tryd.func28 rfl Tryd.ntmps28 rfl rfl (Sep.startS hsrc) ?_
 refine hSeq ?_
 refine hReg (sq 0 sz) (by kernel_rfl) ?_
 refine asI rfl rfl rfl ?_
 refine rNil ?_
 refine qSeq rfl ?_
 refine hSeq ?_
 refine hReg (sq 0 (sq 1 (sq 2 (sq 3 (sl 4 (sq 5 (sl 6 (sq 7 sz)))))))) (by kernel_rfl) ?_
 refine mvS rfl rfl rfl ?_
 refine mvP rfl rfl rfl ?_
 refine mvS rfl rfl rfl ?_
 refine lenS Tryd.runUnderlying50 rfl rfl rfl ?_
 refine callK 0 rfl srcP_mem srcP_st Tryd.call24 trv rfl rfl (fun w hs => l01Next_c _ _ _ _ _ w ⟨hs.at_ 0 rfl, hcode.upd hs.upd, hok⟩) ?_
 rintro x1 hx1
 refine ixl el50 (Kn.drop (k := 1) hX) rfl rfl rfl rfl (by omega) (by omega) (map_get (by omega)) ?_
 intro ae2 e2
 refine ldl Tryd.isAgg2 (e2) trv rfl rfl rfl ?_
 refine asI rfl rfl rfl ?_
 refine rNil ?_
 refine qSeq rfl ?_
 refine hRet ?_
 exact fun w hs => ⟨[.int .i64 _], ⟨rfl, trivial⟩, ⟨_, rfl, getD_mem (by omega), hs.upd, hs.at_ 0 rfl⟩⟩
theorem l01From_c (ca : Option Addr) (bs : List Int) (cc : Nat) (w : World) (hc : CellsAt ca (bs.map (Value.int .u8)) w) (hok : okBytes bs) :
  Calls Tryd.prog 23 #[.slice ca bs.length cc] w (Ret fun v w' => ∃ bk : Nat, v = .pointer (some ⟨bk, 0, none⟩) ∧ w.heap.size ≤ bk ∧ Ext w w' ∧ St (New w w') (srcP bk ca bs cc) w') := by
 have hK : Kn w none_ [] (CellsAt ca (bs.map (Value.int .u8))) := fun w' hs => hc.ext hs.upd
 refine fn (M := none_) (rs := [.tmp 2]) Tryd.func23 rfl Tryd.ntmps23 rfl rfl (Sep.start _ _) ?_
 refine hSeq ?_
 refine hReg (sq 0 sz) (by kernel_rfl) ?_
 refine asn rfl rfl rfl ?_
 refine rNil ?_
 refine qSeq rfl ?_
 refine hSeq ?_
 refine hReg (sq 0 (sq 1 (sl 2 (sq 3 sz)))) (by kernel_rfl) ?_
 refine mvS rfl rfl rfl ?_
 refine bld rfl rfl rfl (bld90_0_2 (.slice _ _ _) (.int .i64 _) rfl rfl) ?_
 refine box trv1 rfl rfl rfl rfl (fun bkb1 hbkb1 => ?_)
 refine asn rfl rfl rfl ?_
 refine rNil ?_
 refine qSeq rfl ?_
 refine hSeq ?_
 refine hSeq ?_
 refine hReg (sq 0 sz) (by kernel_rfl) ?_
 refine asI rfl rfl rfl ?_
 refine rNil ?_
 refine qSeq rfl ?_
 refine hBlk ?_
 refine hLoop (α := Int × Int) (fun x => (0 ≤ x.1 ∧ x.1 ≤ 64) ∧ (0 ≤ x.2 ∧ x.2 ≤ 2147483646)) (fun x => (64 - x.1).toNat) (fun x => [blk bkb1 90 [.slice ca bs.length cc, .int .i64 0, .int .i64 x.2]]) (fun x => [(0, .slice ca bs.length cc), (3, .pointer (some ⟨bkb1, 0, none⟩)), (4, .int .i64 x.1)]) (0, 45007) ⟨by decide, by decide⟩ (fun _ h => h) ⟨rfl, rfl, rfl, trivial⟩ ?_
 rintro ⟨i, s⟩ τ1 ⟨⟨hi, hi2⟩, hs1, hs2⟩
 dsimp only at hi hi2 hs1 hs2
 refine hRe [(0, .slice ca bs.length cc), (3, .pointer (some ⟨bkb1, 0, none⟩)), (4, .int .i64 i)] [blk bkb1 90 [.slice ca bs.length cc, .int .i64 0, .int .i64 s]] rfl rfl ?_
 refine hSeq ?_
 refine hSeq ?_
 refine hReg (sq 0 (sq 1 (sq 2 (sq 3 (sq 4 (sq 5 (sq 6 (sq 7 sz)))))))) (by kernel_rfl) ?_
 refine mvI rfl rfl rfl ?_
 refine mvS rfl rfl rfl ?_
 refine lenS Tryd.runUnderlying22 rfl rfl rfl ?_
 refine lss rfl rfl rfl rfl ?_
 refine mvB rfl rfl rfl ?_
 refine rBoolD (d := 12) rfl (fun g1 => ?_) (fun g1 => ?_)
 ·
  refine mvI rfl rfl rfl ?_
  refine lss rfl rfl rfl rfl ?_
  refine pickB rfl rfl rfl rfl ?_
  refine rNil ?_
  refine qSeq rfl ?_
  refine hIfD rfl (fun c2 => ?_) (fun c2 => ?_)
  ·
   refine hSkip ?_
   refine qSeq rfl ?_
   refine hSeq ?_
   refine hBlk ?_
   refine hDraw (by kernel_rfl) (sq 0 (sq 1 (sq 2 (sq 3 (sq 4 (sq 5 (sq 6 (sq 7 (sq 8 (sq 9 (sq 10 (sq 11 (sq 12 (sl 13 (sq 14 (sf 15 sz)))))))))))))))) (by kernel_rfl) (.cons_cons _ .slnil) ?_
   refine mvP rfl rfl rfl ?_
   refine mvP rfl rfl rfl ?_
   refine nilc rfl rfl rfl ?_
   refine fld fl90_2 rfl rfl rfl ?_
   refine ldq Tryd.isAgg2 (cB 0 rfl rfl) rfl rfl rfl ?_
   refine mul rfl rfl rfl rfl (by omega) ?_
   refine mvS rfl rfl rfl ?_
   refine mvI rfl rfl rfl ?_
   refine ixq el22 (Kn.drop (k := 1) hK) (fun _ h => h.sub (.cons_cons _ .slnil)) rfl rfl rfl rfl (by omega) (by omega) (map_get (by omega)) ?_
   intro ae3 e3
   refine ldq Tryd.isAgg5 (e3) rfl rfl rfl ?_
   refine cnvI Tryd.runUnderlying5 Tryd.runUnderlying2 rfl rfl rfl (by have := hok.at_ i.toNat; omega) ?_
   refine add rfl rfl rfl rfl (by have := hok.at_ i.toNat; omega) ?_
   refine rem rfl rfl rfl rfl (by have := hok.at_ i.toNat; omega) ?_
   refine nilcL (fun _ h => h.sub (.cons_cons _ .slnil)) rfl rfl rfl ?_
   refine fld fl90_2 rfl rfl rfl ?_
   refine stf (v := .int .i64 _) 0 rfl Tryd.sizeOf2 rfl rfl rfl rfl rfl (Nat.le_of_ble_eq_true rfl) ?_
   refine rNil ?_
   refine qSeq rfl ?_
   refine hReg (sq 0 (sq 1 (sq 2 sz))) (by kernel_rfl) ?_
   refine mvI rfl rfl rfl ?_
   refine add rfl rfl rfl rfl (by omega) ?_
   refine asI rfl rfl rfl ?_
   refine rNil ?_
   exact qNext rfl (i + 1, (s * 61 + bs.getD i.toNat 0) % 2147483647) (by dsimp only; omega) ⟨by dsimp only; omega, by dsimp only; omega⟩ ⟨rfl, rfl, rfl, trivial⟩ (fun _ h => h)
  ·
   refine hExit rfl ?_
   refine qSeq rfl ?_
   refine hSeq ?_
   refine hReg (sq 0 (sq 1 sz)) (by kernel_rfl) ?_
   refine mvP rfl rfl rfl ?_
   refine asn rfl rfl rfl ?_
   refine rNil ?_
   refine qSeq rfl ?_
   refine hRet ?_
   exact fun w hs => ⟨[.pointer _], ⟨rfl, trivial⟩, ⟨_, rfl, hbkb1, hs.upd, (hs.fresh0 rfl).imp fun w h => ⟨_, _, h, by omega, by omega, by omega, by omega⟩⟩⟩
 ·
  refine rSkipQ rfl rfl ?_
  refine rSkipQ rfl rfl ?_
  refine pickB rfl rfl rfl rfl ?_
  refine rNil ?_
  refine qSeq rfl ?_
  refine hIfF rfl ?_
  refine hExit rfl ?_
  refine qSeq rfl ?_
  refine hSeq ?_
  refine hReg (sq 0 (sq 1 sz)) (by kernel_rfl) ?_
  refine mvP rfl rfl rfl ?_
  refine asn rfl rfl rfl ?_
  refine rNil ?_
  refine qSeq rfl ?_
  refine hRet ?_
  exact fun w hs => ⟨[.pointer _], ⟨rfl, trivial⟩, ⟨_, rfl, hbkb1, hs.upd, (hs.fresh0 rfl).imp fun w h => ⟨_, _, h, by omega, by omega, by omega, by omega⟩⟩⟩
theorem l01PickV_c (bk : Nat) (ca : Option Addr) (bs : List Int) (cc : Nat) (a : Option Addr) (len cap : Nat) (vs : List Value) (w : World) (hs0 : SrcIn bk ca bs cc w) (hx : Lst bk a (vs.map toI) w) (hl : len = vs.length) (hn : 0 < len) :
  Calls Tryd.prog 28 #[.pointer (some ⟨bk, 0, none⟩), .slice a len cap] w (Ret fun v w' => ∃ x : Int, v = .int .i64 x ∧ x ∈ vs.map toI ∧ Upd (fun k => k = bk) w w' ∧ srcP bk ca bs cc w') := by
 subst hl
 simpa using l01Pick_c bk ca bs cc a cap (vs.map toI) w hs0 hx (by simpa using hn)
end Go.Proofs.YtjengglpbdgmnaaDoor
/- Calls that turn what they are handed, and read what nobody turns. No condition. -/
namespace Go.Proofs.YtjengglpbdgmnaaDoor.V
open Go Go.RowKit
set_option linter.unusedVariables false
set_option linter.unusedSimpArgs false
section
variable {P : Program} {n : Nat} {w0 : World} {M : Nat → Prop} {L L' Lf Lr : List (World → Prop)} {σ : Fr} {K K' : Ko} {c x y : Code} {ops : Array Oper} {S : World → Prop} {r : Sch} {i : Nat}
variable {d : Nat} {t : TypeId} {p : String} {af : Array Edge} {g : Option (Nat × Bool)} {a b : Operand}
theorem callMK {α : Type} {f : FuncId} {args : Array Operand} {tys : Array TypeId} {val : α → Value} {good : α → Prop} {φs : α → List (World → Prop)} (hL : L = Lf ++ Lr) (hf : ∀ args w, (callFunc f args).run P w = .ok (.enter f args) w) (hS : ∀ x w, Sep w0 M (φs x ++ Lr) w → S w) (ho : ops[i]? = some ⟨some d, .call ⟨.value (.func f), args, tys⟩, t, p, af, g⟩) (hg : go ops σ g)
  (hc : ∀ w M0, Sep w M0 Lf w → (∀ φ, Kn w0 M [] φ → Kn w M0 [] φ) → Calls P f (args.toList.map (ev σ)).toArray w (Ret fun v' w' => ∃ x, v' = val x ∧ good x ∧ Sep w M0 (φs x) w')) (h : ∀ x, good x → RG P n w0 M ops S (φs x ++ Lr) r (upd σ d (val x)) K) : RG P n w0 M ops S L (.op .l i r) σ K := by
 subst hL
 exact rL (Lx := fun x => φs x ++ Lr) (v := val) hS ho hg (fun w hs => by
  obtain ⟨M0, h1, h2⟩ := hs.focus
  refine call_opw hf (hc w M0 h1 fun φ hk w' hs' => hk w' ((h2 [] w' hs').sub (List.nil_sublist _))) fun v' w' ⟨x, he, hx, hsep⟩ => by subst he; exact ⟨x, hx, h2 _ _ hsep, rfl⟩) h
end
theorem Sep.nilU {w w' : World} {M : Nat → Prop} (h : Upd M w w') : Sep w M [] w' := ⟨h, [], trivial⟩
end Go.Proofs.YtjengglpbdgmnaaDoor.V
namespace Go.Proofs.YtjengglpbdgmnaaDoor
open Go Go.RowKit V
theorem src_in {bk : Nat} {ca : Option Addr} {bs : List Int} {cc : Nat} {w : World} {M0 : Nat → Prop} {L : List (World → Prop)} (hs0 : V.Sep w M0 (srcP bk ca bs cc :: L) w) (hc : Kn w M0 [] (CellsAt ca (bs.map (Value.int .u8)))) (hok : okBytes bs) : SrcIn bk ca bs cc w := by
 refine ⟨hs0.at_ 0 rfl, fun w' hu => hc w' (Sep.nilU (hu.mono fun k hk hb => ?_)), hok⟩
 subst hb
 obtain ⟨_, fs, h⟩ := hs0
 match fs, h with
 | f :: fs, ⟨h1, _, h3, _⟩ =>
  have hm := srcP_mem f w h3
  exact (h1 _ hm).1.resolve_left (Nat.not_le_of_lt (h1 _ hm).2)
 | [], h => exact h.elim
theorem src_out {bk : Nat} {ca : Option Addr} {bs : List Int} {cc : Nat} {w w' : World} {M0 : Nat → Prop} {L : List (World → Prop)} (hs0 : V.Sep w M0 (srcP bk ca bs cc :: L) w) (hu : Upd (fun k => k = bk) w w') (h : srcP bk ca bs cc w') : V.Sep w M0 (srcP bk ca bs cc :: L) w' :=
 hs0.change 0 rfl fun f hf => ⟨f, fun _ h => .inl h, srcP_st f w' h (srcP_mem f w hf), hu.mono fun k _ hk => by subst hk; exact srcP_mem f w hf⟩
end Go.Proofs.YtjengglpbdgmnaaDoor
/- Numbers that a source hands out. Their conditions stand in each. -/
namespace Go.Proofs.YtjengglpbdgmnaaDoor
open Go Go.RowKit V
set_option linter.unusedVariables false
set_option linter.unusedSimpArgs false
set_option maxRecDepth 100000
theorem src_next (bk : Nat) (ca : Option Addr) (bs : List Int) (cc : Nat) (n : Int) (w : World) (M0 : Nat → Prop) (hs0 : V.Sep w M0 [srcP bk ca bs cc] w) (hc : Kn w M0 [] (CellsAt ca (bs.map (Value.int .u8)))) (hok : okBytes bs) :
  Calls Tryd.prog 24 #[.pointer (some ⟨bk, 0, none⟩), .int .i64 n] w (Ret fun v w' => ∃ x : Int, v = .int .i64 x ∧ (0 ≤ x ∧ (x < n ∨ x = 0)) ∧ V.Sep w M0 [srcP bk ca bs cc] w') :=
 Calls.mono (l01Next_c bk ca bs cc n w (src_in hs0 hc hok)) fun e w' ⟨v, he, x, hv, hx, hu, h⟩ => ⟨v, he, x, hv, hx, src_out hs0 hu h⟩
theorem src_pick (bk : Nat) (ca : Option Addr) (bs : List Int) (cc : Nat) (lb e len cap : Nat) (vs : List Value) (w : World) (M0 : Nat → Prop) (hs0 : V.Sep w M0 [srcP bk ca bs cc, blk lb e vs] w) (hc : Kn w M0 [] (CellsAt ca (bs.map (Value.int .u8)))) (hok : okBytes bs) (hv : vs = (vs.map toI).map (Value.int .i64)) (hl : len = vs.length) (hn : 0 < len) :
  Calls Tryd.prog 28 #[.pointer (some ⟨bk, 0, none⟩), .slice (some ⟨lb, 0, none⟩) len cap] w (Ret fun v w' => ∃ x : Int, v = .int .i64 x ∧ x ∈ vs.map toI ∧ V.Sep w M0 [srcP bk ca bs cc, blk lb e vs] w') :=
 Calls.mono (l01PickV_c bk ca bs cc _ len cap vs w (src_in hs0 hc hok) (Lst.of' hs0 1 0 rfl rfl (by decide) hv) hl hn) fun e w' ⟨v, he, x, hv, hx, hu, h⟩ => ⟨v, he, x, hv, hx, src_out hs0 hu h⟩
end Go.Proofs.YtjengglpbdgmnaaDoor
/- Contracts of what the laws do with lists. Their conditions stand in each. -/
namespace Go.Proofs.YtjengglpbdgmnaaDoor
open Go Go.RowKit V
set_option linter.unusedVariables false
set_option linter.unusedSimpArgs false
set_option maxRecDepth 100000
theorem impl_within_c (n : Int) (lo : Int) (hi : Int) (w : World) :
  Calls Tryd.prog 29 #[.int .i64 n, .int .i64 lo, .int .i64 hi] w (Ret fun v w' => v = .bool (decide (lo ≤ n ∧ n ≤ hi)) ∧ Ext w w') := by
 refine fn (M := none_) (rs := [.tmp 6]) Tryd.func29 rfl Tryd.ntmps29 rfl rfl (Sep.start _ _) ?_
 refine hSeq ?_
 refine hReg (sq 0 sz) (by kernel_rfl) ?_
 refine asB rfl rfl rfl ?_
 refine rNil ?_
 refine qSeq rfl ?_
 refine hSeq ?_
 refine hReg (sq 0 (sq 1 (sq 2 (sq 3 (sq 4 (sq 5 (sq 6 (sq 7 (sq 8 sz))))))))) (by kernel_rfl) ?_
 refine mvI rfl rfl rfl ?_
 refine mvI rfl rfl rfl ?_
 refine geq rfl rfl rfl rfl ?_
 refine mvB rfl rfl rfl ?_
 refine rBoolD (d := 10) rfl (fun g1 => ?_) (fun g1 => ?_)
 ·
  replace g1 : lo ≤ n := g1
  refine mvI rfl rfl rfl ?_
  refine mvI rfl rfl rfl ?_
  refine leq rfl rfl rfl rfl ?_
  refine pickB rfl rfl rfl rfl ?_
  refine asB rfl rfl rfl ?_
  refine rNil ?_
  refine qSeq rfl ?_
  refine hRet ?_
  exact fun w hs => ⟨[.bool (decide (n ≤ hi))], ⟨rfl, trivial⟩, ⟨by first | rfl | exact bD (by omega) | exact bT (by omega) | exact bF (by omega) | exact vI (by omega), hs.upd⟩⟩
 ·
  replace g1 : ¬ (lo ≤ n) := g1
  refine rSkipQ rfl rfl ?_
  refine rSkipQ rfl rfl ?_
  refine rSkipQ rfl rfl ?_
  refine pickB rfl rfl rfl rfl ?_
  refine asB rfl rfl rfl ?_
  refine rNil ?_
  refine qSeq rfl ?_
  refine hRet ?_
  exact fun w hs => ⟨[.bool false], ⟨rfl, trivial⟩, ⟨by first | rfl | exact bD (by omega) | exact bT (by omega) | exact bF (by omega) | exact vI (by omega), hs.upd⟩⟩
theorem spec_l01In_c (n : Int) (lo : Int) (hi : Int) (w : World) :
  Calls Tryd.prog 32 #[.int .i64 n, .int .i64 lo, .int .i64 hi] w (Ret fun v w' => v = .bool (decide (lo ≤ n ∧ n ≤ hi)) ∧ Ext w w') := by
 refine fn (M := none_) (rs := [.tmp 6]) Tryd.func32 rfl Tryd.ntmps32 rfl rfl (Sep.start _ _) ?_
 refine hSeq ?_
 refine hReg (sq 0 sz) (by kernel_rfl) ?_
 refine asB rfl rfl rfl ?_
 refine rNil ?_
 refine qSeq rfl ?_
 refine hSeq ?_
 refine hReg (sq 0 (sq 1 (sq 2 (sq 3 (sq 4 (sq 5 (sq 6 (sq 7 (sq 8 sz))))))))) (by kernel_rfl) ?_
 refine mvI rfl rfl rfl ?_
 refine mvI rfl rfl rfl ?_
 refine geq rfl rfl rfl rfl ?_
 refine mvB rfl rfl rfl ?_
 refine rBoolD (d := 10) rfl (fun g1 => ?_) (fun g1 => ?_)
 ·
  replace g1 : lo ≤ n := g1
  refine mvI rfl rfl rfl ?_
  refine mvI rfl rfl rfl ?_
  refine leq rfl rfl rfl rfl ?_
  refine pickB rfl rfl rfl rfl ?_
  refine asB rfl rfl rfl ?_
  refine rNil ?_
  refine qSeq rfl ?_
  refine hRet ?_
  exact fun w hs => ⟨[.bool (decide (n ≤ hi))], ⟨rfl, trivial⟩, ⟨by first | rfl | exact bD (by omega) | exact bT (by omega) | exact bF (by omega) | exact vI (by omega), hs.upd⟩⟩
 ·
  replace g1 : ¬ (lo ≤ n) := g1
  refine rSkipQ rfl rfl ?_
  refine rSkipQ rfl rfl ?_
  refine rSkipQ rfl rfl ?_
  refine pickB rfl rfl rfl rfl ?_
  refine asB rfl rfl rfl ?_
  refine rNil ?_
  refine qSeq rfl ?_
  refine hRet ?_
  exact fun w hs => ⟨[.bool false], ⟨rfl, trivial⟩, ⟨by first | rfl | exact bD (by omega) | exact bT (by omega) | exact bF (by omega) | exact vI (by omega), hs.upd⟩⟩
end Go.Proofs.YtjengglpbdgmnaaDoor
/- Contracts of what the program does with lists. Their conditions stand in each. -/
namespace Go.Proofs.YtjengglpbdgmnaaDoor
open Go Go.RowKit V
set_option linter.unusedVariables false
set_option linter.unusedSimpArgs false
set_option maxRecDepth 100000
theorem impl_allWithin_c (az : Option Addr) (nz : Nat) (cz : Nat) (z : List Int) (lo : Int) (up : Int) (w : World) (rz : RdI az nz z w) :
  Calls Tryd.prog 52 #[.slice az nz cz, .int .i64 lo, .int .i64 up] w (Ret fun v w' => v = .bool ((z.all (Math.inB lo up))) ∧ Ext w w') := by
 have kz : Kn w none_ [] (RdI az nz z) := fun w' hs => rz.ext hs.upd
 have lz : z.length = nz := rz.1
 have mz : nz ≤ 9223372036854775807 := rz.2.1
 refine fn (M := none_) (rs := [.tmp 6]) Tryd.func52 rfl Tryd.ntmps52 rfl rfl (Sep.start _ _) ?_
 refine hSeq ?_
 refine hReg (sq 0 sz) (by kernel_rfl) ?_
 refine asB rfl rfl rfl ?_
 refine rNil ?_
 refine qSeq rfl ?_
 refine hSeq ?_
 refine hSeq ?_
 refine hReg (sq 0 (sq 1 (sq 2 sz))) (by kernel_rfl) ?_
 refine mvS rfl rfl rfl ?_
 refine lenS Tryd.runUnderlying50 rfl rfl rfl ?_
 refine mvI rfl rfl rfl ?_
 refine rNil ?_
 refine qSeq rfl ?_
 refine hBlk ?_
 refine hLoop (α := Nat) (fun i => i ≤ nz ∧ ∀ j, j < i → Math.inB lo up (z.getD j 0) = true) (fun i => nz - i) (fun i => []) (fun i => [(1, .int .i64 lo), (2, .int .i64 up), (9, .slice az nz cz), (10, .int .i64 (nz : Int)), (11, .int .i64 (i : Int))]) 0 ⟨Nat.zero_le _, fun j hj => by omega⟩ (fun _ h => h.pick []) ⟨rfl, rfl, rfl, rfl, rfl, trivial⟩ ?_
 rintro i τ1 ⟨hi, hal⟩
 refine hSeq ?_
 refine hReg (sq 0 sz) (by kernel_rfl) ?_
 refine lss rfl rfl rfl rfl ?_
 refine rNil ?_
 refine qSeq rfl ?_
 refine hSeq ?_
 refine hIfD rfl (fun c1 => ?_) (fun c1 => ?_)
 ·
  replace c1 : (i : Int) < (nz : Int) := c1
  refine hSkip ?_
  refine qSeq rfl ?_
  refine hSeq ?_
  refine hBlk ?_
  refine hSeq ?_
  refine hReg (sq 0 (sl 1 (sq 2 sz))) (by kernel_rfl) ?_
  refine ixIl (zn := i) el50 (kz) rfl rfl rfl rfl (by omega) (by omega) rfl ?_
  intro ae1 e1
  refine ldl Tryd.isAgg2 (e1) trv rfl rfl rfl ?_
  refine asI rfl rfl rfl ?_
  refine rNil ?_
  refine qSeq rfl ?_
  refine hSeq ?_
  refine hReg (sq 0 (sq 1 (sq 2 (sl 3 (sq 4 sz))))) (by kernel_rfl) ?_
  refine mvI rfl rfl rfl ?_
  refine mvI rfl rfl rfl ?_
  refine mvI rfl rfl rfl ?_
  refine callP (v := .bool ((Math.inB lo up (z.getD i 0)))) Tryd.call29 trv rfl rfl (fun w hs => impl_within_c _ _ _ w ) ?_
  refine not rfl rfl rfl ?_
  refine rNil ?_
  refine qSeq rfl ?_
  refine hIfN rfl (fun c2 => ?_) (fun c2 => ?_)
  ·
   replace c2 : (Math.inB lo up (z.getD i 0)) = false := c2
   refine hSeq ?_
   refine hReg (sq 0 sz) (by kernel_rfl) ?_
   refine asB rfl rfl rfl ?_
   refine rNil ?_
   refine qSeq rfl ?_
   refine hRet ?_
   exact fun w hs => ⟨[.bool false], ⟨rfl, trivial⟩, ⟨bB (Math.all_no 0 (i := i) (by omega) c2).symm, hs.upd⟩⟩
  ·
   replace c2 : (Math.inB lo up (z.getD i 0)) = true := c2
   refine hSkip ?_
   refine qSeq rfl ?_
   refine hReg (sq 0 (sq 1 sz)) (by kernel_rfl) ?_
   refine add rfl rfl rfl rfl (by omega) ?_
   refine mvI rfl rfl rfl ?_
   refine rNil ?_
   exact qNext rfl (i + 1) (by omega) ⟨by omega, Math.upto hal c2⟩ ⟨rfl, rfl, rfl, rfl, rfl, trivial⟩ (fun _ h => h.pick [])
 ·
  replace c1 : ¬ ((i : Int) < (nz : Int)) := c1
  refine hExit rfl ?_
  refine qSeq rfl ?_
  refine hSeq ?_
  refine hReg (sq 0 sz) (by kernel_rfl) ?_
  refine asB rfl rfl rfl ?_
  refine rNil ?_
  refine qSeq rfl ?_
  refine hRet ?_
  exact fun w hs => ⟨[.bool true], ⟨rfl, trivial⟩, ⟨bB ((Math.all_getD 0).2 fun j hj => hal j (by omega)).symm, hs.upd⟩⟩
theorem impl_increasing_c (az : Option Addr) (nz : Nat) (cz : Nat) (z : List Int) (w : World) (rz : RdI az nz z w) :
  Calls Tryd.prog 53 #[.slice az nz cz] w (Ret fun v w' => v = .bool (Math.risingB z) ∧ Ext w w') := by
 have kz : Kn w none_ [] (RdI az nz z) := fun w' hs => rz.ext hs.upd
 have lz : z.length = nz := rz.1
 have mz : nz ≤ 9223372036854775807 := rz.2.1
 refine fn (M := none_) (rs := [.tmp 2]) Tryd.func53 rfl Tryd.ntmps53 rfl rfl (Sep.start _ _) ?_
 refine hSeq ?_
 refine hReg (sq 0 sz) (by kernel_rfl) ?_
 refine asB rfl rfl rfl ?_
 refine rNil ?_
 refine qSeq rfl ?_
 refine hSeq ?_
 refine hSeq ?_
 refine hReg (sq 0 sz) (by kernel_rfl) ?_
 refine asI rfl rfl rfl ?_
 refine rNil ?_
 refine qSeq rfl ?_
 refine hBlk ?_
 refine hLoop (α := Nat) (fun k => k ≤ nz ∧ ∀ j, j < k → j + 1 < nz → z.getD j 0 < z.getD (j + 1) 0) (fun k => nz - k) (fun k => []) (fun k => [(0, .slice az nz cz), (3, .int .i64 (((k : Int) + 1)))]) 0 ⟨Nat.zero_le _, fun j hj => by omega⟩ (fun _ h => h.pick []) ⟨rfl, rfl, trivial⟩ ?_
 rintro k τ1 ⟨hk, hal⟩
 refine hSeq ?_
 refine hSeq ?_
 refine hReg (sq 0 (sq 1 (sq 2 (sq 3 sz)))) (by kernel_rfl) ?_
 refine mvI rfl rfl rfl ?_
 refine mvS rfl rfl rfl ?_
 refine lenS Tryd.runUnderlying50 rfl rfl rfl ?_
 refine lss rfl rfl rfl rfl ?_
 refine rNil ?_
 refine qSeq rfl ?_
 refine hIfD rfl (fun c1 => ?_) (fun c1 => ?_)
 ·
  replace c1 : ((k : Int) + 1) < (nz : Int) := c1
  refine hSkip ?_
  refine qSeq rfl ?_
  refine hSeq ?_
  refine hBlk ?_
  refine hSeq ?_
  refine hDraw (Ls := []) (by kernel_rfl) (sq 0 (sq 1 (sq 2 (sq 3 (sq 4 (sq 5 (sq 6 (sq 7 (sq 8 (sq 9 sz)))))))))) (by kernel_rfl) .slnil ?_
  refine mvS rfl rfl rfl ?_
  refine mvI rfl rfl rfl ?_
  refine sub rfl rfl rfl rfl (by omega) ?_
  refine ixIq (zn := ((((k : Int) + 1) - 1)).toNat) el50 (kz) (fun _ h => h.pick []) rfl rfl rfl rfl (by omega) (by omega) rfl ?_
  intro ae1 e1
  refine ldq Tryd.isAgg2 (e1) rfl rfl rfl ?_
  refine mvS rfl rfl rfl ?_
  refine mvI rfl rfl rfl ?_
  refine ixIq (zn := (k + 1)) el50 (kz) (fun _ h => h.pick []) rfl rfl rfl rfl (by omega) (by omega) rfl ?_
  intro ae2 e2
  refine ldq Tryd.isAgg2 (e2) rfl rfl rfl ?_
  refine geq rfl rfl rfl rfl ?_
  refine rNil ?_
  refine qSeq rfl ?_
  refine hIfD rfl (fun c2 => ?_) (fun c2 => ?_)
  ·
   replace c2 : (z.getD (k + 1) 0) ≤ (z.getD (((((k : Int) + 1) - 1)).toNat) 0) := c2
   rw [show (((k : Int) + 1) - 1).toNat = k from by omega] at c2
   refine hSeq ?_
   refine hReg (sq 0 sz) (by kernel_rfl) ?_
   refine asB rfl rfl rfl ?_
   refine rNil ?_
   refine qSeq rfl ?_
   refine hRet ?_
   exact fun w hs => ⟨[.bool false], ⟨rfl, trivial⟩, ⟨bB (Math.rising_no (i := k) (by omega) (by omega)).symm, hs.upd⟩⟩
  ·
   replace c2 : ¬ ((z.getD (k + 1) 0) ≤ (z.getD (((((k : Int) + 1) - 1)).toNat) 0)) := c2
   rw [show (((k : Int) + 1) - 1).toNat = k from by omega] at c2
   refine hSkip ?_
   refine qSeq rfl ?_
   refine hReg (sq 0 (sq 1 (sq 2 sz))) (by kernel_rfl) ?_
   refine mvI rfl rfl rfl ?_
   refine add rfl rfl rfl rfl (by omega) ?_
   refine asI rfl rfl rfl ?_
   refine rNil ?_
   exact qNext rfl (k + 1) (by omega) ⟨by omega, Math.upto hal fun _ => by omega⟩ ⟨rfl, rfl, trivial⟩ (fun _ h => h.pick [])
 ·
  replace c1 : ¬ (((k : Int) + 1) < (nz : Int)) := c1
  refine hExit rfl ?_
  refine qSeq rfl ?_
  refine hSeq ?_
  refine hReg (sq 0 sz) (by kernel_rfl) ?_
  refine asB rfl rfl rfl ?_
  refine rNil ?_
  refine qSeq rfl ?_
  refine hRet ?_
  exact fun w hs => ⟨[.bool true], ⟨rfl, trivial⟩, ⟨bB (Math.rising_iff.2 fun j hj => hal j (by omega) (by omega)).symm, hs.upd⟩⟩
theorem spec_l01Rises_c (az : Option Addr) (nz : Nat) (cz : Nat) (z : List Int) (n : Int) (w : World) (rz : RdI az nz z w) (hn : 0 ≤ n ∧ n ≤ 9223372036854775807) :
  Calls Tryd.prog 78 #[.slice az nz cz, .int .i64 n] w (Ret fun v w' => v = .bool (Math.risesB n z) ∧ Ext w w') := by
 have kz : Kn w none_ [] (RdI az nz z) := fun w' hs => rz.ext hs.upd
 have lz : z.length = nz := rz.1
 have mz : nz ≤ 9223372036854775807 := rz.2.1
 refine fn (M := none_) (rs := [.tmp 4]) Tryd.func78 rfl Tryd.ntmps78 rfl rfl (Sep.start _ _) ?_
 refine hSeq ?_
 refine hReg (sq 0 sz) (by kernel_rfl) ?_
 refine asB rfl rfl rfl ?_
 refine rNil ?_
 refine qSeq rfl ?_
 refine hSeq ?_
 refine hSeq ?_
 refine hReg (sq 0 sz) (by kernel_rfl) ?_
 refine asI rfl rfl rfl ?_
 refine rNil ?_
 refine qSeq rfl ?_
 refine hBlk ?_
 refine hLoop (α := Nat) (fun i => i ≤ nz ∧ Math.risesTo n z i) (fun i => nz - i) (fun i => []) (fun i => [(0, .slice az nz cz), (1, .int .i64 n), (5, .int .i64 (i : Int))]) 0 ⟨Nat.zero_le _, Math.risesTo_zero⟩ (fun _ h => h.pick []) ⟨rfl, rfl, rfl, trivial⟩ ?_
 rintro i τ1 ⟨hi, hr⟩
 refine hSeq ?_
 refine hSeq ?_
 refine hReg (sq 0 (sq 1 (sq 2 (sq 3 sz)))) (by kernel_rfl) ?_
 refine mvI rfl rfl rfl ?_
 refine mvS rfl rfl rfl ?_
 refine lenS Tryd.runUnderlying50 rfl rfl rfl ?_
 refine lss rfl rfl rfl rfl ?_
 refine rNil ?_
 refine qSeq rfl ?_
 refine hIfD rfl (fun c1 => ?_) (fun c1 => ?_)
 ·
  replace c1 : (i : Int) < (nz : Int) := c1
  refine hSkip ?_
  refine qSeq rfl ?_
  refine hSeq ?_
  refine hBlk ?_
  refine hSeq ?_
  refine hDraw (Ls := []) (by kernel_rfl) (sq 0 (sq 1 (sq 2 (sq 3 (sq 4 (sq 5 (sl 6 (sq 7 (sq 8 (sq 9 (sq 10 (sq 11 (sq 12 (sq 13 (sq 14 (sq 15 (sq 16 (sq 17 (sq 18 (sq 19 (sq 20 (sq 21 (sq 22 (sq 23 sz)))))))))))))))))))))))) (by kernel_rfl) .slnil ?_
  refine mvS rfl rfl rfl ?_
  refine mvI rfl rfl rfl ?_
  refine ixIq (zn := i) el50 (kz) (fun _ h => h.pick []) rfl rfl rfl rfl (by omega) (by omega) rfl ?_
  intro ae1 e1
  refine ldq Tryd.isAgg2 (e1) rfl rfl rfl ?_
  refine mvI rfl rfl rfl ?_
  refine sub rfl rfl rfl rfl (by omega) ?_
  refine callP (v := .bool ((Math.inB (0 : Int) (n - 1) (z.getD i 0)))) Tryd.call32 (fun _ h => h.pick []) rfl rfl (fun w hs => spec_l01In_c _ _ _ w ) ?_
  refine not rfl rfl rfl ?_
  refine mvB rfl rfl rfl ?_
  refine rBoolN (d := 20) rfl (fun g2 => ?_) (fun g2 => ?_)
  ·
   replace g2 : (Math.inB (0 : Int) (n - 1) (z.getD i 0)) = false := g2
   refine rSkipQ rfl rfl ?_
   refine rSkipQ rfl rfl ?_
   refine rSkipQ rfl rfl ?_
   refine rSkipQ rfl rfl ?_
   refine rSkipQ rfl rfl ?_
   refine rSkipQ rfl rfl ?_
   refine rSkipQ rfl rfl ?_
   refine rSkipQ rfl rfl ?_
   refine rSkipQ rfl rfl ?_
   refine rSkipQ rfl rfl ?_
   refine rSkipQ rfl rfl ?_
   refine rSkipQ rfl rfl ?_
   refine rSkipQ rfl rfl ?_
   refine rSkipQ rfl rfl ?_
   refine pickB rfl rfl rfl rfl ?_
   refine rNil ?_
   refine qSeq rfl ?_
   refine hIfT rfl ?_
   refine hSeq ?_
   refine hReg (sq 0 sz) (by kernel_rfl) ?_
   refine asB rfl rfl rfl ?_
   refine rNil ?_
   refine qSeq rfl ?_
   refine hRet ?_
   exact fun w hs => ⟨[.bool false], ⟨rfl, trivial⟩, ⟨bB (Math.rises_no1 (i := i) (by omega) g2).symm, hs.upd⟩⟩
  ·
   replace g2 : (Math.inB (0 : Int) (n - 1) (z.getD i 0)) = true := g2
   refine mvI rfl rfl rfl ?_
   refine gtr rfl rfl rfl rfl ?_
   refine mvB rfl rfl rfl ?_
   refine rBoolD (d := 23) rfl (fun g3 => ?_) (fun g3 => ?_)
   ·
    replace g3 : 0 < (i : Int) := g3
    refine mvS rfl rfl rfl ?_
    refine mvI rfl rfl rfl ?_
    refine ixIq (zn := i) el50 (kz) (fun _ h => h.pick []) rfl rfl rfl rfl (by omega) (by omega) rfl ?_
    intro ae2 e2
    refine ldq Tryd.isAgg2 (e2) rfl rfl rfl ?_
    refine mvS rfl rfl rfl ?_
    refine mvI rfl rfl rfl ?_
    refine sub rfl rfl rfl rfl (by omega) ?_
    refine ixIq (zn := (((i : Int) - 1)).toNat) el50 (kz) (fun _ h => h.pick []) rfl rfl rfl rfl (by omega) (by omega) rfl ?_
    intro ae3 e3
    refine ldq Tryd.isAgg2 (e3) rfl rfl rfl ?_
    refine leq rfl rfl rfl rfl ?_
    refine pickB rfl rfl rfl rfl ?_
    refine pickB rfl rfl rfl rfl ?_
    refine rNil ?_
    refine qSeq rfl ?_
    refine hIfD rfl (fun c4 => ?_) (fun c4 => ?_)
    ·
     replace c4 : (z.getD i 0) ≤ (z.getD ((((i : Int) - 1)).toNat) 0) := c4
     refine hSeq ?_
     refine hReg (sq 0 sz) (by kernel_rfl) ?_
     refine asB rfl rfl rfl ?_
     refine rNil ?_
     refine qSeq rfl ?_
     refine hRet ?_
     exact fun w hs => ⟨[.bool false], ⟨rfl, trivial⟩, ⟨bB (Math.rises_no2 (i := i) (by omega) (by omega) (by rw [← show ((i : Int) - 1).toNat = i - 1 from by omega]; omega)).symm, hs.upd⟩⟩
    ·
     replace c4 : ¬ ((z.getD i 0) ≤ (z.getD ((((i : Int) - 1)).toNat) 0)) := c4
     refine hSkip ?_
     refine qSeq rfl ?_
     refine hReg (sq 0 (sq 1 (sq 2 sz))) (by kernel_rfl) ?_
     refine mvI rfl rfl rfl ?_
     refine add rfl rfl rfl rfl (by omega) ?_
     refine asI rfl rfl rfl ?_
     refine rNil ?_
     exact qNext rfl (i + 1) (by omega) ⟨by omega, Math.risesTo_step hr g2 (fun _ => by rw [← show ((i : Int) - 1).toNat = i - 1 from by omega]; omega)⟩ ⟨rfl, rfl, rfl, trivial⟩ (fun _ h => h.pick [])
   ·
    replace g3 : ¬ (0 < (i : Int)) := g3
    refine rSkipQ rfl rfl ?_
    refine rSkipQ rfl rfl ?_
    refine rSkipQ rfl rfl ?_
    refine rSkipQ rfl rfl ?_
    refine rSkipQ rfl rfl ?_
    refine rSkipQ rfl rfl ?_
    refine rSkipQ rfl rfl ?_
    refine rSkipQ rfl rfl ?_
    refine rSkipQ rfl rfl ?_
    refine rSkipQ rfl rfl ?_
    refine pickB rfl rfl rfl rfl ?_
    refine pickB rfl rfl rfl rfl ?_
    refine rNil ?_
    refine qSeq rfl ?_
    refine hIfF rfl ?_
    refine hSkip ?_
    refine qSeq rfl ?_
    refine hReg (sq 0 (sq 1 (sq 2 sz))) (by kernel_rfl) ?_
    refine mvI rfl rfl rfl ?_
    refine add rfl rfl rfl rfl (by omega) ?_
    refine asI rfl rfl rfl ?_
    refine rNil ?_
    exact qNext rfl (i + 1) (by omega) ⟨by omega, Math.risesTo_step hr g2 (fun h => absurd h (by omega))⟩ ⟨rfl, rfl, rfl, trivial⟩ (fun _ h => h.pick [])
 ·
  replace c1 : ¬ ((i : Int) < (nz : Int)) := c1
  refine hExit rfl ?_
  refine qSeq rfl ?_
  refine hSeq ?_
  refine hReg (sq 0 sz) (by kernel_rfl) ?_
  refine asB rfl rfl rfl ?_
  refine rNil ?_
  refine qSeq rfl ?_
  refine hRet ?_
  exact fun w hs => ⟨[.bool true], ⟨rfl, trivial⟩, ⟨bB (Math.rises_yes hr (by omega)).symm, hs.upd⟩⟩
theorem impl_sumOf_c (az : Option Addr) (nz : Nat) (cz : Nat) (z : List Int) (w : World) (rz : RdI az nz z w) (hb : ∀ x ∈ z, 0 ≤ x ∧ x ≤ 1000000000) (hl : z.length ≤ 1000000) :
  Calls Tryd.prog 59 #[.slice az nz cz] w (Ret fun v w' => v = .int .i64 z.sum ∧ Ext w w') := by
 have kz : Kn w none_ [] (RdI az nz z) := fun w' hs => rz.ext hs.upd
 have lz : z.length = nz := rz.1
 have mz : nz ≤ 9223372036854775807 := rz.2.1
 refine fn (M := none_) (rs := [.tmp 2]) Tryd.func59 rfl Tryd.ntmps59 rfl rfl (Sep.start _ _) ?_
 refine hSeq ?_
 refine hReg (sq 0 sz) (by kernel_rfl) ?_
 refine asI rfl rfl rfl ?_
 refine rNil ?_
 refine qSeq rfl ?_
 refine hSeq ?_
 refine hReg (sq 0 sz) (by kernel_rfl) ?_
 refine asI rfl rfl rfl ?_
 refine rNil ?_
 refine qSeq rfl ?_
 refine hSeq ?_
 refine hSeq ?_
 refine hReg (sq 0 (sq 1 (sq 2 sz))) (by kernel_rfl) ?_
 refine mvS rfl rfl rfl ?_
 refine lenS Tryd.runUnderlying50 rfl rfl rfl ?_
 refine mvI rfl rfl rfl ?_
 refine rNil ?_
 refine qSeq rfl ?_
 refine hBlk ?_
 refine hLoop (α := Nat × Int) (fun x => x.1 ≤ nz ∧ x.2 = (z.take x.1).sum) (fun x => nz - x.1) (fun x => []) (fun x => [(3, .int .i64 x.2), (6, .slice az nz cz), (7, .int .i64 (nz : Int)), (8, .int .i64 (x.1 : Int))]) (0, 0) ⟨Nat.zero_le _, rfl⟩ (fun _ h => h.pick []) ⟨rfl, rfl, rfl, rfl, trivial⟩ ?_
 rintro ⟨i, a⟩ τ1 ⟨hi, ha⟩
 dsimp only at hi ha
 refine hRe [(3, .int .i64 a), (6, .slice az nz cz), (7, .int .i64 (nz : Int)), (8, .int .i64 (i : Int))] [] rfl rfl ?_
 refine hSeq ?_
 refine hReg (sq 0 sz) (by kernel_rfl) ?_
 refine lss rfl rfl rfl rfl ?_
 refine rNil ?_
 refine qSeq rfl ?_
 refine hSeq ?_
 refine hIfD rfl (fun c1 => ?_) (fun c1 => ?_)
 ·
  replace c1 : (i : Int) < (nz : Int) := c1
  have hs1 := Math.sum_bd hb i (by omega)
  have hs2 := hb _ (Math.getD_mem 0 (show i < z.length by omega))
  refine hSkip ?_
  refine qSeq rfl ?_
  refine hSeq ?_
  refine hBlk ?_
  refine hSeq ?_
  refine hReg (sq 0 (sl 1 (sq 2 sz))) (by kernel_rfl) ?_
  refine ixIl (zn := i) el50 (kz) rfl rfl rfl rfl (by omega) (by omega) rfl ?_
  intro ae1 e1
  refine ldl Tryd.isAgg2 (e1) trv rfl rfl rfl ?_
  refine asI rfl rfl rfl ?_
  refine rNil ?_
  refine qSeq rfl ?_
  refine hReg (sq 0 (sq 1 (sq 2 (sq 3 sz)))) (by kernel_rfl) ?_
  refine mvI rfl rfl rfl ?_
  refine mvI rfl rfl rfl ?_
  refine add rfl rfl rfl rfl (by omega) ?_
  refine asI rfl rfl rfl ?_
  refine rNil ?_
  refine qSeq rfl ?_
  refine hReg (sq 0 (sq 1 sz)) (by kernel_rfl) ?_
  refine add rfl rfl rfl rfl (by omega) ?_
  refine mvI rfl rfl rfl ?_
  refine rNil ?_
  exact qNext rfl (i + 1, a + z.getD i 0) (by dsimp only; omega) ⟨by omega, by dsimp only; rw [ha, Math.sum_step (by omega)]⟩ ⟨rfl, rfl, rfl, rfl, trivial⟩ (fun _ h => h.pick [])
 ·
  replace c1 : ¬ ((i : Int) < (nz : Int)) := c1
  refine hExit rfl ?_
  refine qSeq rfl ?_
  refine hSeq ?_
  refine hReg (sq 0 (sq 1 sz)) (by kernel_rfl) ?_
  refine mvI rfl rfl rfl ?_
  refine asI rfl rfl rfl ?_
  refine rNil ?_
  refine qSeq rfl ?_
  refine hRet ?_
  exact fun w hs => ⟨[.int .i64 a], ⟨rfl, trivial⟩, ⟨vI (by rw [ha, List.take_of_length_le (by omega)]), hs.upd⟩⟩
theorem spec_l01Sum_c (az : Option Addr) (nz : Nat) (cz : Nat) (z : List Int) (w : World) (rz : RdI az nz z w) (hb : ∀ x ∈ z, 0 ≤ x ∧ x ≤ 1000000000) (hl : z.length ≤ 1000000) :
  Calls Tryd.prog 62 #[.slice az nz cz] w (Ret fun v w' => v = .int .i64 z.sum ∧ Ext w w') := by
 have kz : Kn w none_ [] (RdI az nz z) := fun w' hs => rz.ext hs.upd
 have lz : z.length = nz := rz.1
 have mz : nz ≤ 9223372036854775807 := rz.2.1
 refine fn (M := none_) (rs := [.tmp 2]) Tryd.func62 rfl Tryd.ntmps62 rfl rfl (Sep.start _ _) ?_
 refine hSeq ?_
 refine hReg (sq 0 sz) (by kernel_rfl) ?_
 refine asI rfl rfl rfl ?_
 refine rNil ?_
 refine qSeq rfl ?_
 refine hSeq ?_
 refine hReg (sq 0 sz) (by kernel_rfl) ?_
 refine asI rfl rfl rfl ?_
 refine rNil ?_
 refine qSeq rfl ?_
 refine hSeq ?_
 refine hSeq ?_
 refine hReg (sq 0 sz) (by kernel_rfl) ?_
 refine asI rfl rfl rfl ?_
 refine rNil ?_
 refine qSeq rfl ?_
 refine hBlk ?_
 refine hLoop (α := Nat × Int) (fun x => x.1 ≤ nz ∧ x.2 = (z.take x.1).sum) (fun x => nz - x.1) (fun x => []) (fun x => [(0, .slice az nz cz), (3, .int .i64 x.2), (4, .int .i64 (x.1 : Int))]) (0, 0) ⟨Nat.zero_le _, rfl⟩ (fun _ h => h.pick []) ⟨rfl, rfl, rfl, trivial⟩ ?_
 rintro ⟨i, a⟩ τ1 ⟨hi, ha⟩
 dsimp only at hi ha
 refine hRe [(0, .slice az nz cz), (3, .int .i64 a), (4, .int .i64 (i : Int))] [] rfl rfl ?_
 refine hSeq ?_
 refine hSeq ?_
 refine hReg (sq 0 (sq 1 (sq 2 (sq 3 sz)))) (by kernel_rfl) ?_
 refine mvI rfl rfl rfl ?_
 refine mvS rfl rfl rfl ?_
 refine lenS Tryd.runUnderlying50 rfl rfl rfl ?_
 refine lss rfl rfl rfl rfl ?_
 refine rNil ?_
 refine qSeq rfl ?_
 refine hIfD rfl (fun c1 => ?_) (fun c1 => ?_)
 ·
  replace c1 : (i : Int) < (nz : Int) := c1
  have hs1 := Math.sum_bd hb i (by omega)
  have hs2 := hb _ (Math.getD_mem 0 (show i < z.length by omega))
  refine hSkip ?_
  refine qSeq rfl ?_
  refine hSeq ?_
  refine hBlk ?_
  refine hReg (sq 0 (sq 1 (sq 2 (sq 3 (sl 4 (sq 5 (sq 6 sz))))))) (by kernel_rfl) ?_
  refine mvI rfl rfl rfl ?_
  refine mvS rfl rfl rfl ?_
  refine mvI rfl rfl rfl ?_
  refine ixIl (zn := i) el50 (kz) rfl rfl rfl rfl (by omega) (by omega) rfl ?_
  intro ae1 e1
  refine ldl Tryd.isAgg2 (e1) trv rfl rfl rfl ?_
  refine add rfl rfl rfl rfl (by omega) ?_
  refine asI rfl rfl rfl ?_
  refine rNil ?_
  refine qSeq rfl ?_
  refine hReg (sq 0 (sq 1 (sq 2 sz))) (by kernel_rfl) ?_
  refine mvI rfl rfl rfl ?_
  refine add rfl rfl rfl rfl (by omega) ?_
  refine asI rfl rfl rfl ?_
  refine rNil ?_
  exact qNext rfl (i + 1, a + z.getD i 0) (by dsimp only; omega) ⟨by omega, by dsimp only; rw [ha, Math.sum_step (by omega)]⟩ ⟨rfl, rfl, rfl, trivial⟩ (fun _ h => h.pick [])
 ·
  replace c1 : ¬ ((i : Int) < (nz : Int)) := c1
  refine hExit rfl ?_
  refine qSeq rfl ?_
  refine hSeq ?_
  refine hReg (sq 0 (sq 1 sz)) (by kernel_rfl) ?_
  refine mvI rfl rfl rfl ?_
  refine asI rfl rfl rfl ?_
  refine rNil ?_
  refine qSeq rfl ?_
  refine hRet ?_
  exact fun w hs => ⟨[.int .i64 a], ⟨rfl, trivial⟩, ⟨vI (by rw [ha, List.take_of_length_le (by omega)]), hs.upd⟩⟩
end Go.Proofs.YtjengglpbdgmnaaDoor
