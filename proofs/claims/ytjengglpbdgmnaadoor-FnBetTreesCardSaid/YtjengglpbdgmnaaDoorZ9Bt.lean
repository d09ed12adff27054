/- Contracts of texts of trees. Their conditions stand in each. -/
import Derived.Test.YtjengglpbdgmnaaDoorZ8Bt
import Derived.Test.YtjengglpbdgmnaaDoorZ1Bt
import Derived.Test.YtjengglpbdgmnaaDoorZ2Bt
import Derived.Test.YtjengglpbdgmnaaDoorZ3Bt
import Derived.Test.YtjengglpbdgmnaaDoorZ4Bt
import Derived.Test.YtjengglpbdgmnaaDoorRows
import Derived.Stop.LaidErr
namespace Go.Proofs.YtjengglpbdgmnaaDoor
open Go Go.RowKit V
set_option linter.unusedVariables false
set_option linter.unusedSimpArgs false
set_option maxRecDepth 100000
theorem bsl22_1 (v0 : Value) (h0 : v0.cells = #[v0]) : ∀ w, (Instr.buildSlice 22 1 ([(0, v0)] : List (Nat × Value)).toArray).run Tryd.prog w = .ok (.slice (some ⟨w.heap.size, 0, none⟩) 1 1) (w.alloc (.cells ([v0] : List Value).toArray 5)) := by
 intro w; simp [Instr.buildSlice, Instr.fill, Tryd.zeroValue5, Tryd.runUnderlying22, Tryd.sizeOf5, Value.cells_int, newRow, show Array.range 1 = #[0] from by decide, h0]
theorem impl_decimal_c (n : Int) (w : World) (rtab : TabP w) (h0 : 0 ≤ n) (h1 : n ≤ 999) :
  Calls Tryd.prog 65 #[.int .i64 n] w (Ret fun v w' => v = sv (Math.dec n) ∧ Ext w w') := by
 have ktab : Kn w none_ [] (TabP) := fun w' hs => rtab.ext hs.upd
 refine fn (M := none_) (rs := [.tmp 2]) Tryd.func65 rfl Tryd.ntmps65 rfl rfl (Sep.start _ _) ?_
 refine hSeq ?_
 refine hReg (sq 0 sz) (by kernel_rfl) ?_
 refine asn (v := sv []) rfl rfl rfl ?_
 refine rNil ?_
 refine qSeq rfl ?_
 refine hSeq ?_
 refine hReg (sq 0 (sl 1 (sq 2 sz))) (by kernel_rfl) ?_
 refine mvI rfl rfl rfl ?_
 refine callP (v := sv (Math.dec n)) Tryd.call75 trv rfl rfl (fun w hs => formatInt_c _ w (ktab w hs) (by omega) (by omega)) ?_
 refine asn (v := sv (Math.dec n)) rfl rfl rfl ?_
 refine rNil ?_
 refine qSeq rfl ?_
 refine hRet ?_
 exact fun w hs => ⟨[sv (Math.dec n)], ⟨rfl, trivial⟩, ⟨rfl, hs.upd⟩⟩
theorem spec_l01Dec_c_r (kk_ : Nat) : ∀ (n : Int) (w : World), n.toNat = kk_ → (0 ≤ n) → (n ≤ 999) → Calls Tryd.prog 40 #[.int .i64 n] w (Ret fun v w' => v = sv (Math.dec n) ∧ Ext w w') := by
 induction kk_ using Nat.strongRecOn with
 | _ kk_ ih =>
  intro n w hK h0 h1
  refine fn (M := none_) (rs := [.tmp 2]) Tryd.func40 rfl Tryd.ntmps40 rfl rfl (Sep.start _ _) ?_
  refine hSeq ?_
  refine hReg (sq 0 sz) (by kernel_rfl) ?_
  refine asn (v := sv []) rfl rfl rfl ?_
  refine rNil ?_
  refine qSeq rfl ?_
  refine hSeq ?_
  refine hSeq ?_
  refine hReg (sq 0 (sq 1 sz)) (by kernel_rfl) ?_
  refine mvI rfl rfl rfl ?_
  refine lss rfl rfl rfl rfl ?_
  refine rNil ?_
  refine qSeq rfl ?_
  refine hIfD rfl (fun c1 => ?_) (fun c1 => ?_)
  ·
   replace c1 : n < 10 := c1
   refine hSeq ?_
   refine hReg (sq 0 (sq 1 (sq 2 (sl 3 (sl 4 (sq 5 sz)))))) (by kernel_rfl) ?_
   refine mvI rfl rfl rfl ?_
   refine add rfl rfl rfl rfl (by omega) ?_
   refine cnvU8 Tryd.runUnderlying2 Tryd.runUnderlying5 rfl rfl rfl (by omega) ?_
   refine bsl trv1 rfl rfl rfl (bsl22_1 (.int .u8 _) rfl) (fun bkl1 hbkl1 => ?_)
   refine cnvStr [(48 + n)] 0 rfl rfl rfl Tryd.underlying22 Tryd.underlying5 Tryd.underlying9 trv rfl rfl rfl ?_
   refine asn (v := sv (([(48 + n)].map fun z => UInt8.ofNat z.toNat))) rfl rfl rfl ?_
   refine rNil ?_
   refine qSeq rfl ?_
   refine hRet ?_
   exact fun w hs => ⟨[sv (([(48 + n)].map fun z => UInt8.ofNat z.toNat))], ⟨rfl, trivial⟩, ⟨by exact vS (Math.dec_small h0 c1).symm, hs.upd⟩⟩
  ·
   replace c1 : ¬ (n < 10) := c1
   refine hSkip ?_
   refine qSeq rfl ?_
   refine hSeq ?_
   refine hDraw (Ls := []) (by kernel_rfl) (sq 0 (sq 1 (sq 3 (sq 4 (sq 5 (sq 6 (.alt (sl 2 (sl 7 (sl 8 (sq 9 (sq 10 sz))))) (sl 7 (.alt (sl 2 (sl 8 (sq 9 (sq 10 sz)))) (sl 8 (sl 2 (sq 9 (sq 10 sz))))))))))))) (by kernel_rfl) .slnil ?_
   refine mvI rfl rfl rfl ?_
   refine quo rfl rfl rfl rfl (by omega) ?_
   refine mvI rfl rfl rfl ?_
   refine rem rfl rfl rfl rfl (by omega) ?_
   refine add rfl rfl rfl rfl (by omega) ?_
   refine cnvU8 Tryd.runUnderlying2 Tryd.runUnderlying5 rfl rfl rfl (by omega) ?_
   refine rAlt ?_ ?_
   ·
    refine callP (v := sv ((Math.dec (n / 10)))) Tryd.call40 (fun _ h => h.pick []) rfl rfl (fun w hs => ih _ (by omega) _ w rfl (by omega) (by omega)) ?_
    have hslq1 := show (Math.dec (n / 10)).length ≤ 3 from Math.dec_len3 (by omega)
    refine bsl (fun _ _ h => h.pick []) rfl rfl rfl (bsl22_1 (.int .u8 _) rfl) (fun bkl2 hbkl2 => ?_)
    refine cnvStr [(48 + (n % 10))] 0 rfl rfl rfl Tryd.underlying22 Tryd.underlying5 Tryd.underlying9 (fun _ h => h.pick []) rfl rfl rfl ?_
    refine strAdd rfl rfl rfl rfl (by first | (simp only [List.length_append, List.length_cons, List.length_nil, List.length_map]; omega) | omega) ?_
    refine asn (v := sv (((Math.dec (n / 10)) ++ ([(48 + (n % 10))].map fun z => UInt8.ofNat z.toNat)))) rfl rfl rfl ?_
    refine rNil ?_
    refine qSeq rfl ?_
    refine hRet ?_
    exact fun w hs => ⟨[sv (((Math.dec (n / 10)) ++ ([(48 + (n % 10))].map fun z => UInt8.ofNat z.toNat)))], ⟨rfl, trivial⟩, ⟨by exact vS (Math.dec_step c1).symm, hs.upd⟩⟩
   ·
    refine bsl (fun _ _ h => h.pick []) rfl rfl rfl (bsl22_1 (.int .u8 _) rfl) (fun bkl3 hbkl3 => ?_)
    refine rAlt ?_ ?_
    ·
     refine callP (v := sv ((Math.dec (n / 10)))) Tryd.call40 (fun _ h => h.pick []) rfl rfl (fun w hs => ih _ (by omega) _ w rfl (by omega) (by omega)) ?_
     have hslq2 := show (Math.dec (n / 10)).length ≤ 3 from Math.dec_len3 (by omega)
     refine cnvStr [(48 + (n % 10))] 0 rfl rfl rfl Tryd.underlying22 Tryd.underlying5 Tryd.underlying9 (fun _ h => h.pick []) rfl rfl rfl ?_
     refine strAdd rfl rfl rfl rfl (by first | (simp only [List.length_append, List.length_cons, List.length_nil, List.length_map]; omega) | omega) ?_
     refine asn (v := sv (((Math.dec (n / 10)) ++ ([(48 + (n % 10))].map fun z => UInt8.ofNat z.toNat)))) rfl rfl rfl ?_
     refine rNil ?_
     refine qSeq rfl ?_
     refine hRet ?_
     exact fun w hs => ⟨[sv (((Math.dec (n / 10)) ++ ([(48 + (n % 10))].map fun z => UInt8.ofNat z.toNat)))], ⟨rfl, trivial⟩, ⟨by exact vS (Math.dec_step c1).symm, hs.upd⟩⟩
    ·
     refine cnvStr [(48 + (n % 10))] 0 rfl rfl rfl Tryd.underlying22 Tryd.underlying5 Tryd.underlying9 (fun _ h => h.pick []) rfl rfl rfl ?_
     refine callP (v := sv ((Math.dec (n / 10)))) Tryd.call40 (fun _ h => h.pick []) rfl rfl (fun w hs => ih _ (by omega) _ w rfl (by omega) (by omega)) ?_
     have hslq3 := show (Math.dec (n / 10)).length ≤ 3 from Math.dec_len3 (by omega)
     refine strAdd rfl rfl rfl rfl (by first | (simp only [List.length_append, List.length_cons, List.length_nil, List.length_map]; omega) | omega) ?_
     refine asn (v := sv (((Math.dec (n / 10)) ++ ([(48 + (n % 10))].map fun z => UInt8.ofNat z.toNat)))) rfl rfl rfl ?_
     refine rNil ?_
     refine qSeq rfl ?_
     refine hRet ?_
     exact fun w hs => ⟨[sv (((Math.dec (n / 10)) ++ ([(48 + (n % 10))].map fun z => UInt8.ofNat z.toNat)))], ⟨rfl, trivial⟩, ⟨by exact vS (Math.dec_step c1).symm, hs.upd⟩⟩
theorem spec_l01Dec_c (n : Int) (w : World) (h0 : 0 ≤ n) (h1 : n ≤ 999) :
  Calls Tryd.prog 40 #[.int .i64 n] w (Ret fun v w' => v = sv (Math.dec n) ∧ Ext w w') := spec_l01Dec_c_r _ n w rfl h0 h1
set_option maxHeartbeats 1000000 in
theorem spec_l20Text_c_r (kk_ : Nat) : ∀ (az : Option Addr) (nz : Nat) (cz : Nat) (Hz : Nat → Hd) (z : List Nd) (u : Int) (w : World), nz - u.toNat = kk_ → RdR ndK az nz Hz z w → (Math.isTree z = true) → (0 ≤ u ∧ u < nz) → (Math.depth z u.toNat ≤ 5) → Calls Tryd.prog 50 #[.agg #[.slice az nz cz], .int .i64 u] w (Ret fun v w' => v = sv (Math.text z u) ∧ Ext w w') := by
 induction kk_ using Nat.strongRecOn with
 | _ kk_ ih =>
  intro az nz cz Hz z u w hK rz ht hu hd
  have kz : Kn w none_ [] (RdR ndK az nz Hz z) := fun w' hs => rz.ext hs.upd
  have lz : z.length = nz := rz.1
  have mz : nz ≤ 9223372036854775807 := rz.2.1
  have hT := Math.isTree_ok ht
  have ho := Math.ok_pl ((Math.allOk_iff' lz).1 hT.2.1 u.toNat (by omega))
  have hop := Math.openT_len ho.1 ho.2.1 ho.2.2.1 ho.2.2.2.1
  refine fn (M := none_) (rs := [.tmp 4]) Tryd.func50 rfl Tryd.ntmps50 rfl rfl (Sep.start _ _) ?_
  refine hSeq ?_
  refine hReg (sl 0 (sq 1 sz)) (by kernel_rfl) ?_
  refine box trv1 rfl rfl rfl rfl (fun bkb1 hbkb1 => ?_)
  refine asn (v := sv []) rfl rfl rfl ?_
  refine rNil ?_
  refine qSeq rfl ?_
  refine hSeq ?_
  refine hReg (sq 0 (sl 1 (sq 2 (sq 3 (sl 4 (sl 5 (sl 6 sz))))))) (by kernel_rfl) ?_
  refine fld fl26_0 rfl rfl rfl ?_
  refine ldl Tryd.isAgg24 (cB 0 rfl rfl) trv rfl rfl rfl ?_
  refine mvI rfl rfl rfl ?_
  refine ixRl (zn := (u).toNat) (z.getD ((u).toNat) dN) el24 (Kn.drop (k := 1) kz) rfl rfl rfl rfl (by omega) (by omega) rfl (nth dN (by omega)) ?_
  intro be1 oe1 e1
  refine ldAl Tryd.isAgg52 Tryd.sizeOf52 (e1) trv rfl rfl rfl rfl ?_
  refine alc Tryd.zeroValue52 rfl trv1 rfl rfl (fun bka2 hbka2 => ?_)
  refine stAl (vs := [.int .i64 ((z.getD ((u).toNat) dN).pl), .int .i64 ((z.getD ((u).toNat) dN).p0), .int .i64 ((z.getD ((u).toNat) dN).p1), .int .i64 ((z.getD ((u).toNat) dN).fo), .slice ((Hz ((u).toNat)).1) (((z.getD ((u).toNat) dN).ch).length) ((Hz ((u).toNat)).2)]) 0 rfl Tryd.sizeOf52 trv rfl rfl rfl rfl rfl (by simp [Value.oneCell']) rfl ?_
  refine rNil ?_
  refine qSeq rfl ?_
  refine hSeq ?_
  refine hReg (sq 0 sz) (by kernel_rfl) ?_
  refine asn (v := sv [115]) rfl rfl rfl ?_
  refine rNil ?_
  refine qSeq rfl ?_
  refine hSeq ?_
  refine hBlk ?_
  refine hSeq ?_
  refine hReg (sq 0 (sl 1 (sq 2 (sq 3 sz)))) (by kernel_rfl) ?_
  refine fld fl52_0 rfl rfl rfl ?_
  refine ldl Tryd.isAgg2 (cB 0 rfl rfl) trv rfl rfl rfl ?_
  refine neq rfl rfl rfl rfl ?_
  refine asB rfl rfl rfl ?_
  refine rNil ?_
  refine qSeq rfl ?_
  refine hIfD rfl (fun c1 => ?_) (fun c1 => ?_)
  ·
   replace c1 : (z.getD ((u).toNat) dN).pl ≠ 2 := c1
   refine hReg (sq 0 (sl 1 (sl 2 (sq 3 (sq 4 sz))))) (by kernel_rfl) ?_
   refine fld fl52_0 rfl rfl rfl ?_
   refine ldl Tryd.isAgg2 (cB 0 rfl rfl) trv rfl rfl rfl ?_
   refine callP (v := sv ((Math.dec ((z.getD ((u).toNat) dN).pl)))) Tryd.call40 trv rfl rfl (fun w hs => spec_l01Dec_c _ w (by omega) (by omega)) ?_
   have hslq2 := show (Math.dec ((z.getD ((u).toNat) dN).pl)).length ≤ 3 from Math.dec_len3 (by omega)
   refine strAdd rfl rfl rfl rfl (by first | (simp only [List.length_append, List.length_cons, List.length_nil, List.length_map]; omega) | omega) ?_
   refine asn (v := sv (([112] ++ (Math.dec ((z.getD ((u).toNat) dN).pl))))) rfl rfl rfl ?_
   refine rNil ?_
   refine qSeq rfl ?_
   refine hSeq ?_
   refine hDraw (Ls := [blk bka2 52 [.int .i64 ((z.getD ((u).toNat) dN).pl), .int .i64 ((z.getD ((u).toNat) dN).p0), .int .i64 ((z.getD ((u).toNat) dN).p1), .int .i64 ((z.getD ((u).toNat) dN).fo), .slice ((Hz ((u).toNat)).1) (((z.getD ((u).toNat) dN).ch).length) ((Hz ((u).toNat)).2)]]) (by kernel_rfl) (sq 0 (sq 1 (sq 2 (sq 3 (sq 4 (sq 8 (sq 9 (sl 5 (sq 6 (sq 7 (sl 10 (sq 11 (sq 12 sz))))))))))))) (by kernel_rfl) (.cons_cons _ (.cons _ .slnil)) ?_
   refine mv (v := sv (([112] ++ (Math.dec ((z.getD ((u).toNat) dN).pl))))) rfl rfl rfl ?_
   refine strAdd rfl rfl rfl rfl (by first | (simp only [List.length_append, List.length_cons, List.length_nil, List.length_map]; omega) | omega) ?_
   refine strAdd rfl rfl rfl rfl (by first | (simp only [List.length_append, List.length_cons, List.length_nil, List.length_map]; omega) | omega) ?_
   refine fld fl52_1 rfl rfl rfl ?_
   refine ldq Tryd.isAgg2 (cB 0 rfl rfl) rfl rfl rfl ?_
   refine fld fl52_2 rfl rfl rfl ?_
   refine ldq Tryd.isAgg2 (cB 0 rfl rfl) rfl rfl rfl ?_
   refine callP (v := sv ((Math.dec ((z.getD ((u).toNat) dN).p0)))) Tryd.call40 (fun _ h => h.pick [0]) rfl rfl (fun w hs => spec_l01Dec_c _ w (by omega) (by omega)) ?_
   have hslq3 := show (Math.dec ((z.getD ((u).toNat) dN).p0)).length ≤ 3 from Math.dec_len3 (by omega)
   refine strAdd rfl rfl rfl rfl (by first | (simp only [List.length_append, List.length_cons, List.length_nil, List.length_map]; omega) | omega) ?_
   refine strAdd rfl rfl rfl rfl (by first | (simp only [List.length_append, List.length_cons, List.length_nil, List.length_map]; omega) | omega) ?_
   refine callP (v := sv ((Math.dec ((z.getD ((u).toNat) dN).p1)))) Tryd.call40 (fun _ h => h.pick [0]) rfl rfl (fun w hs => spec_l01Dec_c _ w (by omega) (by omega)) ?_
   have hslq4 := show (Math.dec ((z.getD ((u).toNat) dN).p1)).length ≤ 3 from Math.dec_len3 (by omega)
   refine strAdd rfl rfl rfl rfl (by first | (simp only [List.length_append, List.length_cons, List.length_nil, List.length_map]; omega) | omega) ?_
   refine asn (v := sv (((((([40] ++ ([112] ++ (Math.dec ((z.getD ((u).toNat) dN).pl)))) ++ [32]) ++ (Math.dec ((z.getD ((u).toNat) dN).p0))) ++ [47]) ++ (Math.dec ((z.getD ((u).toNat) dN).p1))))) rfl rfl rfl ?_
   refine rNil ?_
   refine qSeq rfl ?_
   refine hSeq ?_
   refine hSeq ?_
   refine hReg (sq 0 sz) (by kernel_rfl) ?_
   refine asI rfl rfl rfl ?_
   refine rNil ?_
   refine qSeq rfl ?_
   refine hBlk ?_
   rw [show ((((([40] ++ ([112] ++ (Math.dec ((z.getD ((u).toNat) dN).pl)))) ++ [32]) ++ (Math.dec ((z.getD ((u).toNat) dN).p0))) ++ [47]) ++ (Math.dec ((z.getD ((u).toNat) dN).p1))) = Math.textTo z u 0 from by rw [Math.textTo_0]; unfold Math.openT; rw [Math.head_p (x := (z.getD u.toNat dN)) (by omega)]; try simp only [List.cons_append, List.nil_append, List.append_assoc]]
   refine hLoop (α := Nat) (fun i => i ≤ (z.getD u.toNat dN).ch.length) (fun i => (z.getD u.toNat dN).ch.length - i) (fun i => [blk bka2 52 [.int .i64 ((z.getD ((u).toNat) dN).pl), .int .i64 ((z.getD ((u).toNat) dN).p0), .int .i64 ((z.getD ((u).toNat) dN).p1), .int .i64 ((z.getD ((u).toNat) dN).fo), .slice ((Hz ((u).toNat)).1) (((z.getD ((u).toNat) dN).ch).length) ((Hz ((u).toNat)).2)], blk bkb1 26 [.slice az nz cz]]) (fun i => [(2, .pointer (some ⟨bkb1, 0, none⟩)), (5, .pointer (some ⟨bka2, 0, none⟩)), (7, sv (Math.textTo z u i)), (8, .int .i64 (i : Int))]) 0 (Nat.zero_le _) (fun _ h => h.pick [0, 0]) ⟨rfl, rfl, rfl, rfl, trivial⟩ ?_
   rintro i τ1 hi
   have htl := Math.textTo_len ht (v := u) (by omega) hd i
   refine hSeq ?_
   refine hSeq ?_
   refine hReg (sq 0 (sq 1 (sl 2 (sq 3 (sq 4 sz))))) (by kernel_rfl) ?_
   refine mvI rfl rfl rfl ?_
   refine fld fl52_4 rfl rfl rfl ?_
   refine ldl Tryd.isAgg50 (cB 0 rfl rfl) trv rfl rfl rfl ?_
   refine lenS Tryd.runUnderlying50 rfl rfl rfl ?_
   refine lss rfl rfl rfl rfl ?_
   refine rNil ?_
   refine qSeq rfl ?_
   refine hIfD rfl (fun c2 => ?_) (fun c2 => ?_)
   ·
    replace c2 : (i : Int) < ((((z.getD ((u).toNat) dN).ch).length : Nat) : Int) := c2
    have hkd := Math.kid_ok ht (v := u) (by omega) hd (i := i) (by omega)
    refine hSkip ?_
    refine qSeq rfl ?_
    refine hSeq ?_
    refine hBlk ?_
    refine hDraw (Ls := [blk bka2 52 [.int .i64 ((z.getD ((u).toNat) dN).pl), .int .i64 ((z.getD ((u).toNat) dN).p0), .int .i64 ((z.getD ((u).toNat) dN).p1), .int .i64 ((z.getD ((u).toNat) dN).fo), .slice ((Hz ((u).toNat)).1) (((z.getD ((u).toNat) dN).ch).length) ((Hz ((u).toNat)).2)], blk bkb1 26 [.slice az nz cz]]) (by kernel_rfl) (sq 0 (sq 1 (sq 2 (sq 3 (sq 4 (sq 5 (sq 6 (sl 7 (sq 8 (sq 9 sz)))))))))) (by kernel_rfl) (.cons_cons _ (.cons_cons _ .slnil)) ?_
    refine mv (v := sv (Math.textTo z u i)) rfl rfl rfl ?_
    refine ldAq Tryd.isAgg26 Tryd.sizeOf26 (cBs 1 rfl) rfl rfl rfl rfl ?_
    refine fld fl52_4 rfl rfl rfl ?_
    refine ldq Tryd.isAgg50 (cB 0 rfl rfl) rfl rfl rfl ?_
    refine mvI rfl rfl rfl ?_
    refine ixIq (zn := i) el50 (Kn.drop (k := 2) ((Kn.imp kz fun _ h => h.kidN (nth dN (by omega))))) (fun _ h => h.pick [0, 0]) rfl rfl rfl rfl (by omega) (by omega) rfl ?_
    intro ae5 e5
    refine ldq Tryd.isAgg2 (e5) rfl rfl rfl ?_
    refine callP (v := sv ((Math.text z ((((z.getD ((u).toNat) dN).ch).getD i 0))))) Tryd.call50 (fun _ h => h.pick [0, 0]) rfl rfl (fun w hs => ih _ (by omega) _ nz cz _ _ _ w rfl (Kn.drop (k := 2) kz w hs) (by assumption) (by omega) (by omega)) ?_
    have hslq6 := show (Math.text z ((((z.getD ((u).toNat) dN).ch).getD i 0))).length ≤ 62500 from Math.text_len (by assumption) ⟨by omega, by omega⟩ (by omega)
    refine strAdd rfl rfl rfl rfl (by first | (simp only [List.length_append, List.length_cons, List.length_nil, List.length_map]; omega) | omega) ?_
    refine asn (v := sv (((Math.textTo z u i) ++ (Math.text z ((((z.getD ((u).toNat) dN).ch).getD i 0)))))) rfl rfl rfl ?_
    refine rNil ?_
    refine qSeq rfl ?_
    refine hReg (sq 0 (sq 1 (sq 2 sz))) (by kernel_rfl) ?_
    refine mvI rfl rfl rfl ?_
    refine add rfl rfl rfl rfl (by omega) ?_
    refine asI rfl rfl rfl ?_
    refine rNil ?_
    rw [← Math.textTo_s (by omega)]
    exact qNext rfl (i + 1) (by omega) (by omega) ⟨rfl, rfl, rfl, rfl, trivial⟩ (fun _ h => h.pick [0, 0])
   ·
    replace c2 : ¬ ((i : Int) < ((((z.getD ((u).toNat) dN).ch).length : Nat) : Int)) := c2
    refine hExit rfl ?_
    refine qSeq rfl ?_
    refine hSeq ?_
    refine hReg (sq 0 (sq 1 (sq 2 sz))) (by kernel_rfl) ?_
    refine mv (v := sv (Math.textTo z u i)) rfl rfl rfl ?_
    refine strAdd rfl rfl rfl rfl (by first | (simp only [List.length_append, List.length_cons, List.length_nil, List.length_map]; omega) | omega) ?_
    refine asn (v := sv (((Math.textTo z u i) ++ [41]))) rfl rfl rfl ?_
    refine rNil ?_
    refine qSeq rfl ?_
    refine hRet ?_
    exact fun w hs => ⟨[sv (((Math.textTo z u i) ++ [41]))], ⟨rfl, trivial⟩, ⟨by exact vS (Math.text_step hT.2.1 (by omega) (by omega)).symm, hs.upd⟩⟩
  ·
   replace c1 : ¬ ((z.getD ((u).toNat) dN).pl ≠ 2) := c1
   refine hSeq ?_
   refine hReg (sq 0 (sl 1 (sq 2 (sq 3 sz)))) (by kernel_rfl) ?_
   refine fld fl52_3 rfl rfl rfl ?_
   refine ldl Tryd.isAgg2 (cB 0 rfl rfl) trv rfl rfl rfl ?_
   refine geq rfl rfl rfl rfl ?_
   refine asB rfl rfl rfl ?_
   refine rNil ?_
   refine qSeq rfl ?_
   refine hIfD rfl (fun c3 => ?_) (fun c3 => ?_)
   ·
    replace c3 : 0 ≤ (z.getD ((u).toNat) dN).fo := c3
    refine hReg (sq 0 (sl 1 (sl 2 (sq 3 (sq 4 sz))))) (by kernel_rfl) ?_
    refine fld fl52_3 rfl rfl rfl ?_
    refine ldl Tryd.isAgg2 (cB 0 rfl rfl) trv rfl rfl rfl ?_
    refine callP (v := sv ((Math.dec ((z.getD ((u).toNat) dN).fo)))) Tryd.call40 trv rfl rfl (fun w hs => spec_l01Dec_c _ w (by omega) (by omega)) ?_
    have hslq7 := show (Math.dec ((z.getD ((u).toNat) dN).fo)).length ≤ 3 from Math.dec_len3 (by omega)
    refine strAdd rfl rfl rfl rfl (by first | (simp only [List.length_append, List.length_cons, List.length_nil, List.length_map]; omega) | omega) ?_
    refine asn (v := sv (([102] ++ (Math.dec ((z.getD ((u).toNat) dN).fo))))) rfl rfl rfl ?_
    refine rNil ?_
    refine qSeq rfl ?_
    refine hSeq ?_
    refine hDraw (Ls := [blk bka2 52 [.int .i64 ((z.getD ((u).toNat) dN).pl), .int .i64 ((z.getD ((u).toNat) dN).p0), .int .i64 ((z.getD ((u).toNat) dN).p1), .int .i64 ((z.getD ((u).toNat) dN).fo), .slice ((Hz ((u).toNat)).1) (((z.getD ((u).toNat) dN).ch).length) ((Hz ((u).toNat)).2)]]) (by kernel_rfl) (sq 0 (sq 1 (sq 2 (sq 3 (sq 4 (sq 8 (sq 9 (sl 5 (sq 6 (sq 7 (sl 10 (sq 11 (sq 12 sz))))))))))))) (by kernel_rfl) (.cons_cons _ (.cons _ .slnil)) ?_
    refine mv (v := sv (([102] ++ (Math.dec ((z.getD ((u).toNat) dN).fo))))) rfl rfl rfl ?_
    refine strAdd rfl rfl rfl rfl (by first | (simp only [List.length_append, List.length_cons, List.length_nil, List.length_map]; omega) | omega) ?_
    refine strAdd rfl rfl rfl rfl (by first | (simp only [List.length_append, List.length_cons, List.length_nil, List.length_map]; omega) | omega) ?_
    refine fld fl52_1 rfl rfl rfl ?_
    refine ldq Tryd.isAgg2 (cB 0 rfl rfl) rfl rfl rfl ?_
    refine fld fl52_2 rfl rfl rfl ?_
    refine ldq Tryd.isAgg2 (cB 0 rfl rfl) rfl rfl rfl ?_
    refine callP (v := sv ((Math.dec ((z.getD ((u).toNat) dN).p0)))) Tryd.call40 (fun _ h => h.pick [0]) rfl rfl (fun w hs => spec_l01Dec_c _ w (by omega) (by omega)) ?_
    have hslq8 := show (Math.dec ((z.getD ((u).toNat) dN).p0)).length ≤ 3 from Math.dec_len3 (by omega)
    refine strAdd rfl rfl rfl rfl (by first | (simp only [List.length_append, List.length_cons, List.length_nil, List.length_map]; omega) | omega) ?_
    refine strAdd rfl rfl rfl rfl (by first | (simp only [List.length_append, List.length_cons, List.length_nil, List.length_map]; omega) | omega) ?_
    refine callP (v := sv ((Math.dec ((z.getD ((u).toNat) dN).p1)))) Tryd.call40 (fun _ h => h.pick [0]) rfl rfl (fun w hs => spec_l01Dec_c _ w (by omega) (by omega)) ?_
    have hslq9 := show (Math.dec ((z.getD ((u).toNat) dN).p1)).length ≤ 3 from Math.dec_len3 (by omega)
    refine strAdd rfl rfl rfl rfl (by first | (simp only [List.length_append, List.length_cons, List.length_nil, List.length_map]; omega) | omega) ?_
    refine asn (v := sv (((((([40] ++ ([102] ++ (Math.dec ((z.getD ((u).toNat) dN).fo)))) ++ [32]) ++ (Math.dec ((z.getD ((u).toNat) dN).p0))) ++ [47]) ++ (Math.dec ((z.getD ((u).toNat) dN).p1))))) rfl rfl rfl ?_
    refine rNil ?_
    refine qSeq rfl ?_
    refine hSeq ?_
    refine hSeq ?_
    refine hReg (sq 0 sz) (by kernel_rfl) ?_
    refine asI rfl rfl rfl ?_
    refine rNil ?_
    refine qSeq rfl ?_
    refine hBlk ?_
    rw [show ((((([40] ++ ([102] ++ (Math.dec ((z.getD ((u).toNat) dN).fo)))) ++ [32]) ++ (Math.dec ((z.getD ((u).toNat) dN).p0))) ++ [47]) ++ (Math.dec ((z.getD ((u).toNat) dN).p1))) = Math.textTo z u 0 from by rw [Math.textTo_0]; unfold Math.openT; rw [Math.head_f (x := (z.getD u.toNat dN)) (by omega) (by omega)]; try simp only [List.cons_append, List.nil_append, List.append_assoc]]
    refine hLoop (α := Nat) (fun i => i ≤ (z.getD u.toNat dN).ch.length) (fun i => (z.getD u.toNat dN).ch.length - i) (fun i => [blk bka2 52 [.int .i64 ((z.getD ((u).toNat) dN).pl), .int .i64 ((z.getD ((u).toNat) dN).p0), .int .i64 ((z.getD ((u).toNat) dN).p1), .int .i64 ((z.getD ((u).toNat) dN).fo), .slice ((Hz ((u).toNat)).1) (((z.getD ((u).toNat) dN).ch).length) ((Hz ((u).toNat)).2)], blk bkb1 26 [.slice az nz cz]]) (fun i => [(2, .pointer (some ⟨bkb1, 0, none⟩)), (5, .pointer (some ⟨bka2, 0, none⟩)), (7, sv (Math.textTo z u i)), (8, .int .i64 (i : Int))]) 0 (Nat.zero_le _) (fun _ h => h.pick [0, 0]) ⟨rfl, rfl, rfl, rfl, trivial⟩ ?_
    rintro i τ2 hi
    have htl := Math.textTo_len ht (v := u) (by omega) hd i
    refine hSeq ?_
    refine hSeq ?_
    refine hReg (sq 0 (sq 1 (sl 2 (sq 3 (sq 4 sz))))) (by kernel_rfl) ?_
    refine mvI rfl rfl rfl ?_
    refine fld fl52_4 rfl rfl rfl ?_
    refine ldl Tryd.isAgg50 (cB 0 rfl rfl) trv rfl rfl rfl ?_
    refine lenS Tryd.runUnderlying50 rfl rfl rfl ?_
    refine lss rfl rfl rfl rfl ?_
    refine rNil ?_
    refine qSeq rfl ?_
    refine hIfD rfl (fun c4 => ?_) (fun c4 => ?_)
    ·
     replace c4 : (i : Int) < ((((z.getD ((u).toNat) dN).ch).length : Nat) : Int) := c4
     have hkd := Math.kid_ok ht (v := u) (by omega) hd (i := i) (by omega)
     refine hSkip ?_
     refine qSeq rfl ?_
     refine hSeq ?_
     refine hBlk ?_
     refine hDraw (Ls := [blk bka2 52 [.int .i64 ((z.getD ((u).toNat) dN).pl), .int .i64 ((z.getD ((u).toNat) dN).p0), .int .i64 ((z.getD ((u).toNat) dN).p1), .int .i64 ((z.getD ((u).toNat) dN).fo), .slice ((Hz ((u).toNat)).1) (((z.getD ((u).toNat) dN).ch).length) ((Hz ((u).toNat)).2)], blk bkb1 26 [.slice az nz cz]]) (by kernel_rfl) (sq 0 (sq 1 (sq 2 (sq 3 (sq 4 (sq 5 (sq 6 (sl 7 (sq 8 (sq 9 sz)))))))))) (by kernel_rfl) (.cons_cons _ (.cons_cons _ .slnil)) ?_
     refine mv (v := sv (Math.textTo z u i)) rfl rfl rfl ?_
     refine ldAq Tryd.isAgg26 Tryd.sizeOf26 (cBs 1 rfl) rfl rfl rfl rfl ?_
     refine fld fl52_4 rfl rfl rfl ?_
     refine ldq Tryd.isAgg50 (cB 0 rfl rfl) rfl rfl rfl ?_
     refine mvI rfl rfl rfl ?_
     refine ixIq (zn := i) el50 (Kn.drop (k := 2) ((Kn.imp kz fun _ h => h.kidN (nth dN (by omega))))) (fun _ h => h.pick [0, 0]) rfl rfl rfl rfl (by omega) (by omega) rfl ?_
     intro ae10 e10
     refine ldq Tryd.isAgg2 (e10) rfl rfl rfl ?_
     refine callP (v := sv ((Math.text z ((((z.getD ((u).toNat) dN).ch).getD i 0))))) Tryd.call50 (fun _ h => h.pick [0, 0]) rfl rfl (fun w hs => ih _ (by omega) _ nz cz _ _ _ w rfl (Kn.drop (k := 2) kz w hs) (by assumption) (by omega) (by omega)) ?_
     have hslq11 := show (Math.text z ((((z.getD ((u).toNat) dN).ch).getD i 0))).length ≤ 62500 from Math.text_len (by assumption) ⟨by omega, by omega⟩ (by omega)
     refine strAdd rfl rfl rfl rfl (by first | (simp only [List.length_append, List.length_cons, List.length_nil, List.length_map]; omega) | omega) ?_
     refine asn (v := sv (((Math.textTo z u i) ++ (Math.text z ((((z.getD ((u).toNat) dN).ch).getD i 0)))))) rfl rfl rfl ?_
     refine rNil ?_
     refine qSeq rfl ?_
     refine hReg (sq 0 (sq 1 (sq 2 sz))) (by kernel_rfl) ?_
     refine mvI rfl rfl rfl ?_
     refine add rfl rfl rfl rfl (by omega) ?_
     refine asI rfl rfl rfl ?_
     refine rNil ?_
     rw [← Math.textTo_s (by omega)]
     exact qNext rfl (i + 1) (by omega) (by omega) ⟨rfl, rfl, rfl, rfl, trivial⟩ (fun _ h => h.pick [0, 0])
    ·
     replace c4 : ¬ ((i : Int) < ((((z.getD ((u).toNat) dN).ch).length : Nat) : Int)) := c4
     refine hExit rfl ?_
     refine qSeq rfl ?_
     refine hSeq ?_
     refine hReg (sq 0 (sq 1 (sq 2 sz))) (by kernel_rfl) ?_
     refine mv (v := sv (Math.textTo z u i)) rfl rfl rfl ?_
     refine strAdd rfl rfl rfl rfl (by first | (simp only [List.length_append, List.length_cons, List.length_nil, List.length_map]; omega) | omega) ?_
     refine asn (v := sv (((Math.textTo z u i) ++ [41]))) rfl rfl rfl ?_
     refine rNil ?_
     refine qSeq rfl ?_
     refine hRet ?_
     exact fun w hs => ⟨[sv (((Math.textTo z u i) ++ [41]))], ⟨rfl, trivial⟩, ⟨by exact vS (Math.text_step hT.2.1 (by omega) (by omega)).symm, hs.upd⟩⟩
   ·
    replace c3 : ¬ (0 ≤ (z.getD ((u).toNat) dN).fo) := c3
    refine hSkip ?_
    refine qSeq rfl ?_
    refine hSeq ?_
    refine hDraw (Ls := [blk bka2 52 [.int .i64 ((z.getD ((u).toNat) dN).pl), .int .i64 ((z.getD ((u).toNat) dN).p0), .int .i64 ((z.getD ((u).toNat) dN).p1), .int .i64 ((z.getD ((u).toNat) dN).fo), .slice ((Hz ((u).toNat)).1) (((z.getD ((u).toNat) dN).ch).length) ((Hz ((u).toNat)).2)]]) (by kernel_rfl) (sq 0 (sq 1 (sq 2 (sq 3 (sq 4 (sq 8 (sq 9 (sl 5 (sq 6 (sq 7 (sl 10 (sq 11 (sq 12 sz))))))))))))) (by kernel_rfl) (.cons_cons _ (.cons _ .slnil)) ?_
    refine mv (v := sv [115]) rfl rfl rfl ?_
    refine strAdd rfl rfl rfl rfl (by first | (simp only [List.length_append, List.length_cons, List.length_nil, List.length_map]; omega) | omega) ?_
    refine strAdd rfl rfl rfl rfl (by first | (simp only [List.length_append, List.length_cons, List.length_nil, List.length_map]; omega) | omega) ?_
    refine fld fl52_1 rfl rfl rfl ?_
    refine ldq Tryd.isAgg2 (cB 0 rfl rfl) rfl rfl rfl ?_
    refine fld fl52_2 rfl rfl rfl ?_
    refine ldq Tryd.isAgg2 (cB 0 rfl rfl) rfl rfl rfl ?_
    refine callP (v := sv ((Math.dec ((z.getD ((u).toNat) dN).p0)))) Tryd.call40 (fun _ h => h.pick [0]) rfl rfl (fun w hs => spec_l01Dec_c _ w (by omega) (by omega)) ?_
    have hslq12 := show (Math.dec ((z.getD ((u).toNat) dN).p0)).length ≤ 3 from Math.dec_len3 (by omega)
    refine strAdd rfl rfl rfl rfl (by first | (simp only [List.length_append, List.length_cons, List.length_nil, List.length_map]; omega) | omega) ?_
    refine strAdd rfl rfl rfl rfl (by first | (simp only [List.length_append, List.length_cons, List.length_nil, List.length_map]; omega) | omega) ?_
    refine callP (v := sv ((Math.dec ((z.getD ((u).toNat) dN).p1)))) Tryd.call40 (fun _ h => h.pick [0]) rfl rfl (fun w hs => spec_l01Dec_c _ w (by omega) (by omega)) ?_
    have hslq13 := show (Math.dec ((z.getD ((u).toNat) dN).p1)).length ≤ 3 from Math.dec_len3 (by omega)
    refine strAdd rfl rfl rfl rfl (by first | (simp only [List.length_append, List.length_cons, List.length_nil, List.length_map]; omega) | omega) ?_
    refine asn (v := sv (((((([40] ++ [115]) ++ [32]) ++ (Math.dec ((z.getD ((u).toNat) dN).p0))) ++ [47]) ++ (Math.dec ((z.getD ((u).toNat) dN).p1))))) rfl rfl rfl ?_
    refine rNil ?_
    refine qSeq rfl ?_
    refine hSeq ?_
    refine hSeq ?_
    refine hReg (sq 0 sz) (by kernel_rfl) ?_
    refine asI rfl rfl rfl ?_
    refine rNil ?_
    refine qSeq rfl ?_
    refine hBlk ?_
    rw [show ((((([40] ++ [115]) ++ [32]) ++ (Math.dec ((z.getD ((u).toNat) dN).p0))) ++ [47]) ++ (Math.dec ((z.getD ((u).toNat) dN).p1))) = Math.textTo z u 0 from by rw [Math.textTo_0]; unfold Math.openT; rw [Math.head_s (x := (z.getD u.toNat dN)) (by omega) (by omega)]; try simp only [List.cons_append, List.nil_append, List.append_assoc]]
    refine hLoop (α := Nat) (fun i => i ≤ (z.getD u.toNat dN).ch.length) (fun i => (z.getD u.toNat dN).ch.length - i) (fun i => [blk bka2 52 [.int .i64 ((z.getD ((u).toNat) dN).pl), .int .i64 ((z.getD ((u).toNat) dN).p0), .int .i64 ((z.getD ((u).toNat) dN).p1), .int .i64 ((z.getD ((u).toNat) dN).fo), .slice ((Hz ((u).toNat)).1) (((z.getD ((u).toNat) dN).ch).length) ((Hz ((u).toNat)).2)], blk bkb1 26 [.slice az nz cz]]) (fun i => [(2, .pointer (some ⟨bkb1, 0, none⟩)), (5, .pointer (some ⟨bka2, 0, none⟩)), (7, sv (Math.textTo z u i)), (8, .int .i64 (i : Int))]) 0 (Nat.zero_le _) (fun _ h => h.pick [0, 0]) ⟨rfl, rfl, rfl, rfl, trivial⟩ ?_
    rintro i τ3 hi
    have htl := Math.textTo_len ht (v := u) (by omega) hd i
    refine hSeq ?_
    refine hSeq ?_
    refine hReg (sq 0 (sq 1 (sl 2 (sq 3 (sq 4 sz))))) (by kernel_rfl) ?_
    refine mvI rfl rfl rfl ?_
    refine fld fl52_4 rfl rfl rfl ?_
    refine ldl Tryd.isAgg50 (cB 0 rfl rfl) trv rfl rfl rfl ?_
    refine lenS Tryd.runUnderlying50 rfl rfl rfl ?_
    refine lss rfl rfl rfl rfl ?_
    refine rNil ?_
    refine qSeq rfl ?_
    refine hIfD rfl (fun c5 => ?_) (fun c5 => ?_)
    ·
     replace c5 : (i : Int) < ((((z.getD ((u).toNat) dN).ch).length : Nat) : Int) := c5
     have hkd := Math.kid_ok ht (v := u) (by omega) hd (i := i) (by omega)
     refine hSkip ?_
     refine qSeq rfl ?_
     refine hSeq ?_
     refine hBlk ?_
     refine hDraw (Ls := [blk bka2 52 [.int .i64 ((z.getD ((u).toNat) dN).pl), .int .i64 ((z.getD ((u).toNat) dN).p0), .int .i64 ((z.getD ((u).toNat) dN).p1), .int .i64 ((z.getD ((u).toNat) dN).fo), .slice ((Hz ((u).toNat)).1) (((z.getD ((u).toNat) dN).ch).length) ((Hz ((u).toNat)).2)], blk bkb1 26 [.slice az nz cz]]) (by kernel_rfl) (sq 0 (sq 1 (sq 2 (sq 3 (sq 4 (sq 5 (sq 6 (sl 7 (sq 8 (sq 9 sz)))))))))) (by kernel_rfl) (.cons_cons _ (.cons_cons _ .slnil)) ?_
     refine mv (v := sv (Math.textTo z u i)) rfl rfl rfl ?_
     refine ldAq Tryd.isAgg26 Tryd.sizeOf26 (cBs 1 rfl) rfl rfl rfl rfl ?_
     refine fld fl52_4 rfl rfl rfl ?_
     refine ldq Tryd.isAgg50 (cB 0 rfl rfl) rfl rfl rfl ?_
     refine mvI rfl rfl rfl ?_
     refine ixIq (zn := i) el50 (Kn.drop (k := 2) ((Kn.imp kz fun _ h => h.kidN (nth dN (by omega))))) (fun _ h => h.pick [0, 0]) rfl rfl rfl rfl (by omega) (by omega) rfl ?_
     intro ae14 e14
     refine ldq Tryd.isAgg2 (e14) rfl rfl rfl ?_
     refine callP (v := sv ((Math.text z ((((z.getD ((u).toNat) dN).ch).getD i 0))))) Tryd.call50 (fun _ h => h.pick [0, 0]) rfl rfl (fun w hs => ih _ (by omega) _ nz cz _ _ _ w rfl (Kn.drop (k := 2) kz w hs) (by assumption) (by omega) (by omega)) ?_
     have hslq15 := show (Math.text z ((((z.getD ((u).toNat) dN).ch).getD i 0))).length ≤ 62500 from Math.text_len (by assumption) ⟨by omega, by omega⟩ (by omega)
     refine strAdd rfl rfl rfl rfl (by first | (simp only [List.length_append, List.length_cons, List.length_nil, List.length_map]; omega) | omega) ?_
     refine asn (v := sv (((Math.textTo z u i) ++ (Math.text z ((((z.getD ((u).toNat) dN).ch).getD i 0)))))) rfl rfl rfl ?_
     refine rNil ?_
     refine qSeq rfl ?_
     refine hReg (sq 0 (sq 1 (sq 2 sz))) (by kernel_rfl) ?_
     refine mvI rfl rfl rfl ?_
     refine add rfl rfl rfl rfl (by omega) ?_
     refine asI rfl rfl rfl ?_
     refine rNil ?_
     rw [← Math.textTo_s (by omega)]
     exact qNext rfl (i + 1) (by omega) (by omega) ⟨rfl, rfl, rfl, rfl, trivial⟩ (fun _ h => h.pick [0, 0])
    ·
     replace c5 : ¬ ((i : Int) < ((((z.getD ((u).toNat) dN).ch).length : Nat) : Int)) := c5
     refine hExit rfl ?_
     refine qSeq rfl ?_
     refine hSeq ?_
     refine hReg (sq 0 (sq 1 (sq 2 sz))) (by kernel_rfl) ?_
     refine mv (v := sv (Math.textTo z u i)) rfl rfl rfl ?_
     refine strAdd rfl rfl rfl rfl (by first | (simp only [List.length_append, List.length_cons, List.length_nil, List.length_map]; omega) | omega) ?_
     refine asn (v := sv (((Math.textTo z u i) ++ [41]))) rfl rfl rfl ?_
     refine rNil ?_
     refine qSeq rfl ?_
     refine hRet ?_
     exact fun w hs => ⟨[sv (((Math.textTo z u i) ++ [41]))], ⟨rfl, trivial⟩, ⟨by exact vS (Math.text_step hT.2.1 (by omega) (by omega)).symm, hs.upd⟩⟩
theorem spec_l20Text_c (az : Option Addr) (nz : Nat) (cz : Nat) (Hz : Nat → Hd) (z : List Nd) (u : Int) (w : World) (rz : RdR ndK az nz Hz z w) (ht : Math.isTree z = true) (hu : 0 ≤ u ∧ u < nz) (hd : Math.depth z u.toNat ≤ 5) :
  Calls Tryd.prog 50 #[.agg #[.slice az nz cz], .int .i64 u] w (Ret fun v w' => v = sv (Math.text z u) ∧ Ext w w') := spec_l20Text_c_r _ az nz cz Hz z u w rfl rz ht hu hd
set_option maxHeartbeats 1000000 in
theorem impl_treeText_c_r (kk_ : Nat) : ∀ (az : Option Addr) (nz : Nat) (cz : Nat) (Hz : Nat → Hd) (z : List Nd) (u : Int) (w : World), nz - u.toNat = kk_ → RdR ndK az nz Hz z w → TabP w → (Math.isTree z = true) → (0 ≤ u ∧ u < nz) → (Math.depth z u.toNat ≤ 5) → Calls Tryd.prog 48 #[.agg #[.slice az nz cz], .int .i64 u] w (Ret fun v w' => v = sv (Math.text z u) ∧ Ext w w') := by
 induction kk_ using Nat.strongRecOn with
 | _ kk_ ih =>
  intro az nz cz Hz z u w hK rz rtab ht hu hd
  have kz : Kn w none_ [] (RdR ndK az nz Hz z) := fun w' hs => rz.ext hs.upd
  have lz : z.length = nz := rz.1
  have mz : nz ≤ 9223372036854775807 := rz.2.1
  have ktab : Kn w none_ [] (TabP) := fun w' hs => rtab.ext hs.upd
  have hT := Math.isTree_ok ht
  have ho := Math.ok_pl ((Math.allOk_iff' lz).1 hT.2.1 u.toNat (by omega))
  have hop := Math.openT_len ho.1 ho.2.1 ho.2.2.1 ho.2.2.2.1
  refine fn (M := none_) (rs := [.tmp 4]) Tryd.func48 rfl Tryd.ntmps48 rfl rfl (Sep.start _ _) ?_
  refine hSeq ?_
  refine hReg (sl 0 (sq 1 sz)) (by kernel_rfl) ?_
  refine box trv1 rfl rfl rfl rfl (fun bkb1 hbkb1 => ?_)
  refine asn (v := sv []) rfl rfl rfl ?_
  refine rNil ?_
  refine qSeq rfl ?_
  refine hSeq ?_
  refine hReg (sq 0 (sl 1 (sq 2 (sq 3 (sl 4 (sl 5 (sl 6 sz))))))) (by kernel_rfl) ?_
  refine fld fl26_0 rfl rfl rfl ?_
  refine ldl Tryd.isAgg24 (cB 0 rfl rfl) trv rfl rfl rfl ?_
  refine mvI rfl rfl rfl ?_
  refine ixRl (zn := (u).toNat) (z.getD ((u).toNat) dN) el24 (Kn.drop (k := 1) kz) rfl rfl rfl rfl (by omega) (by omega) rfl (nth dN (by omega)) ?_
  intro be1 oe1 e1
  refine ldAl Tryd.isAgg52 Tryd.sizeOf52 (e1) trv rfl rfl rfl rfl ?_
  refine alc Tryd.zeroValue52 rfl trv1 rfl rfl (fun bka2 hbka2 => ?_)
  refine stAl (vs := [.int .i64 ((z.getD ((u).toNat) dN).pl), .int .i64 ((z.getD ((u).toNat) dN).p0), .int .i64 ((z.getD ((u).toNat) dN).p1), .int .i64 ((z.getD ((u).toNat) dN).fo), .slice ((Hz ((u).toNat)).1) (((z.getD ((u).toNat) dN).ch).length) ((Hz ((u).toNat)).2)]) 0 rfl Tryd.sizeOf52 trv rfl rfl rfl rfl rfl (by simp [Value.oneCell']) rfl ?_
  refine rNil ?_
  refine qSeq rfl ?_
  refine hSeq ?_
  refine hReg (sq 0 (sl 1 (sl 2 (sq 3 (sq 4 sz))))) (by kernel_rfl) ?_
  refine fld fl52_0 rfl rfl rfl ?_
  refine ldl Tryd.isAgg2 (cB 0 rfl rfl) trv rfl rfl rfl ?_
  refine callP (v := sv ((Math.dec ((z.getD ((u).toNat) dN).pl)))) Tryd.call65 trv rfl rfl (fun w hs => impl_decimal_c _ w (Kn.drop (k := 2) ktab w hs) (by omega) (by omega)) ?_
  have hslq2 := show (Math.dec ((z.getD ((u).toNat) dN).pl)).length ≤ 3 from Math.dec_len3 (by omega)
  refine strAdd rfl rfl rfl rfl (by first | (simp only [List.length_append, List.length_cons, List.length_nil, List.length_map]; omega) | omega) ?_
  refine asn (v := sv (([40, 112] ++ (Math.dec ((z.getD ((u).toNat) dN).pl))))) rfl rfl rfl ?_
  refine rNil ?_
  refine qSeq rfl ?_
  refine hSeq ?_
  refine hBlk ?_
  refine hSeq ?_
  refine hReg (sq 0 (sl 1 (sq 2 (sq 3 (sq 4 (sl 5 (sq 6 (sq 7 (sq 8 sz))))))))) (by kernel_rfl) ?_
  refine fld fl52_0 rfl rfl rfl ?_
  refine ldl Tryd.isAgg2 (cB 0 rfl rfl) trv rfl rfl rfl ?_
  refine eql rfl rfl rfl rfl ?_
  refine mvB rfl rfl rfl ?_
  refine rBoolD (d := 22) rfl (fun g1 => ?_) (fun g1 => ?_)
  ·
   replace g1 : (z.getD ((u).toNat) dN).pl = 2 := g1
   refine fld fl52_3 rfl rfl rfl ?_
   refine ldl Tryd.isAgg2 (cB 0 rfl rfl) trv rfl rfl rfl ?_
   refine lss rfl rfl rfl rfl ?_
   refine pickB rfl rfl rfl rfl ?_
   refine asB rfl rfl rfl ?_
   refine rNil ?_
   refine qSeq rfl ?_
   refine hIfD rfl (fun c2 => ?_) (fun c2 => ?_)
   ·
    replace c2 : (z.getD ((u).toNat) dN).fo < 0 := c2
    refine hReg (sq 0 sz) (by kernel_rfl) ?_
    refine asn (v := sv [40, 115]) rfl rfl rfl ?_
    refine rNil ?_
    refine qSeq rfl ?_
    refine hSeq ?_
    refine hDraw (Ls := [blk bka2 52 [.int .i64 ((z.getD ((u).toNat) dN).pl), .int .i64 ((z.getD ((u).toNat) dN).p0), .int .i64 ((z.getD ((u).toNat) dN).p1), .int .i64 ((z.getD ((u).toNat) dN).fo), .slice ((Hz ((u).toNat)).1) (((z.getD ((u).toNat) dN).ch).length) ((Hz ((u).toNat)).2)]]) (by kernel_rfl) (sq 0 (sq 1 (sq 2 (sq 6 (sq 7 (sl 3 (sq 4 (sq 5 (sl 8 (sq 9 (sq 10 (sq 11 sz)))))))))))) (by kernel_rfl) (.cons_cons _ (.cons _ .slnil)) ?_
    refine mv (v := sv [40, 115]) rfl rfl rfl ?_
    refine fld fl52_1 rfl rfl rfl ?_
    refine ldq Tryd.isAgg2 (cB 0 rfl rfl) rfl rfl rfl ?_
    refine fld fl52_2 rfl rfl rfl ?_
    refine ldq Tryd.isAgg2 (cB 0 rfl rfl) rfl rfl rfl ?_
    refine callP (v := sv ((Math.dec ((z.getD ((u).toNat) dN).p0)))) Tryd.call65 (fun _ h => h.pick [0]) rfl rfl (fun w hs => impl_decimal_c _ w (Kn.drop (k := 2) ktab w hs) (by omega) (by omega)) ?_
    have hslq3 := show (Math.dec ((z.getD ((u).toNat) dN).p0)).length ≤ 3 from Math.dec_len3 (by omega)
    refine strAdd rfl rfl rfl rfl (by first | (simp only [List.length_append, List.length_cons, List.length_nil, List.length_map]; omega) | omega) ?_
    refine strAdd rfl rfl rfl rfl (by first | (simp only [List.length_append, List.length_cons, List.length_nil, List.length_map]; omega) | omega) ?_
    refine callP (v := sv ((Math.dec ((z.getD ((u).toNat) dN).p1)))) Tryd.call65 (fun _ h => h.pick [0]) rfl rfl (fun w hs => impl_decimal_c _ w (Kn.drop (k := 2) ktab w hs) (by omega) (by omega)) ?_
    have hslq4 := show (Math.dec ((z.getD ((u).toNat) dN).p1)).length ≤ 3 from Math.dec_len3 (by omega)
    refine strAdd rfl rfl rfl rfl (by first | (simp only [List.length_append, List.length_cons, List.length_nil, List.length_map]; omega) | omega) ?_
    refine strAdd rfl rfl rfl rfl (by first | (simp only [List.length_append, List.length_cons, List.length_nil, List.length_map]; omega) | omega) ?_
    refine asn (v := sv (([40, 115] ++ ((([32] ++ (Math.dec ((z.getD ((u).toNat) dN).p0))) ++ [47]) ++ (Math.dec ((z.getD ((u).toNat) dN).p1)))))) rfl rfl rfl ?_
    refine rNil ?_
    refine qSeq rfl ?_
    refine hSeq ?_
    refine hSeq ?_
    refine hReg (sq 0 (sl 1 (sq 2 (sq 3 sz)))) (by kernel_rfl) ?_
    refine fld fl52_4 rfl rfl rfl ?_
    refine ldl Tryd.isAgg50 (cB 0 rfl rfl) trv rfl rfl rfl ?_
    refine lenS Tryd.runUnderlying50 rfl rfl rfl ?_
    refine mvI rfl rfl rfl ?_
    refine rNil ?_
    refine qSeq rfl ?_
    refine hBlk ?_
    rw [show ([40, 115] ++ ((([32] ++ (Math.dec ((z.getD ((u).toNat) dN).p0))) ++ [47]) ++ (Math.dec ((z.getD ((u).toNat) dN).p1)))) = Math.textTo z u 0 from by rw [Math.textTo_0]; unfold Math.openT; rw [Math.head_s (x := (z.getD u.toNat dN)) (by omega) (by omega)]; try simp only [List.cons_append, List.nil_append, List.append_assoc]]
    refine hLoop (α := Nat) (fun i => i ≤ (z.getD u.toNat dN).ch.length) (fun i => (z.getD u.toNat dN).ch.length - i) (fun i => [blk bka2 52 [.int .i64 ((z.getD ((u).toNat) dN).pl), .int .i64 ((z.getD ((u).toNat) dN).p0), .int .i64 ((z.getD ((u).toNat) dN).p1), .int .i64 ((z.getD ((u).toNat) dN).fo), .slice ((Hz ((u).toNat)).1) (((z.getD ((u).toNat) dN).ch).length) ((Hz ((u).toNat)).2)], blk bkb1 26 [.slice az nz cz]]) (fun i => [(2, .pointer (some ⟨bkb1, 0, none⟩)), (6, sv (Math.textTo z u i)), (47, .slice ((Hz ((u).toNat)).1) (((z.getD ((u).toNat) dN).ch).length) ((Hz ((u).toNat)).2)), (48, .int .i64 (((((z.getD ((u).toNat) dN).ch).length : Nat) : Int))), (49, .int .i64 (i : Int))]) 0 (Nat.zero_le _) (fun _ h => h.pick [0, 0]) ⟨rfl, rfl, rfl, rfl, rfl, trivial⟩ ?_
    rintro i τ1 hi
    have htl := Math.textTo_len ht (v := u) (by omega) hd i
    refine hSeq ?_
    refine hReg (sq 0 sz) (by kernel_rfl) ?_
    refine lss rfl rfl rfl rfl ?_
    refine rNil ?_
    refine qSeq rfl ?_
    refine hSeq ?_
    refine hIfD rfl (fun c3 => ?_) (fun c3 => ?_)
    ·
     replace c3 : (i : Int) < ((((z.getD ((u).toNat) dN).ch).length : Nat) : Int) := c3
     have hkd := Math.kid_ok ht (v := u) (by omega) hd (i := i) (by omega)
     refine hSkip ?_
     refine qSeq rfl ?_
     refine hSeq ?_
     refine hBlk ?_
     refine hSeq ?_
     refine hReg (sq 0 (sl 1 (sq 2 sz))) (by kernel_rfl) ?_
     refine ixIl (zn := i) el50 (Kn.drop (k := 2) ((Kn.imp kz fun _ h => h.kidN (nth dN (by omega))))) rfl rfl rfl rfl (by omega) (by omega) rfl ?_
     intro ae5 e5
     refine ldl Tryd.isAgg2 (e5) trv rfl rfl rfl ?_
     refine asI rfl rfl rfl ?_
     refine rNil ?_
     refine qSeq rfl ?_
     refine hReg (sq 0 (sl 1 (sq 2 (sl 3 (sq 4 (sq 5 sz)))))) (by kernel_rfl) ?_
     refine mv (v := sv (Math.textTo z u i)) rfl rfl rfl ?_
     refine ldAl Tryd.isAgg26 Tryd.sizeOf26 (cBs 1 rfl) trv rfl rfl rfl rfl ?_
     refine mvI rfl rfl rfl ?_
     refine callP (v := sv ((Math.text z ((((z.getD ((u).toNat) dN).ch).getD i 0))))) Tryd.call48 trv rfl rfl (fun w hs => ih _ (by omega) _ nz cz _ _ _ w rfl (Kn.drop (k := 2) kz w hs) (Kn.drop (k := 2) ktab w hs) (by assumption) (by omega) (by omega)) ?_
     have hslq6 := show (Math.text z ((((z.getD ((u).toNat) dN).ch).getD i 0))).length ≤ 62500 from Math.text_len (by assumption) ⟨by omega, by omega⟩ (by omega)
     refine strAdd rfl rfl rfl rfl (by first | (simp only [List.length_append, List.length_cons, List.length_nil, List.length_map]; omega) | omega) ?_
     refine asn (v := sv (((Math.textTo z u i) ++ (Math.text z ((((z.getD ((u).toNat) dN).ch).getD i 0)))))) rfl rfl rfl ?_
     refine rNil ?_
     refine qSeq rfl ?_
     refine hReg (sq 0 (sq 1 sz)) (by kernel_rfl) ?_
     refine add rfl rfl rfl rfl (by omega) ?_
     refine mvI rfl rfl rfl ?_
     refine rNil ?_
     rw [← Math.textTo_s (by omega)]
     exact qNext rfl (i + 1) (by omega) (by omega) ⟨rfl, rfl, rfl, rfl, rfl, trivial⟩ (fun _ h => h.pick [0, 0])
    ·
     replace c3 : ¬ ((i : Int) < ((((z.getD ((u).toNat) dN).ch).length : Nat) : Int)) := c3
     refine hExit rfl ?_
     refine qSeq rfl ?_
     refine hSeq ?_
     refine hReg (sq 0 (sq 1 (sq 2 sz))) (by kernel_rfl) ?_
     refine mv (v := sv (Math.textTo z u i)) rfl rfl rfl ?_
     refine strAdd rfl rfl rfl rfl (by first | (simp only [List.length_append, List.length_cons, List.length_nil, List.length_map]; omega) | omega) ?_
     refine asn (v := sv (((Math.textTo z u i) ++ [41]))) rfl rfl rfl ?_
     refine rNil ?_
     refine qSeq rfl ?_
     refine hRet ?_
     exact fun w hs => ⟨[sv (((Math.textTo z u i) ++ [41]))], ⟨rfl, trivial⟩, ⟨by exact vS (Math.text_step hT.2.1 (by omega) (by omega)).symm, hs.upd⟩⟩
   ·
    replace c2 : ¬ ((z.getD ((u).toNat) dN).fo < 0) := c2
    refine hSeq ?_
    refine hReg (sq 0 (sl 1 (sq 2 (sq 3 sz)))) (by kernel_rfl) ?_
    refine fld fl52_0 rfl rfl rfl ?_
    refine ldl Tryd.isAgg2 (cB 0 rfl rfl) trv rfl rfl rfl ?_
    refine eql rfl rfl rfl rfl ?_
    refine asB rfl rfl rfl ?_
    refine rNil ?_
    refine qSeq rfl ?_
    refine hIfD rfl (fun c4 => ?_) (fun c4 => ?_)
    ·
     replace c4 : (z.getD ((u).toNat) dN).pl = 2 := c4
     refine hReg (sq 0 (sl 1 (sl 2 (sq 3 (sq 4 sz))))) (by kernel_rfl) ?_
     refine fld fl52_3 rfl rfl rfl ?_
     refine ldl Tryd.isAgg2 (cB 0 rfl rfl) trv rfl rfl rfl ?_
     refine callP (v := sv ((Math.dec ((z.getD ((u).toNat) dN).fo)))) Tryd.call65 trv rfl rfl (fun w hs => impl_decimal_c _ w (Kn.drop (k := 2) ktab w hs) (by omega) (by omega)) ?_
     have hslq7 := show (Math.dec ((z.getD ((u).toNat) dN).fo)).length ≤ 3 from Math.dec_len3 (by omega)
     refine strAdd rfl rfl rfl rfl (by first | (simp only [List.length_append, List.length_cons, List.length_nil, List.length_map]; omega) | omega) ?_
     refine asn (v := sv (([40, 102] ++ (Math.dec ((z.getD ((u).toNat) dN).fo))))) rfl rfl rfl ?_
     refine rNil ?_
     refine qSeq rfl ?_
     refine hSeq ?_
     refine hDraw (Ls := [blk bka2 52 [.int .i64 ((z.getD ((u).toNat) dN).pl), .int .i64 ((z.getD ((u).toNat) dN).p0), .int .i64 ((z.getD ((u).toNat) dN).p1), .int .i64 ((z.getD ((u).toNat) dN).fo), .slice ((Hz ((u).toNat)).1) (((z.getD ((u).toNat) dN).ch).length) ((Hz ((u).toNat)).2)]]) (by kernel_rfl) (sq 0 (sq 1 (sq 2 (sq 6 (sq 7 (sl 3 (sq 4 (sq 5 (sl 8 (sq 9 (sq 10 (sq 11 sz)))))))))))) (by kernel_rfl) (.cons_cons _ (.cons _ .slnil)) ?_
     refine mv (v := sv (([40, 102] ++ (Math.dec ((z.getD ((u).toNat) dN).fo))))) rfl rfl rfl ?_
     refine fld fl52_1 rfl rfl rfl ?_
     refine ldq Tryd.isAgg2 (cB 0 rfl rfl) rfl rfl rfl ?_
     refine fld fl52_2 rfl rfl rfl ?_
     refine ldq Tryd.isAgg2 (cB 0 rfl rfl) rfl rfl rfl ?_
     refine callP (v := sv ((Math.dec ((z.getD ((u).toNat) dN).p0)))) Tryd.call65 (fun _ h => h.pick [0]) rfl rfl (fun w hs => impl_decimal_c _ w (Kn.drop (k := 2) ktab w hs) (by omega) (by omega)) ?_
     have hslq8 := show (Math.dec ((z.getD ((u).toNat) dN).p0)).length ≤ 3 from Math.dec_len3 (by omega)
     refine strAdd rfl rfl rfl rfl (by first | (simp only [List.length_append, List.length_cons, List.length_nil, List.length_map]; omega) | omega) ?_
     refine strAdd rfl rfl rfl rfl (by first | (simp only [List.length_append, List.length_cons, List.length_nil, List.length_map]; omega) | omega) ?_
     refine callP (v := sv ((Math.dec ((z.getD ((u).toNat) dN).p1)))) Tryd.call65 (fun _ h => h.pick [0]) rfl rfl (fun w hs => impl_decimal_c _ w (Kn.drop (k := 2) ktab w hs) (by omega) (by omega)) ?_
     have hslq9 := show (Math.dec ((z.getD ((u).toNat) dN).p1)).length ≤ 3 from Math.dec_len3 (by omega)
     refine strAdd rfl rfl rfl rfl (by first | (simp only [List.length_append, List.length_cons, List.length_nil, List.length_map]; omega) | omega) ?_
     refine strAdd rfl rfl rfl rfl (by first | (simp only [List.length_append, List.length_cons, List.length_nil, List.length_map]; omega) | omega) ?_
     refine asn (v := sv ((([40, 102] ++ (Math.dec ((z.getD ((u).toNat) dN).fo))) ++ ((([32] ++ (Math.dec ((z.getD ((u).toNat) dN).p0))) ++ [47]) ++ (Math.dec ((z.getD ((u).toNat) dN).p1)))))) rfl rfl rfl ?_
     refine rNil ?_
     refine qSeq rfl ?_
     refine hSeq ?_
     refine hSeq ?_
     refine hReg (sq 0 (sl 1 (sq 2 (sq 3 sz)))) (by kernel_rfl) ?_
     refine fld fl52_4 rfl rfl rfl ?_
     refine ldl Tryd.isAgg50 (cB 0 rfl rfl) trv rfl rfl rfl ?_
     refine lenS Tryd.runUnderlying50 rfl rfl rfl ?_
     refine mvI rfl rfl rfl ?_
     refine rNil ?_
     refine qSeq rfl ?_
     refine hBlk ?_
     rw [show (([40, 102] ++ (Math.dec ((z.getD ((u).toNat) dN).fo))) ++ ((([32] ++ (Math.dec ((z.getD ((u).toNat) dN).p0))) ++ [47]) ++ (Math.dec ((z.getD ((u).toNat) dN).p1)))) = Math.textTo z u 0 from by rw [Math.textTo_0]; unfold Math.openT; rw [Math.head_f (x := (z.getD u.toNat dN)) (by omega) (by omega)]; try simp only [List.cons_append, List.nil_append, List.append_assoc]]
     refine hLoop (α := Nat) (fun i => i ≤ (z.getD u.toNat dN).ch.length) (fun i => (z.getD u.toNat dN).ch.length - i) (fun i => [blk bka2 52 [.int .i64 ((z.getD ((u).toNat) dN).pl), .int .i64 ((z.getD ((u).toNat) dN).p0), .int .i64 ((z.getD ((u).toNat) dN).p1), .int .i64 ((z.getD ((u).toNat) dN).fo), .slice ((Hz ((u).toNat)).1) (((z.getD ((u).toNat) dN).ch).length) ((Hz ((u).toNat)).2)], blk bkb1 26 [.slice az nz cz]]) (fun i => [(2, .pointer (some ⟨bkb1, 0, none⟩)), (6, sv (Math.textTo z u i)), (47, .slice ((Hz ((u).toNat)).1) (((z.getD ((u).toNat) dN).ch).length) ((Hz ((u).toNat)).2)), (48, .int .i64 (((((z.getD ((u).toNat) dN).ch).length : Nat) : Int))), (49, .int .i64 (i : Int))]) 0 (Nat.zero_le _) (fun _ h => h.pick [0, 0]) ⟨rfl, rfl, rfl, rfl, rfl, trivial⟩ ?_
     rintro i τ2 hi
     have htl := Math.textTo_len ht (v := u) (by omega) hd i
     refine hSeq ?_
     refine hReg (sq 0 sz) (by kernel_rfl) ?_
     refine lss rfl rfl rfl rfl ?_
     refine rNil ?_
     refine qSeq rfl ?_
     refine hSeq ?_
     refine hIfD rfl (fun c5 => ?_) (fun c5 => ?_)
     ·
      replace c5 : (i : Int) < ((((z.getD ((u).toNat) dN).ch).length : Nat) : Int) := c5
      have hkd := Math.kid_ok ht (v := u) (by omega) hd (i := i) (by omega)
      refine hSkip ?_
      refine qSeq rfl ?_
      refine hSeq ?_
      refine hBlk ?_
      refine hSeq ?_
      refine hReg (sq 0 (sl 1 (sq 2 sz))) (by kernel_rfl) ?_
      refine ixIl (zn := i) el50 (Kn.drop (k := 2) ((Kn.imp kz fun _ h => h.kidN (nth dN (by omega))))) rfl rfl rfl rfl (by omega) (by omega) rfl ?_
      intro ae10 e10
      refine ldl Tryd.isAgg2 (e10) trv rfl rfl rfl ?_
      refine asI rfl rfl rfl ?_
      refine rNil ?_
      refine qSeq rfl ?_
      refine hReg (sq 0 (sl 1 (sq 2 (sl 3 (sq 4 (sq 5 sz)))))) (by kernel_rfl) ?_
      refine mv (v := sv (Math.textTo z u i)) rfl rfl rfl ?_
      refine ldAl Tryd.isAgg26 Tryd.sizeOf26 (cBs 1 rfl) trv rfl rfl rfl rfl ?_
      refine mvI rfl rfl rfl ?_
      refine callP (v := sv ((Math.text z ((((z.getD ((u).toNat) dN).ch).getD i 0))))) Tryd.call48 trv rfl rfl (fun w hs => ih _ (by omega) _ nz cz _ _ _ w rfl (Kn.drop (k := 2) kz w hs) (Kn.drop (k := 2) ktab w hs) (by assumption) (by omega) (by omega)) ?_
      have hslq11 := show (Math.text z ((((z.getD ((u).toNat) dN).ch).getD i 0))).length ≤ 62500 from Math.text_len (by assumption) ⟨by omega, by omega⟩ (by omega)
      refine strAdd rfl rfl rfl rfl (by first | (simp only [List.length_append, List.length_cons, List.length_nil, List.length_map]; omega) | omega) ?_
      refine asn (v := sv (((Math.textTo z u i) ++ (Math.text z ((((z.getD ((u).toNat) dN).ch).getD i 0)))))) rfl rfl rfl ?_
      refine rNil ?_
      refine qSeq rfl ?_
      refine hReg (sq 0 (sq 1 sz)) (by kernel_rfl) ?_
      refine add rfl rfl rfl rfl (by omega) ?_
      refine mvI rfl rfl rfl ?_
      refine rNil ?_
      rw [← Math.textTo_s (by omega)]
      exact qNext rfl (i + 1) (by omega) (by omega) ⟨rfl, rfl, rfl, rfl, rfl, trivial⟩ (fun _ h => h.pick [0, 0])
     ·
      replace c5 : ¬ ((i : Int) < ((((z.getD ((u).toNat) dN).ch).length : Nat) : Int)) := c5
      refine hExit rfl ?_
      refine qSeq rfl ?_
      refine hSeq ?_
      refine hReg (sq 0 (sq 1 (sq 2 sz))) (by kernel_rfl) ?_
      refine mv (v := sv (Math.textTo z u i)) rfl rfl rfl ?_
      refine strAdd rfl rfl rfl rfl (by first | (simp only [List.length_append, List.length_cons, List.length_nil, List.length_map]; omega) | omega) ?_
      refine asn (v := sv (((Math.textTo z u i) ++ [41]))) rfl rfl rfl ?_
      refine rNil ?_
      refine qSeq rfl ?_
      refine hRet ?_
      exact fun w hs => ⟨[sv (((Math.textTo z u i) ++ [41]))], ⟨rfl, trivial⟩, ⟨by exact vS (Math.text_step hT.2.1 (by omega) (by omega)).symm, hs.upd⟩⟩
    ·
     replace c4 : ¬ ((z.getD ((u).toNat) dN).pl = 2) := c4
     refine hSkip ?_
     refine qSeq rfl ?_
     refine hSeq ?_
     refine hDraw (Ls := [blk bka2 52 [.int .i64 ((z.getD ((u).toNat) dN).pl), .int .i64 ((z.getD ((u).toNat) dN).p0), .int .i64 ((z.getD ((u).toNat) dN).p1), .int .i64 ((z.getD ((u).toNat) dN).fo), .slice ((Hz ((u).toNat)).1) (((z.getD ((u).toNat) dN).ch).length) ((Hz ((u).toNat)).2)]]) (by kernel_rfl) (sq 0 (sq 1 (sq 2 (sq 6 (sq 7 (sl 3 (sq 4 (sq 5 (sl 8 (sq 9 (sq 10 (sq 11 sz)))))))))))) (by kernel_rfl) (.cons_cons _ (.cons _ .slnil)) ?_
     refine mv (v := sv (([40, 112] ++ (Math.dec ((z.getD ((u).toNat) dN).pl))))) rfl rfl rfl ?_
     refine fld fl52_1 rfl rfl rfl ?_
     refine ldq Tryd.isAgg2 (cB 0 rfl rfl) rfl rfl rfl ?_
     refine fld fl52_2 rfl rfl rfl ?_
     refine ldq Tryd.isAgg2 (cB 0 rfl rfl) rfl rfl rfl ?_
     refine callP (v := sv ((Math.dec ((z.getD ((u).toNat) dN).p0)))) Tryd.call65 (fun _ h => h.pick [0]) rfl rfl (fun w hs => impl_decimal_c _ w (Kn.drop (k := 2) ktab w hs) (by omega) (by omega)) ?_
     have hslq12 := show (Math.dec ((z.getD ((u).toNat) dN).p0)).length ≤ 3 from Math.dec_len3 (by omega)
     refine strAdd rfl rfl rfl rfl (by first | (simp only [List.length_append, List.length_cons, List.length_nil, List.length_map]; omega) | omega) ?_
     refine strAdd rfl rfl rfl rfl (by first | (simp only [List.length_append, List.length_cons, List.length_nil, List.length_map]; omega) | omega) ?_
     refine callP (v := sv ((Math.dec ((z.getD ((u).toNat) dN).p1)))) Tryd.call65 (fun _ h => h.pick [0]) rfl rfl (fun w hs => impl_decimal_c _ w (Kn.drop (k := 2) ktab w hs) (by omega) (by omega)) ?_
     have hslq13 := show (Math.dec ((z.getD ((u).toNat) dN).p1)).length ≤ 3 from Math.dec_len3 (by omega)
     refine strAdd rfl rfl rfl rfl (by first | (simp only [List.length_append, List.length_cons, List.length_nil, List.length_map]; omega) | omega) ?_
     refine strAdd rfl rfl rfl rfl (by first | (simp only [List.length_append, List.length_cons, List.length_nil, List.length_map]; omega) | omega) ?_
     refine asn (v := sv ((([40, 112] ++ (Math.dec ((z.getD ((u).toNat) dN).pl))) ++ ((([32] ++ (Math.dec ((z.getD ((u).toNat) dN).p0))) ++ [47]) ++ (Math.dec ((z.getD ((u).toNat) dN).p1)))))) rfl rfl rfl ?_
     refine rNil ?_
     refine qSeq rfl ?_
     refine hSeq ?_
     refine hSeq ?_
     refine hReg (sq 0 (sl 1 (sq 2 (sq 3 sz)))) (by kernel_rfl) ?_
     refine fld fl52_4 rfl rfl rfl ?_
     refine ldl Tryd.isAgg50 (cB 0 rfl rfl) trv rfl rfl rfl ?_
     refine lenS Tryd.runUnderlying50 rfl rfl rfl ?_
     refine mvI rfl rfl rfl ?_
     refine rNil ?_
     refine qSeq rfl ?_
     refine hBlk ?_
     rw [show (([40, 112] ++ (Math.dec ((z.getD ((u).toNat) dN).pl))) ++ ((([32] ++ (Math.dec ((z.getD ((u).toNat) dN).p0))) ++ [47]) ++ (Math.dec ((z.getD ((u).toNat) dN).p1)))) = Math.textTo z u 0 from by rw [Math.textTo_0]; unfold Math.openT; rw [Math.head_p (x := (z.getD u.toNat dN)) (by omega)]; try simp only [List.cons_append, List.nil_append, List.append_assoc]]
     refine hLoop (α := Nat) (fun i => i ≤ (z.getD u.toNat dN).ch.length) (fun i => (z.getD u.toNat dN).ch.length - i) (fun i => [blk bka2 52 [.int .i64 ((z.getD ((u).toNat) dN).pl), .int .i64 ((z.getD ((u).toNat) dN).p0), .int .i64 ((z.getD ((u).toNat) dN).p1), .int .i64 ((z.getD ((u).toNat) dN).fo), .slice ((Hz ((u).toNat)).1) (((z.getD ((u).toNat) dN).ch).length) ((Hz ((u).toNat)).2)], blk bkb1 26 [.slice az nz cz]]) (fun i => [(2, .pointer (some ⟨bkb1, 0, none⟩)), (6, sv (Math.textTo z u i)), (47, .slice ((Hz ((u).toNat)).1) (((z.getD ((u).toNat) dN).ch).length) ((Hz ((u).toNat)).2)), (48, .int .i64 (((((z.getD ((u).toNat) dN).ch).length : Nat) : Int))), (49, .int .i64 (i : Int))]) 0 (Nat.zero_le _) (fun _ h => h.pick [0, 0]) ⟨rfl, rfl, rfl, rfl, rfl, trivial⟩ ?_
     rintro i τ3 hi
     have htl := Math.textTo_len ht (v := u) (by omega) hd i
     refine hSeq ?_
     refine hReg (sq 0 sz) (by kernel_rfl) ?_
     refine lss rfl rfl rfl rfl ?_
     refine rNil ?_
     refine qSeq rfl ?_
     refine hSeq ?_
     refine hIfD rfl (fun c6 => ?_) (fun c6 => ?_)
     ·
      replace c6 : (i : Int) < ((((z.getD ((u).toNat) dN).ch).length : Nat) : Int) := c6
      have hkd := Math.kid_ok ht (v := u) (by omega) hd (i := i) (by omega)
      refine hSkip ?_
      refine qSeq rfl ?_
      refine hSeq ?_
      refine hBlk ?_
      refine hSeq ?_
      refine hReg (sq 0 (sl 1 (sq 2 sz))) (by kernel_rfl) ?_
      refine ixIl (zn := i) el50 (Kn.drop (k := 2) ((Kn.imp kz fun _ h => h.kidN (nth dN (by omega))))) rfl rfl rfl rfl (by omega) (by omega) rfl ?_
      intro ae14 e14
      refine ldl Tryd.isAgg2 (e14) trv rfl rfl rfl ?_
      refine asI rfl rfl rfl ?_
      refine rNil ?_
      refine qSeq rfl ?_
      refine hReg (sq 0 (sl 1 (sq 2 (sl 3 (sq 4 (sq 5 sz)))))) (by kernel_rfl) ?_
      refine mv (v := sv (Math.textTo z u i)) rfl rfl rfl ?_
      refine ldAl Tryd.isAgg26 Tryd.sizeOf26 (cBs 1 rfl) trv rfl rfl rfl rfl ?_
      refine mvI rfl rfl rfl ?_
      refine callP (v := sv ((Math.text z ((((z.getD ((u).toNat) dN).ch).getD i 0))))) Tryd.call48 trv rfl rfl (fun w hs => ih _ (by omega) _ nz cz _ _ _ w rfl (Kn.drop (k := 2) kz w hs) (Kn.drop (k := 2) ktab w hs) (by assumption) (by omega) (by omega)) ?_
      have hslq15 := show (Math.text z ((((z.getD ((u).toNat) dN).ch).getD i 0))).length ≤ 62500 from Math.text_len (by assumption) ⟨by omega, by omega⟩ (by omega)
      refine strAdd rfl rfl rfl rfl (by first | (simp only [List.length_append, List.length_cons, List.length_nil, List.length_map]; omega) | omega) ?_
      refine asn (v := sv (((Math.textTo z u i) ++ (Math.text z ((((z.getD ((u).toNat) dN).ch).getD i 0)))))) rfl rfl rfl ?_
      refine rNil ?_
      refine qSeq rfl ?_
      refine hReg (sq 0 (sq 1 sz)) (by kernel_rfl) ?_
      refine add rfl rfl rfl rfl (by omega) ?_
      refine mvI rfl rfl rfl ?_
      refine rNil ?_
      rw [← Math.textTo_s (by omega)]
      exact qNext rfl (i + 1) (by omega) (by omega) ⟨rfl, rfl, rfl, rfl, rfl, trivial⟩ (fun _ h => h.pick [0, 0])
     ·
      replace c6 : ¬ ((i : Int) < ((((z.getD ((u).toNat) dN).ch).length : Nat) : Int)) := c6
      refine hExit rfl ?_
      refine qSeq rfl ?_
      refine hSeq ?_
      refine hReg (sq 0 (sq 1 (sq 2 sz))) (by kernel_rfl) ?_
      refine mv (v := sv (Math.textTo z u i)) rfl rfl rfl ?_
      refine strAdd rfl rfl rfl rfl (by first | (simp only [List.length_append, List.length_cons, List.length_nil, List.length_map]; omega) | omega) ?_
      refine asn (v := sv (((Math.textTo z u i) ++ [41]))) rfl rfl rfl ?_
      refine rNil ?_
      refine qSeq rfl ?_
      refine hRet ?_
      exact fun w hs => ⟨[sv (((Math.textTo z u i) ++ [41]))], ⟨rfl, trivial⟩, ⟨by exact vS (Math.text_step hT.2.1 (by omega) (by omega)).symm, hs.upd⟩⟩
  ·
   replace g1 : ¬ ((z.getD ((u).toNat) dN).pl = 2) := g1
   refine rSkipQ rfl rfl ?_
   refine rSkipL trv rfl rfl ?_
   refine rSkipQ rfl rfl ?_
   refine pickB rfl rfl rfl rfl ?_
   refine asB rfl rfl rfl ?_
   refine rNil ?_
   refine qSeq rfl ?_
   refine hIfF rfl ?_
   refine hSeq ?_
   refine hReg (sq 0 (sl 1 (sq 2 (sq 3 sz)))) (by kernel_rfl) ?_
   refine fld fl52_0 rfl rfl rfl ?_
   refine ldl Tryd.isAgg2 (cB 0 rfl rfl) trv rfl rfl rfl ?_
   refine eql rfl rfl rfl rfl ?_
   refine asB rfl rfl rfl ?_
   refine rNil ?_
   refine qSeq rfl ?_
   refine hIfD rfl (fun c7 => ?_) (fun c7 => ?_)
   ·
    replace c7 : (z.getD ((u).toNat) dN).pl = 2 := c7
    refine hReg (sq 0 (sl 1 (sl 2 (sq 3 (sq 4 sz))))) (by kernel_rfl) ?_
    refine fld fl52_3 rfl rfl rfl ?_
    refine ldl Tryd.isAgg2 (cB 0 rfl rfl) trv rfl rfl rfl ?_
    refine callP (v := sv ((Math.dec ((z.getD ((u).toNat) dN).fo)))) Tryd.call65 trv rfl rfl (fun w hs => impl_decimal_c _ w (Kn.drop (k := 2) ktab w hs) (by omega) (by omega)) ?_
    have hslq16 := show (Math.dec ((z.getD ((u).toNat) dN).fo)).length ≤ 3 from Math.dec_len3 (by omega)
    refine strAdd rfl rfl rfl rfl (by first | (simp only [List.length_append, List.length_cons, List.length_nil, List.length_map]; omega) | omega) ?_
    refine asn (v := sv (([40, 102] ++ (Math.dec ((z.getD ((u).toNat) dN).fo))))) rfl rfl rfl ?_
    refine rNil ?_
    refine qSeq rfl ?_
    refine hSeq ?_
    refine hDraw (Ls := [blk bka2 52 [.int .i64 ((z.getD ((u).toNat) dN).pl), .int .i64 ((z.getD ((u).toNat) dN).p0), .int .i64 ((z.getD ((u).toNat) dN).p1), .int .i64 ((z.getD ((u).toNat) dN).fo), .slice ((Hz ((u).toNat)).1) (((z.getD ((u).toNat) dN).ch).length) ((Hz ((u).toNat)).2)]]) (by kernel_rfl) (sq 0 (sq 1 (sq 2 (sq 6 (sq 7 (sl 3 (sq 4 (sq 5 (sl 8 (sq 9 (sq 10 (sq 11 sz)))))))))))) (by kernel_rfl) (.cons_cons _ (.cons _ .slnil)) ?_
    refine mv (v := sv (([40, 102] ++ (Math.dec ((z.getD ((u).toNat) dN).fo))))) rfl rfl rfl ?_
    refine fld fl52_1 rfl rfl rfl ?_
    refine ldq Tryd.isAgg2 (cB 0 rfl rfl) rfl rfl rfl ?_
    refine fld fl52_2 rfl rfl rfl ?_
    refine ldq Tryd.isAgg2 (cB 0 rfl rfl) rfl rfl rfl ?_
    refine callP (v := sv ((Math.dec ((z.getD ((u).toNat) dN).p0)))) Tryd.call65 (fun _ h => h.pick [0]) rfl rfl (fun w hs => impl_decimal_c _ w (Kn.drop (k := 2) ktab w hs) (by omega) (by omega)) ?_
    have hslq17 := show (Math.dec ((z.getD ((u).toNat) dN).p0)).length ≤ 3 from Math.dec_len3 (by omega)
    refine strAdd rfl rfl rfl rfl (by first | (simp only [List.length_append, List.length_cons, List.length_nil, List.length_map]; omega) | omega) ?_
    refine strAdd rfl rfl rfl rfl (by first | (simp only [List.length_append, List.length_cons, List.length_nil, List.length_map]; omega) | omega) ?_
    refine callP (v := sv ((Math.dec ((z.getD ((u).toNat) dN).p1)))) Tryd.call65 (fun _ h => h.pick [0]) rfl rfl (fun w hs => impl_decimal_c _ w (Kn.drop (k := 2) ktab w hs) (by omega) (by omega)) ?_
    have hslq18 := show (Math.dec ((z.getD ((u).toNat) dN).p1)).length ≤ 3 from Math.dec_len3 (by omega)
    refine strAdd rfl rfl rfl rfl (by first | (simp only [List.length_append, List.length_cons, List.length_nil, List.length_map]; omega) | omega) ?_
    refine strAdd rfl rfl rfl rfl (by first | (simp only [List.length_append, List.length_cons, List.length_nil, List.length_map]; omega) | omega) ?_
    refine asn (v := sv ((([40, 102] ++ (Math.dec ((z.getD ((u).toNat) dN).fo))) ++ ((([32] ++ (Math.dec ((z.getD ((u).toNat) dN).p0))) ++ [47]) ++ (Math.dec ((z.getD ((u).toNat) dN).p1)))))) rfl rfl rfl ?_
    refine rNil ?_
    refine qSeq rfl ?_
    refine hSeq ?_
    refine hSeq ?_
    refine hReg (sq 0 (sl 1 (sq 2 (sq 3 sz)))) (by kernel_rfl) ?_
    refine fld fl52_4 rfl rfl rfl ?_
    refine ldl Tryd.isAgg50 (cB 0 rfl rfl) trv rfl rfl rfl ?_
    refine lenS Tryd.runUnderlying50 rfl rfl rfl ?_
    refine mvI rfl rfl rfl ?_
    refine rNil ?_
    refine qSeq rfl ?_
    refine hBlk ?_
    rw [show (([40, 102] ++ (Math.dec ((z.getD ((u).toNat) dN).fo))) ++ ((([32] ++ (Math.dec ((z.getD ((u).toNat) dN).p0))) ++ [47]) ++ (Math.dec ((z.getD ((u).toNat) dN).p1)))) = Math.textTo z u 0 from by rw [Math.textTo_0]; unfold Math.openT; rw [Math.head_f (x := (z.getD u.toNat dN)) (by omega) (by omega)]; try simp only [List.cons_append, List.nil_append, List.append_assoc]]
    refine hLoop (α := Nat) (fun i => i ≤ (z.getD u.toNat dN).ch.length) (fun i => (z.getD u.toNat dN).ch.length - i) (fun i => [blk bka2 52 [.int .i64 ((z.getD ((u).toNat) dN).pl), .int .i64 ((z.getD ((u).toNat) dN).p0), .int .i64 ((z.getD ((u).toNat) dN).p1), .int .i64 ((z.getD ((u).toNat) dN).fo), .slice ((Hz ((u).toNat)).1) (((z.getD ((u).toNat) dN).ch).length) ((Hz ((u).toNat)).2)], blk bkb1 26 [.slice az nz cz]]) (fun i => [(2, .pointer (some ⟨bkb1, 0, none⟩)), (6, sv (Math.textTo z u i)), (47, .slice ((Hz ((u).toNat)).1) (((z.getD ((u).toNat) dN).ch).length) ((Hz ((u).toNat)).2)), (48, .int .i64 (((((z.getD ((u).toNat) dN).ch).length : Nat) : Int))), (49, .int .i64 (i : Int))]) 0 (Nat.zero_le _) (fun _ h => h.pick [0, 0]) ⟨rfl, rfl, rfl, rfl, rfl, trivial⟩ ?_
    rintro i τ4 hi
    have htl := Math.textTo_len ht (v := u) (by omega) hd i
    refine hSeq ?_
    refine hReg (sq 0 sz) (by kernel_rfl) ?_
    refine lss rfl rfl rfl rfl ?_
    refine rNil ?_
    refine qSeq rfl ?_
    refine hSeq ?_
    refine hIfD rfl (fun c8 => ?_) (fun c8 => ?_)
    ·
     replace c8 : (i : Int) < ((((z.getD ((u).toNat) dN).ch).length : Nat) : Int) := c8
     have hkd := Math.kid_ok ht (v := u) (by omega) hd (i := i) (by omega)
     refine hSkip ?_
     refine qSeq rfl ?_
     refine hSeq ?_
     refine hBlk ?_
     refine hSeq ?_
     refine hReg (sq 0 (sl 1 (sq 2 sz))) (by kernel_rfl) ?_
     refine ixIl (zn := i) el50 (Kn.drop (k := 2) ((Kn.imp kz fun _ h => h.kidN (nth dN (by omega))))) rfl rfl rfl rfl (by omega) (by omega) rfl ?_
     intro ae19 e19
     refine ldl Tryd.isAgg2 (e19) trv rfl rfl rfl ?_
     refine asI rfl rfl rfl ?_
     refine rNil ?_
     refine qSeq rfl ?_
     refine hReg (sq 0 (sl 1 (sq 2 (sl 3 (sq 4 (sq 5 sz)))))) (by kernel_rfl) ?_
     refine mv (v := sv (Math.textTo z u i)) rfl rfl rfl ?_
     refine ldAl Tryd.isAgg26 Tryd.sizeOf26 (cBs 1 rfl) trv rfl rfl rfl rfl ?_
     refine mvI rfl rfl rfl ?_
     refine callP (v := sv ((Math.text z ((((z.getD ((u).toNat) dN).ch).getD i 0))))) Tryd.call48 trv rfl rfl (fun w hs => ih _ (by omega) _ nz cz _ _ _ w rfl (Kn.drop (k := 2) kz w hs) (Kn.drop (k := 2) ktab w hs) (by assumption) (by omega) (by omega)) ?_
     have hslq20 := show (Math.text z ((((z.getD ((u).toNat) dN).ch).getD i 0))).length ≤ 62500 from Math.text_len (by assumption) ⟨by omega, by omega⟩ (by omega)
     refine strAdd rfl rfl rfl rfl (by first | (simp only [List.length_append, List.length_cons, List.length_nil, List.length_map]; omega) | omega) ?_
     refine asn (v := sv (((Math.textTo z u i) ++ (Math.text z ((((z.getD ((u).toNat) dN).ch).getD i 0)))))) rfl rfl rfl ?_
     refine rNil ?_
     refine qSeq rfl ?_
     refine hReg (sq 0 (sq 1 sz)) (by kernel_rfl) ?_
     refine add rfl rfl rfl rfl (by omega) ?_
     refine mvI rfl rfl rfl ?_
     refine rNil ?_
     rw [← Math.textTo_s (by omega)]
     exact qNext rfl (i + 1) (by omega) (by omega) ⟨rfl, rfl, rfl, rfl, rfl, trivial⟩ (fun _ h => h.pick [0, 0])
    ·
     replace c8 : ¬ ((i : Int) < ((((z.getD ((u).toNat) dN).ch).length : Nat) : Int)) := c8
     refine hExit rfl ?_
     refine qSeq rfl ?_
     refine hSeq ?_
     refine hReg (sq 0 (sq 1 (sq 2 sz))) (by kernel_rfl) ?_
     refine mv (v := sv (Math.textTo z u i)) rfl rfl rfl ?_
     refine strAdd rfl rfl rfl rfl (by first | (simp only [List.length_append, List.length_cons, List.length_nil, List.length_map]; omega) | omega) ?_
     refine asn (v := sv (((Math.textTo z u i) ++ [41]))) rfl rfl rfl ?_
     refine rNil ?_
     refine qSeq rfl ?_
     refine hRet ?_
     exact fun w hs => ⟨[sv (((Math.textTo z u i) ++ [41]))], ⟨rfl, trivial⟩, ⟨by exact vS (Math.text_step hT.2.1 (by omega) (by omega)).symm, hs.upd⟩⟩
   ·
    replace c7 : ¬ ((z.getD ((u).toNat) dN).pl = 2) := c7
    refine hSkip ?_
    refine qSeq rfl ?_
    refine hSeq ?_
    refine hDraw (Ls := [blk bka2 52 [.int .i64 ((z.getD ((u).toNat) dN).pl), .int .i64 ((z.getD ((u).toNat) dN).p0), .int .i64 ((z.getD ((u).toNat) dN).p1), .int .i64 ((z.getD ((u).toNat) dN).fo), .slice ((Hz ((u).toNat)).1) (((z.getD ((u).toNat) dN).ch).length) ((Hz ((u).toNat)).2)]]) (by kernel_rfl) (sq 0 (sq 1 (sq 2 (sq 6 (sq 7 (sl 3 (sq 4 (sq 5 (sl 8 (sq 9 (sq 10 (sq 11 sz)))))))))))) (by kernel_rfl) (.cons_cons _ (.cons _ .slnil)) ?_
    refine mv (v := sv (([40, 112] ++ (Math.dec ((z.getD ((u).toNat) dN).pl))))) rfl rfl rfl ?_
    refine fld fl52_1 rfl rfl rfl ?_
    refine ldq Tryd.isAgg2 (cB 0 rfl rfl) rfl rfl rfl ?_
    refine fld fl52_2 rfl rfl rfl ?_
    refine ldq Tryd.isAgg2 (cB 0 rfl rfl) rfl rfl rfl ?_
    refine callP (v := sv ((Math.dec ((z.getD ((u).toNat) dN).p0)))) Tryd.call65 (fun _ h => h.pick [0]) rfl rfl (fun w hs => impl_decimal_c _ w (Kn.drop (k := 2) ktab w hs) (by omega) (by omega)) ?_
    have hslq21 := show (Math.dec ((z.getD ((u).toNat) dN).p0)).length ≤ 3 from Math.dec_len3 (by omega)
    refine strAdd rfl rfl rfl rfl (by first | (simp only [List.length_append, List.length_cons, List.length_nil, List.length_map]; omega) | omega) ?_
    refine strAdd rfl rfl rfl rfl (by first | (simp only [List.length_append, List.length_cons, List.length_nil, List.length_map]; omega) | omega) ?_
    refine callP (v := sv ((Math.dec ((z.getD ((u).toNat) dN).p1)))) Tryd.call65 (fun _ h => h.pick [0]) rfl rfl (fun w hs => impl_decimal_c _ w (Kn.drop (k := 2) ktab w hs) (by omega) (by omega)) ?_
    have hslq22 := show (Math.dec ((z.getD ((u).toNat) dN).p1)).length ≤ 3 from Math.dec_len3 (by omega)
    refine strAdd rfl rfl rfl rfl (by first | (simp only [List.length_append, List.length_cons, List.length_nil, List.length_map]; omega) | omega) ?_
    refine strAdd rfl rfl rfl rfl (by first | (simp only [List.length_append, List.length_cons, List.length_nil, List.length_map]; omega) | omega) ?_
    refine asn (v := sv ((([40, 112] ++ (Math.dec ((z.getD ((u).toNat) dN).pl))) ++ ((([32] ++ (Math.dec ((z.getD ((u).toNat) dN).p0))) ++ [47]) ++ (Math.dec ((z.getD ((u).toNat) dN).p1)))))) rfl rfl rfl ?_
    refine rNil ?_
    refine qSeq rfl ?_
    refine hSeq ?_
    refine hSeq ?_
    refine hReg (sq 0 (sl 1 (sq 2 (sq 3 sz)))) (by kernel_rfl) ?_
    refine fld fl52_4 rfl rfl rfl ?_
    refine ldl Tryd.isAgg50 (cB 0 rfl rfl) trv rfl rfl rfl ?_
    refine lenS Tryd.runUnderlying50 rfl rfl rfl ?_
    refine mvI rfl rfl rfl ?_
    refine rNil ?_
    refine qSeq rfl ?_
    refine hBlk ?_
    rw [show (([40, 112] ++ (Math.dec ((z.getD ((u).toNat) dN).pl))) ++ ((([32] ++ (Math.dec ((z.getD ((u).toNat) dN).p0))) ++ [47]) ++ (Math.dec ((z.getD ((u).toNat) dN).p1)))) = Math.textTo z u 0 from by rw [Math.textTo_0]; unfold Math.openT; rw [Math.head_p (x := (z.getD u.toNat dN)) (by omega)]; try simp only [List.cons_append, List.nil_append, List.append_assoc]]
    refine hLoop (α := Nat) (fun i => i ≤ (z.getD u.toNat dN).ch.length) (fun i => (z.getD u.toNat dN).ch.length - i) (fun i => [blk bka2 52 [.int .i64 ((z.getD ((u).toNat) dN).pl), .int .i64 ((z.getD ((u).toNat) dN).p0), .int .i64 ((z.getD ((u).toNat) dN).p1), .int .i64 ((z.getD ((u).toNat) dN).fo), .slice ((Hz ((u).toNat)).1) (((z.getD ((u).toNat) dN).ch).length) ((Hz ((u).toNat)).2)], blk bkb1 26 [.slice az nz cz]]) (fun i => [(2, .pointer (some ⟨bkb1, 0, none⟩)), (6, sv (Math.textTo z u i)), (47, .slice ((Hz ((u).toNat)).1) (((z.getD ((u).toNat) dN).ch).length) ((Hz ((u).toNat)).2)), (48, .int .i64 (((((z.getD ((u).toNat) dN).ch).length : Nat) : Int))), (49, .int .i64 (i : Int))]) 0 (Nat.zero_le _) (fun _ h => h.pick [0, 0]) ⟨rfl, rfl, rfl, rfl, rfl, trivial⟩ ?_
    rintro i τ5 hi
    have htl := Math.textTo_len ht (v := u) (by omega) hd i
    refine hSeq ?_
    refine hReg (sq 0 sz) (by kernel_rfl) ?_
    refine lss rfl rfl rfl rfl ?_
    refine rNil ?_
    refine qSeq rfl ?_
    refine hSeq ?_
    refine hIfD rfl (fun c9 => ?_) (fun c9 => ?_)
    ·
     replace c9 : (i : Int) < ((((z.getD ((u).toNat) dN).ch).length : Nat) : Int) := c9
     have hkd := Math.kid_ok ht (v := u) (by omega) hd (i := i) (by omega)
     refine hSkip ?_
     refine qSeq rfl ?_
     refine hSeq ?_
     refine hBlk ?_
     refine hSeq ?_
     refine hReg (sq 0 (sl 1 (sq 2 sz))) (by kernel_rfl) ?_
     refine ixIl (zn := i) el50 (Kn.drop (k := 2) ((Kn.imp kz fun _ h => h.kidN (nth dN (by omega))))) rfl rfl rfl rfl (by omega) (by omega) rfl ?_
     intro ae23 e23
     refine ldl Tryd.isAgg2 (e23) trv rfl rfl rfl ?_
     refine asI rfl rfl rfl ?_
     refine rNil ?_
     refine qSeq rfl ?_
     refine hReg (sq 0 (sl 1 (sq 2 (sl 3 (sq 4 (sq 5 sz)))))) (by kernel_rfl) ?_
     refine mv (v := sv (Math.textTo z u i)) rfl rfl rfl ?_
     refine ldAl Tryd.isAgg26 Tryd.sizeOf26 (cBs 1 rfl) trv rfl rfl rfl rfl ?_
     refine mvI rfl rfl rfl ?_
     refine callP (v := sv ((Math.text z ((((z.getD ((u).toNat) dN).ch).getD i 0))))) Tryd.call48 trv rfl rfl (fun w hs => ih _ (by omega) _ nz cz _ _ _ w rfl (Kn.drop (k := 2) kz w hs) (Kn.drop (k := 2) ktab w hs) (by assumption) (by omega) (by omega)) ?_
     have hslq24 := show (Math.text z ((((z.getD ((u).toNat) dN).ch).getD i 0))).length ≤ 62500 from Math.text_len (by assumption) ⟨by omega, by omega⟩ (by omega)
     refine strAdd rfl rfl rfl rfl (by first | (simp only [List.length_append, List.length_cons, List.length_nil, List.length_map]; omega) | omega) ?_
     refine asn (v := sv (((Math.textTo z u i) ++ (Math.text z ((((z.getD ((u).toNat) dN).ch).getD i 0)))))) rfl rfl rfl ?_
     refine rNil ?_
     refine qSeq rfl ?_
     refine hReg (sq 0 (sq 1 sz)) (by kernel_rfl) ?_
     refine add rfl rfl rfl rfl (by omega) ?_
     refine mvI rfl rfl rfl ?_
     refine rNil ?_
     rw [← Math.textTo_s (by omega)]
     exact qNext rfl (i + 1) (by omega) (by omega) ⟨rfl, rfl, rfl, rfl, rfl, trivial⟩ (fun _ h => h.pick [0, 0])
    ·
     replace c9 : ¬ ((i : Int) < ((((z.getD ((u).toNat) dN).ch).length : Nat) : Int)) := c9
     refine hExit rfl ?_
     refine qSeq rfl ?_
     refine hSeq ?_
     refine hReg (sq 0 (sq 1 (sq 2 sz))) (by kernel_rfl) ?_
     refine mv (v := sv (Math.textTo z u i)) rfl rfl rfl ?_
     refine strAdd rfl rfl rfl rfl (by first | (simp only [List.length_append, List.length_cons, List.length_nil, List.length_map]; omega) | omega) ?_
     refine asn (v := sv (((Math.textTo z u i) ++ [41]))) rfl rfl rfl ?_
     refine rNil ?_
     refine qSeq rfl ?_
     refine hRet ?_
     exact fun w hs => ⟨[sv (((Math.textTo z u i) ++ [41]))], ⟨rfl, trivial⟩, ⟨by exact vS (Math.text_step hT.2.1 (by omega) (by omega)).symm, hs.upd⟩⟩
theorem impl_treeText_c (az : Option Addr) (nz : Nat) (cz : Nat) (Hz : Nat → Hd) (z : List Nd) (u : Int) (w : World) (rz : RdR ndK az nz Hz z w) (rtab : TabP w) (ht : Math.isTree z = true) (hu : 0 ≤ u ∧ u < nz) (hd : Math.depth z u.toNat ≤ 5) :
  Calls Tryd.prog 48 #[.agg #[.slice az nz cz], .int .i64 u] w (Ret fun v w' => v = sv (Math.text z u) ∧ Ext w w') := impl_treeText_c_r _ az nz cz Hz z u w rfl rz rtab ht hu hd
theorem impl_TreeText_c (az : Option Addr) (nz : Nat) (cz : Nat) (Hz : Nat → Hd) (z : List Nd) (w : World) (rz : RdR ndK az nz Hz z w) (rtab : TabP w) :
  Calls Tryd.prog 18 #[.agg #[.slice az nz cz]] w (Ret fun v w' => v = .tuple #[sv ((Math.textAt z).1), .int .i64 ((Math.textAt z).2)] ∧ Ext w w') := by
 have kz : Kn w none_ [] (RdR ndK az nz Hz z) := fun w' hs => rz.ext hs.upd
 have lz : z.length = nz := rz.1
 have mz : nz ≤ 9223372036854775807 := rz.2.1
 have ktab : Kn w none_ [] (TabP) := fun w' hs => rtab.ext hs.upd
 refine fn (M := none_) (rs := [.tmp 2, .tmp 3]) Tryd.func18 rfl Tryd.ntmps18 rfl rfl (Sep.start _ _) ?_
 refine hSeq ?_
 refine hReg (sl 0 (sq 1 (sq 2 sz))) (by kernel_rfl) ?_
 refine box trv1 rfl rfl rfl rfl (fun bkb1 hbkb1 => ?_)
 refine asn (v := sv []) rfl rfl rfl ?_
 refine asI rfl rfl rfl ?_
 refine rNil ?_
 refine qSeq rfl ?_
 refine hSeq ?_
 refine hSeq ?_
 refine hReg (sl 0 (sl 1 (sq 2 sz))) (by kernel_rfl) ?_
 refine ldAl Tryd.isAgg26 Tryd.sizeOf26 (cBs 0 rfl) trv rfl rfl rfl rfl ?_
 refine callP (v := .bool (Math.isTree z)) Tryd.call21 trv rfl rfl (fun w hs => impl_IsTree_c _ nz cz _ _ w (Kn.drop (k := 1) kz w hs)) ?_
 refine not rfl rfl rfl ?_
 refine rNil ?_
 refine qSeq rfl ?_
 refine hIfN rfl (fun c1 => ?_) (fun c1 => ?_)
 ·
  replace c1 : (Math.isTree z) = false := c1
  refine hSeq ?_
  refine hReg (sq 0 (sq 1 sz)) (by kernel_rfl) ?_
  refine asn (v := sv []) rfl rfl rfl ?_
  refine asI rfl rfl rfl ?_
  refine rNil ?_
  refine qSeq rfl ?_
  refine hRet ?_
  exact fun w hs => ⟨[sv [], .int .i64 1], ⟨rfl, ⟨rfl, trivial⟩⟩, ⟨by rw [Math.textAt_1 (by assumption)]; rfl, hs.upd⟩⟩
 ·
  replace c1 : (Math.isTree z) = true := c1
  have hT := Math.isTree_ok c1
  have hd0 : Math.depth z (Int.toNat 0) ≤ 5 := hT.2.2.2.2
  refine hSkip ?_
  refine qSeq rfl ?_
  refine hSeq ?_
  refine hReg (sl 0 (sl 1 (sq 2 (sq 3 sz)))) (by kernel_rfl) ?_
  refine ldAl Tryd.isAgg26 Tryd.sizeOf26 (cBs 0 rfl) trv rfl rfl rfl rfl ?_
  refine callP (v := sv ((Math.text z (0 : Int)))) Tryd.call48 trv rfl rfl (fun w hs => impl_treeText_c _ nz cz _ _ _ w (Kn.drop (k := 1) kz w hs) (Kn.drop (k := 1) ktab w hs) (by assumption) (by omega) (by omega)) ?_
  have hslq1 := show (Math.text z (0 : Int)).length ≤ 62500 from Math.text_len (by assumption) ⟨by omega, by omega⟩ (by omega)
  refine asn (v := sv ((Math.text z (0 : Int)))) rfl rfl rfl ?_
  refine asI rfl rfl rfl ?_
  refine rNil ?_
  refine qSeq rfl ?_
  refine hRet ?_
  exact fun w hs => ⟨[sv ((Math.text z (0 : Int))), .int .i64 0], ⟨rfl, ⟨rfl, trivial⟩⟩, ⟨by rw [Math.textAt_0 (by assumption)]; rfl, hs.upd⟩⟩
theorem spec_TreeText_c (az : Option Addr) (nz : Nat) (cz : Nat) (Hz : Nat → Hd) (z : List Nd) (w : World) (rz : RdR ndK az nz Hz z w) :
  Calls Tryd.prog 19 #[.agg #[.slice az nz cz]] w (Ret fun v w' => v = .tuple #[sv ((Math.textAt z).1), .int .i64 ((Math.textAt z).2)] ∧ Ext w w') := by
 have kz : Kn w none_ [] (RdR ndK az nz Hz z) := fun w' hs => rz.ext hs.upd
 have lz : z.length = nz := rz.1
 have mz : nz ≤ 9223372036854775807 := rz.2.1
 refine fn (M := none_) (rs := [.tmp 2, .tmp 3]) Tryd.func19 rfl Tryd.ntmps19 rfl rfl (Sep.start _ _) ?_
 refine hSeq ?_
 refine hReg (sl 0 (sq 1 (sq 2 sz))) (by kernel_rfl) ?_
 refine box trv1 rfl rfl rfl rfl (fun bkb1 hbkb1 => ?_)
 refine asn (v := sv []) rfl rfl rfl ?_
 refine asI rfl rfl rfl ?_
 refine rNil ?_
 refine qSeq rfl ?_
 refine hSeq ?_
 refine hSeq ?_
 refine hReg (sl 0 (sl 1 (sq 2 sz))) (by kernel_rfl) ?_
 refine ldAl Tryd.isAgg26 Tryd.sizeOf26 (cBs 0 rfl) trv rfl rfl rfl rfl ?_
 refine callP (v := .bool (Math.isTree z)) Tryd.call49 trv rfl rfl (fun w hs => spec_IsTree_c _ nz cz _ _ w (Kn.drop (k := 1) kz w hs)) ?_
 refine not rfl rfl rfl ?_
 refine rNil ?_
 refine qSeq rfl ?_
 refine hIfN rfl (fun c1 => ?_) (fun c1 => ?_)
 ·
  replace c1 : (Math.isTree z) = false := c1
  refine hSeq ?_
  refine hReg (sq 0 (sq 1 sz)) (by kernel_rfl) ?_
  refine asn (v := sv []) rfl rfl rfl ?_
  refine asI rfl rfl rfl ?_
  refine rNil ?_
  refine qSeq rfl ?_
  refine hRet ?_
  exact fun w hs => ⟨[sv [], .int .i64 1], ⟨rfl, ⟨rfl, trivial⟩⟩, ⟨by rw [Math.textAt_1 (by assumption)]; rfl, hs.upd⟩⟩
 ·
  replace c1 : (Math.isTree z) = true := c1
  have hT := Math.isTree_ok c1
  have hd0 : Math.depth z (Int.toNat 0) ≤ 5 := hT.2.2.2.2
  refine hSkip ?_
  refine qSeq rfl ?_
  refine hSeq ?_
  refine hReg (sl 0 (sl 1 (sq 2 (sq 3 sz)))) (by kernel_rfl) ?_
  refine ldAl Tryd.isAgg26 Tryd.sizeOf26 (cBs 0 rfl) trv rfl rfl rfl rfl ?_
  refine callP (v := sv ((Math.text z (0 : Int)))) Tryd.call50 trv rfl rfl (fun w hs => spec_l20Text_c _ nz cz _ _ _ w (Kn.drop (k := 1) kz w hs) (by assumption) (by omega) (by omega)) ?_
  have hslq1 := show (Math.text z (0 : Int)).length ≤ 62500 from Math.text_len (by assumption) ⟨by omega, by omega⟩ (by omega)
  refine asn (v := sv ((Math.text z (0 : Int)))) rfl rfl rfl ?_
  refine asI rfl rfl rfl ?_
  refine rNil ?_
  refine qSeq rfl ?_
  refine hRet ?_
  exact fun w hs => ⟨[sv ((Math.text z (0 : Int))), .int .i64 0], ⟨rfl, ⟨rfl, trivial⟩⟩, ⟨by rw [Math.textAt_0 (by assumption)]; rfl, hs.upd⟩⟩
end Go.Proofs.YtjengglpbdgmnaaDoor
/- The table that a row lists, as the contracts read it. No condition. -/
namespace Go.Proofs.YtjengglpbdgmnaaDoor
open Go Go.RowKit V
theorem tab_of_laid {W : World} {a b : String × DataW Unit} (h : laidMet Tryd.prog [a, b, ("internal/strconv.uint64pow10", Rows.laid_internal_strconv_uint64pow10)] W) : TabP W :=
 Lib.tabIs_of_head (g := 0) (t := 124) (e := 116) (n := 20) (by kernel_rfl) (by kernel_rfl) Tryd.underlying124 Tryd.underlying116 (by kernel_rfl) (by kernel_rfl) (rest := []) (k := .u64) (zs := Lib.pow10Tab) (show laidMet Tryd.prog (("internal/strconv.uint64pow10", Lib.tabData .u64 Lib.pow10Tab) :: []) W from (Go.laidMet.tail (Go.laidMet.tail h)))
end Go.Proofs.YtjengglpbdgmnaaDoor
