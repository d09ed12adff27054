/- Numbers that a source hands out. Their conditions stand in each. -/
import Derived.Test.YtjengglpbdgmnaaEngCCo
import Derived.Test.YtjengglpbdgmnaaSrc0Co
import Derived.Test.YtjengglpbdgmnaaSrcCo
import Derived.Test.YtjengglpbdgmnaaSrc2Co
import Derived.Test.YtjengglpbdgmnaaRows
namespace Go.Proofs.Ytjengglpbdgmnaa
open Go Go.RowKit V
set_option linter.unusedVariables false
set_option linter.unusedSimpArgs false
set_option maxRecDepth 100000
theorem src_next (bk : Nat) (ca : Option Addr) (bs : List Int) (cc : Nat) (n : Int) (w : World) (M0 : Nat → Prop) (hs0 : V.Sep w M0 [srcP bk ca bs cc] w) (hc : Kn w M0 [] (CellsAt ca (bs.map (Value.int .u8)))) (hok : okBytes bs) :
  Calls Try.prog 95 #[.pointer (some ⟨bk, 0, none⟩), .int .i64 n] w (Ret fun v w' => ∃ x : Int, v = .int .i64 x ∧ (0 ≤ x ∧ (x < n ∨ x = 0)) ∧ V.Sep w M0 [srcP bk ca bs cc] w') :=
 Calls.mono (l01Next_c bk ca bs cc n w (src_in hs0 hc hok)) fun e w' ⟨v, he, x, hv, hx, hu, h⟩ => ⟨v, he, x, hv, hx, src_out hs0 hu h⟩
theorem src_pick (bk : Nat) (ca : Option Addr) (bs : List Int) (cc : Nat) (lb e len cap : Nat) (vs : List Value) (w : World) (M0 : Nat → Prop) (hs0 : V.Sep w M0 [srcP bk ca bs cc, blk lb e vs] w) (hc : Kn w M0 [] (CellsAt ca (bs.map (Value.int .u8)))) (hok : okBytes bs) (hv : vs = (vs.map toI).map (Value.int .i64)) (hl : len = vs.length) (hn : 0 < len) :
  Calls Try.prog 155 #[.pointer (some ⟨bk, 0, none⟩), .slice (some ⟨lb, 0, none⟩) len cap] w (Ret fun v w' => ∃ x : Int, v = .int .i64 x ∧ x ∈ vs.map toI ∧ V.Sep w M0 [srcP bk ca bs cc, blk lb e vs] w') :=
 Calls.mono (l01PickV_c bk ca bs cc _ len cap vs w (src_in hs0 hc hok) (Lst.of' hs0 1 0 rfl rfl (by decide) hv) hl hn) fun e w' ⟨v, he, x, hv, hx, hu, h⟩ => ⟨v, he, x, hv, hx, src_out hs0 hu h⟩
end Go.Proofs.Ytjengglpbdgmnaa
