import Derived.Test.YtekfpdpmekjmoaaDoorProg
import Derived.WalkKit
import Derived.Ground.NamesProg
import Derived.Shelf.Lay
import Derived.Below
import Derived.Shelf.Strings.SlTrimAscii
import Derived.Shelf.Small.Strs
import Derived.Shelf.Strings.Count
/- The shelf's contracts for the functions of Go's library that this seat's walks call, laid at its program. -/
namespace Go.Proofs
open Go.Shelf
shelf_lay Lays.n160 Nm 160 at Tryd as YtekfpdpmekjmoaaDoor.lays160
shelf_lay Lays.n137 Nm 137 at Tryd as YtekfpdpmekjmoaaDoor.lays137
shelf_lay Lays.n138 Nm 138 at Tryd as YtekfpdpmekjmoaaDoor.lays138
end Go.Proofs
namespace Go.Proofs.YtekfpdpmekjmoaaDoor.Lays
open Go.RowKit Go.Shelf
theorem u8_i64 (x : Int) : wrap64 (IntKind.u8.wrap x) = x % 256 := by
  have e : IntKind.u8.wrap x = x % 256 := rfl
  rw [e]
  unfold wrap64
  omega
theorem isEmpty_bne (l : List UInt8) : l.isEmpty = !(l != []) := by cases l <;> rfl
theorem trim (s c : ByteArray) (hs : s.size ≤ 9223372036854775807) (hc : c.size ≤ 1000000) (ha : c.data.toList.all (fun b => decide (b.toNat < 128)) = true) (w : World) :
    Calls Tryd.prog 37 #[.string s, .string c] w fun e w' => e = .returned (.string ⟨(Lib.trimS s.data.toList c.data.toList).toArray⟩) ∧ Below w.heap.size w w' :=
  Any.strings_Trim_laid YtekfpdpmekjmoaaDoor.lays160 (by kernel_rfl) s c w hs (by omega) (ascii_of_all ha)
theorem indexByte (s : ByteArray) (c : Int) (w : World) :
    Calls Tryd.prog 65 #[.string s, .int .u8 c] w fun e w' => e = .returned (.int .i64 (Lib.indexByte s.data.toList c.toNat.toUInt8)) ∧ w' = w :=
  Any.strings_IndexByte YtekfpdpmekjmoaaDoor.lays137 s c w
theorem countOne (s : ByteArray) (c : UInt8) (w : World) :
    Calls Tryd.prog 55 #[.string s, .string ⟨#[c]⟩] w fun e w' => e = .returned (.int .i64 (Lib.countByte s.data.toList c)) ∧ w' = w :=
  Any.strings_Count_one YtekfpdpmekjmoaaDoor.lays138 s c w
end Go.Proofs.YtekfpdpmekjmoaaDoor.Lays
