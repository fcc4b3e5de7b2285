import Derived.Test.YtpnmmjhhnfacfaaDoorProg
import Derived.Test.YtpnmmjhhnfacfaaDoorWWords
import Derived.WalkKit
import Derived.Ground.NamesProg
import Derived.Shelf.Lay
import Derived.Below
import Derived.Shelf.Strings.SlTrimAscii
import Derived.Shelf.Small.Strs
/- The shelf's contracts for the functions of Go's library that this seat's walks call, laid at its program. -/
namespace Go.Proofs
open Go.Shelf
shelf_lay Lays.n160 Nm 160 at Tryd as YtpnmmjhhnfacfaaDoor.lays160
shelf_lay Lays.n137 Nm 137 at Tryd as YtpnmmjhhnfacfaaDoor.lays137
end Go.Proofs
namespace Go.Proofs.YtpnmmjhhnfacfaaDoor.Lays
open Go.RowKit Go.Shelf Go.Proofs.YtpnmmjhhnfacfaaDoorW.PrintWords
theorem u8_i64 (x : Int) : wrap64 (IntKind.u8.wrap x) = x % 256 := by
  have e : IntKind.u8.wrap x = x % 256 := rfl
  rw [e]
  unfold wrap64
  omega
theorem isEmpty_bne (l : List UInt8) : l.isEmpty = !(l != []) := by cases l <;> rfl
theorem freeze_cell (w : World) (a b : Addr) (n : Nat) : (w.freeze a n).cell? b = w.cell? b := by
  unfold World.freeze
  split
  · rfl
  · simp only [World.cell?, Array.getElem?_modify]
    by_cases h : a.block = b.block
    · rw [if_pos h]
      cases hh : w.heap[b.block]? with
      | none => rfl
      | some o => cases o <;> rfl
    · rw [if_neg h]
theorem conv_lit {P : Program} {w : World} {base : Nat} {ok : Nat → Prop} {A : Option Addr} {n c : Nat} {xs : List Int} (t e : TypeId) (ht : P.underlying t = some (.slice e)) (he : P.underlying e = some (.int .u8))
    (h : Kd.R (Kd.int .u8) e w base ok (.slice A n c) xs) (hp : 0 < xs.length) : ∃ w', (convert t t (.slice A n c)).run P w = .ok (.slice A n c) w' ∧ Kd.C (Kd.int .u8) w' A n xs ∧ Below base w w' := by
  have hC := Kd.R_reads' h
  obtain ⟨inner, ho⟩ := Kd.R_own h
  rcases ho.2 with ⟨hv, hn⟩ | ⟨g, cap, cur, hv, hg, hh, r⟩
  · omega
  · injection hv with e1 e2 e3
    subst e1 e2 e3
    have hsh : w.shape? g = some (e, cur.size) := by simp [World.shape?, hh]
    refine ⟨w.freeze ⟨g, cur.size, none⟩ 1, ?_, ?_, ?_⟩
    · simp [convert, run_underlying ht, run_underlying he, markStringish, hsh]
    · obtain ⟨h1, h2, h3⟩ := hC.2.2
      refine ⟨h1, h2, fun hp2 => ?_⟩
      obtain ⟨x, hx, hall⟩ := h3 hp2
      refine ⟨x, hx, fun j p hj => ?_⟩
      obtain ⟨cs, hk, hl, hc⟩ := hall j p hj
      exact ⟨cs, hk, hl, fun i u hu => (freeze_cell _ _ _ _).trans (hc i u hu)⟩
    · have e : w.freeze ⟨g, cur.size, none⟩ 1 = { w with heap := (w.freeze ⟨g, cur.size, none⟩ 1).heap } := by
        unfold World.freeze
        rw [if_neg (by decide)]
      have hs : (w.freeze ⟨g, cur.size, none⟩ 1).heap.size = w.heap.size := by
        unfold World.freeze
        rw [if_neg (by decide)]
        simp
      refine ⟨by rw [e], by rw [e], by rw [e], by omega, fun i hi => ?_⟩
      unfold World.freeze
      rw [if_neg (by decide)]
      simp only [Array.getElem?_modify]
      rw [if_neg (by omega)]
theorem trim (s c : ByteArray) (hs : s.size ≤ 9223372036854775807) (hc : c.size ≤ 1000000) (ha : c.data.toList.all (fun b => decide (b.toNat < 128)) = true) (w : World) :
    Calls Tryd.prog 14 #[.string s, .string c] w fun e w' => e = .returned (.string ⟨(Lib.trimS s.data.toList c.data.toList).toArray⟩) ∧ Below w.heap.size w w' :=
  Any.strings_Trim_laid YtpnmmjhhnfacfaaDoor.lays160 (by kernel_rfl) s c w hs (by omega) (ascii_of_all ha)
theorem indexByte (s : ByteArray) (c : Int) (w : World) :
    Calls Tryd.prog 15 #[.string s, .int .u8 c] w fun e w' => e = .returned (.int .i64 (Lib.indexByte s.data.toList c.toNat.toUInt8)) ∧ w' = w :=
  Any.strings_IndexByte YtpnmmjhhnfacfaaDoor.lays137 s c w
end Go.Proofs.YtpnmmjhhnfacfaaDoor.Lays
