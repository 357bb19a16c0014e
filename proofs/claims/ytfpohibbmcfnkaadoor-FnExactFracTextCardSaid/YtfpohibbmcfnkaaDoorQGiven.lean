/- strings.Cut, strconv.Atoi and strconv.Itoa as plain functions, and that the Go functions come to their answers, wherever the library's variables hold what their initialisers lay; no other condition. -/
import Derived.Test.YtfpohibbmcfnkaaDoorQTextx1
import Derived.Test.YtfpohibbmcfnkaaDoorShelf
import Derived.Test.YtfpohibbmcfnkaaDoorRows
import Derived.WalkSmall
import Derived.Lib.AppendIntMem
namespace Go.Proofs.YtfpohibbmcfnkaaDoor.QText
open Go.RowKit Go.Proofs.YtfpohibbmcfnkaaDoorW.PrintWords Go.Proofs.YtfpohibbmcfnkaaDoorW.PrintLast Go.Proofs.YtfpohibbmcfnkaaDoorW.PrintMore
set_option linter.unusedVariables false
set_option linter.unusedSimpArgs false

/-- The name of the table of tens, as the row has it. -/
def powName : String := Rows.fnExactFracTextRow.named.headD ""
/-- The table of tens lies as its initialiser lays it. -/
def Tab (w : World) : Prop := Lib.TabIs Tryd.prog w powName .u64 Lib.pow10Tab
theorem pow_at : Tryd.prog.globalNamed powName = some 3 := by kernel_rfl
theorem Tab.at_ {w w1 : World} (h : Tab w) (hb : Below w.heap.size w w1) : Tab w1 := by
  have hc := World.var?_cell pow_at h 0
  have hlt := World.block_lt_of_cell? w _ (hc.trans (by rfl : _ = some (Value.int .u64 1)))
  exact var?_below hb pow_at hlt h
/-- The library's variables hold what they need to hold. -/
structure Laid (w : World) : Prop where
  tab : Tab w
  len : ∃ m, w.cell? ⟨0, 0, none⟩ = some (.int .i64 m)
  syn : ∃ te pe, w.cell? ⟨1, 0, none⟩ = some (.iface te pe)
  ran : ∃ te pe, w.cell? ⟨2, 0, none⟩ = some (.iface te pe)
theorem Laid.at_ {w w1 : World} (h : Laid w) (hb : Below w.heap.size w w1) : Laid w1 := by
  obtain ⟨a, ⟨m, b⟩, ⟨t1, p1, c⟩, ⟨t2, p2, d⟩⟩ := h
  exact ⟨a.at_ hb, ⟨m, pw_cell_below hb b⟩, ⟨t1, p1, pw_cell_below hb c⟩, ⟨t2, p2, pw_cell_below hb d⟩⟩

/-- An error, where it lies. -/
def errV (n : Nat) : Option Int → Value
  | none => .nilIface
  | some _ => .iface 65 (.pointer (some ⟨n, 0, none⟩))
theorem errV_none (n : Nat) : errV n none = .nilIface := rfl
theorem errV_some (n : Nat) (c : Int) : errV n (some c) = .iface 65 (.pointer (some ⟨n, 0, none⟩)) := rfl

/-- strconv.Itoa. -/
def strconv_Itoa_34.f (k : Nat) (a : Int) : Option ByteArray := if -9223372036854775808 ≤ a ∧ a ≤ 9223372036854775807 then some ⟨(Lib.itoa a).toArray⟩ else none
theorem strconv_Itoa_34.mono : ∀ a k, LeO (strconv_Itoa_34.f k a) (strconv_Itoa_34.f (k + 1) a) := fun _ _ _ h => h
theorem strconv_Itoa_34.calls (k : Nat) (a : Int) (r : ByteArray) (w : World) (h : strconv_Itoa_34.f k a = some r) (hL : Tab w) :
    Calls Tryd.prog 34 #[.int .i64 a] w fun e w' => e = .returned (.string r) ∧ Below w.heap.size w w' := by
  unfold strconv_Itoa_34.f at h
  split at h
  · rename_i hb
    obtain rfl := Option.some.inj h
    refine (Any.strconv_Itoa Tryd.laysM171 a hb.1 hb.2 w hL).mono ?_
    rintro e w' ⟨rfl, k, os, rfl⟩
    exact ⟨rfl, Lib.below_grow _ _ (Nat.le_refl _) _ _⟩
  · exact absurd h (by simp)

/-- strings.Cut. -/
def strings_Cut.f (k : Nat) (a b : ByteArray) : Option (ByteArray × ByteArray × Bool) := if a.size < 4294967281 then some (⟨(Lib.cut a.data.toList b.data.toList).1.toArray⟩, ⟨(Lib.cut a.data.toList b.data.toList).2.1.toArray⟩, (Lib.cut a.data.toList b.data.toList).2.2) else none
theorem strings_Cut.mono : ∀ a b k, LeO (strings_Cut.f k a b) (strings_Cut.f (k + 1) a b) := fun _ _ _ _ h => h
theorem strings_Cut.calls (k : Nat) (a b : ByteArray) (r1 r2 : ByteArray) (r3 : Bool) (w : World) (h : strings_Cut.f k a b = some (r1, r2, r3)) (hL : Laid w) :
    Calls Tryd.prog 19 #[.string a, .string b] w fun e w' => e = .returned (.tuple #[.string r1, .string r2, .bool r3]) ∧ Below w.heap.size w w' := by
  unfold strings_Cut.f at h
  split at h
  · rename_i hb
    obtain ⟨rfl, h2⟩ := Prod.mk.inj (Option.some.inj h)
    obtain ⟨rfl, rfl⟩ := Prod.mk.inj h2
    obtain ⟨m, hm⟩ := hL.len
    refine (Any.strings_Cut Tryd.lays145 a b m w hb hm).mono ?_
    rintro e w' ⟨rfl, n, rfl⟩
    exact ⟨rfl, pw_below_drewN (Below.refl _ _) n⟩
  · exact absurd h (by simp)

/-- strconv.Atoi. -/
def strconv_Atoi_20.f (k : Nat) (a : ByteArray) : Option (Int × Option Int) := if a.size ≤ 281474976710656 then (match Lib.atoiAll a.data.toList with | .ok v => some (v, none) | .range => some (Lib.atoiSat a.data.toList, some 0) | _ => some (0, some 0)) else none
theorem strconv_Atoi_20.mono : ∀ a k, LeO (strconv_Atoi_20.f k a) (strconv_Atoi_20.f (k + 1) a) := fun _ _ _ h => h
theorem strconv_Atoi_20.calls (k : Nat) (a : ByteArray) (r1 : Int) (r2 : Option Int) (w : World) (h : strconv_Atoi_20.f k a = some (r1, r2)) (hL : Laid w) :
    Calls Tryd.prog 20 #[.string a] w fun e w' => ∃ n, e = .returned (.tuple #[.int .i64 r1, errV n r2]) ∧ Below w.heap.size w w' := by
  unfold strconv_Atoi_20.f at h
  split at h
  · rename_i hb
    cases ha : Lib.atoiAll a.data.toList
    · rw [ha] at h
      obtain ⟨rfl, rfl⟩ := Prod.mk.inj (Option.some.inj h)
      refine (Any.strconv_Atoi_ok Tryd.laysC172 a (by omega) _ ha w).mono ?_
      rintro e w' ⟨rfl, hw⟩
      refine ⟨0, rfl, ?_⟩
      rcases hw with rfl | ⟨t, rfl⟩
      · exact Below.refl _ _
      · exact Lib.bytesWorld_below _ _ _
    · rw [ha] at h
      obtain ⟨rfl, rfl⟩ := Prod.mk.inj (Option.some.inj h)
      obtain ⟨te, pe, hv⟩ := hL.syn
      refine (Any.strconv_Atoi_syntax Tryd.laysC172 a hb ha _ w hv (.inr ⟨te, pe, rfl⟩)).mono ?_
      rintro e w' ⟨n, rfl, _, _, hB⟩
      exact ⟨n, rfl, hB⟩
    · rw [ha] at h
      obtain ⟨rfl, rfl⟩ := Prod.mk.inj (Option.some.inj h)
      obtain ⟨te, pe, hv⟩ := hL.ran
      refine (Any.strconv_Atoi_range Tryd.laysC172 a hb ha _ w hv (.inr ⟨te, pe, rfl⟩)).mono ?_
      rintro e w' ⟨n, rfl, _, _, hB⟩
      exact ⟨n, rfl, hB⟩
  · exact absurd h (by simp)
end Go.Proofs.YtfpohibbmcfnkaaDoor.QText
