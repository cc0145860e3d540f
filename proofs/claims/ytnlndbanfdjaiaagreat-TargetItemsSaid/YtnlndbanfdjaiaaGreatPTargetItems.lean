/- Proved here: the law TargetItems, as the given statement says it. Conditions: none. -/
import Derived.Test.YtnlndbanfdjaiaaGreatKTargetItemsaa
import Derived.Test.YtnlndbanfdjaiaaGreatKTargetItemsab
import Derived.Test.YtnlndbanfdjaiaaGreatKTargetItemsac
import Derived.Test.YtnlndbanfdjaiaaGreatKTargetItemsad
import Derived.Test.YtnlndbanfdjaiaaGreatKTargetItemsae
import Derived.Test.YtnlndbanfdjaiaaGreatKTargetItemsaf
import Derived.Test.YtnlndbanfdjaiaaGreatKTargetItemsag
import Derived.Test.YtnlndbanfdjaiaaGreatKTargetItemsah
import Derived.Test.YtnlndbanfdjaiaaGreatKTargetItemsai
import Derived.Test.YtnlndbanfdjaiaaGreatKTargetItemsaj
import Derived.Test.YtnlndbanfdjaiaaGreatKTargetItemsak
import Derived.Test.YtnlndbanfdjaiaaGreatKTargetItemsal
import Derived.Test.YtnlndbanfdjaiaaGreatKTargetItemsam
import Derived.Test.YtnlndbanfdjaiaaGreatKTargetItemsan
import Derived.Test.YtnlndbanfdjaiaaGreatKTargetItemsao
import Derived.Test.YtnlndbanfdjaiaaGreatKTargetItemsap
import Derived.Test.YtnlndbanfdjaiaaGreatKTargetItemsaq
import Derived.Test.YtnlndbanfdjaiaaGreatKTargetItemsar
import Derived.Test.YtnlndbanfdjaiaaGreatKTargetItemsas
import Derived.Test.YtnlndbanfdjaiaaGreatKTargetItemsat
import Derived.Test.YtnlndbanfdjaiaaGreatKTargetItemsau
import Derived.Test.YtnlndbanfdjaiaaGreatKTargetItemsav
import Derived.Test.YtnlndbanfdjaiaaGreatKWTargetItems
import Derived.Test.YtnlndbanfdjaiaaGreatFTargetItems
import Derived.Test.YtnlndbanfdjaiaaGreatEvH
import Derived.ProofKit
import Derived.OpenShut
namespace Go.Proofs.YtnlndbanfdjaiaaGreat.targetItems
open Go.ChangeShapes Go.WideShapes Go.ChangeAt Go.RowKit
set_option linter.unusedVariables false

theorem cellsI : Tryz.prog.cellsOf 5 = 1 := by kernel_rfl
theorem own : ownKnob Tryz.prog.godebug = none := by kernel_rfl
theorem mixed : Tryz.prog.follows .mixedOrders = true := by kernel_rfl
theorem known : ∀ f, Go.Ev.oneKnown 6 f = true → Go.Ev.Known Tryz.prog f := Go.Ev.oneKnown_ok (Go.Ev.fast_known mixed (Go.Ev.noneKnown_ok _) targetItemsWorks)
/-- The second byte, and nothing else that is not known. -/
@[reducible] noncomputable def sg (wh : Int) : Go.Ev.Sg := Go.Ev.mkSg (fun _ => wh) (fun _ => .undef) (fun _ => .deferred)
theorem noList (wh : Int) (bw : 0 ≤ wh ∧ wh ≤ 255) (w : World) : Calls Tryz.prog 3 #[.slice none 0 0, .int .u8 wh] w fun e w' => e = .returned (.bool true) ∧ w.keptBut w' (fun _ => False) := by
  letI := sg wh
  exact Go.Ev.fast_call mixed known (xs := [.slice none 0 0, .int .u8 wh]) (.cons (Go.Ev.VA.mkV (.slice none 0 0 false 0)) (.cons (Go.Ev.VA.byteS1 (a := 8) (n := wh) rfl bw) .nil)) ⟨_, _, ⟨rfl, rfl⟩, ⟨_, _, rfl, rfl, rfl⟩, rfl⟩ targetItemsNil w
theorem emptyList (wh : Int) (bw : 0 ≤ wh ∧ wh ≤ 255) (a : Addr) (cap : Nat) (w : World) : Calls Tryz.prog 3 #[.slice (some a) 0 cap, .int .u8 wh] w fun e w' => e = .returned (.bool true) ∧ w.keptBut w' (fun _ => False) := by
  letI := sg wh
  exact Go.Ev.fast_call mixed known (xs := [.slice (some a) 0 cap, .int .u8 wh]) (.cons (Go.Ev.VA.mkV .empty) (.cons (Go.Ev.VA.byteS1 (a := 8) (n := wh) rfl bw) .nil)) ⟨_, _, ⟨_, _, rfl⟩, ⟨_, _, rfl, rfl, rfl⟩, rfl⟩ targetItemsEmpty w
theorem bytes1 : (List.range 1).map (Go.Ev.byteV 255) = [Go.Ev.byteV 255 0] := rfl
theorem bytes2 : (List.range 2).map (Go.Ev.byteV 255) = [Go.Ev.byteV 255 0, Go.Ev.byteV 255 1] := rfl
theorem bytes3 : (List.range 3).map (Go.Ev.byteV 255) = [Go.Ev.byteV 255 0, Go.Ev.byteV 255 1, Go.Ev.byteV 255 2] := rfl
theorem bytes4 : (List.range 4).map (Go.Ev.byteV 255) = [Go.Ev.byteV 255 0, Go.Ev.byteV 255 1, Go.Ev.byteV 255 2, Go.Ev.byteV 255 3] := rfl
theorem bytes5 : (List.range 5).map (Go.Ev.byteV 255) = [Go.Ev.byteV 255 0, Go.Ev.byteV 255 1, Go.Ev.byteV 255 2, Go.Ev.byteV 255 3, Go.Ev.byteV 255 4] := rfl
theorem bytes6 : (List.range 6).map (Go.Ev.byteV 255) = [Go.Ev.byteV 255 0, Go.Ev.byteV 255 1, Go.Ev.byteV 255 2, Go.Ev.byteV 255 3, Go.Ev.byteV 255 4, Go.Ev.byteV 255 5] := rfl
theorem bytes7 : (List.range 7).map (Go.Ev.byteV 255) = [Go.Ev.byteV 255 0, Go.Ev.byteV 255 1, Go.Ev.byteV 255 2, Go.Ev.byteV 255 3, Go.Ev.byteV 255 4, Go.Ev.byteV 255 5, Go.Ev.byteV 255 6] := rfl
theorem bytes8 : (List.range 8).map (Go.Ev.byteV 255) = [Go.Ev.byteV 255 0, Go.Ev.byteV 255 1, Go.Ev.byteV 255 2, Go.Ev.byteV 255 3, Go.Ev.byteV 255 4, Go.Ev.byteV 255 5, Go.Ev.byteV 255 6, Go.Ev.byteV 255 7] := rfl
section
variable {z : Nat → Int} (hz : ∀ i, 0 ≤ z i ∧ z i ≤ 255) {wh : Int} (bw : 0 ≤ wh ∧ wh ≤ 255) {len cap : Nat} (hlen : len < 9223372036854775808) {w : World} {blk off : Nat} {c : Array Value} {el : TypeId} {fz : Nat × Nat} (hc : w.heap[blk]? = some (.cells c el fz))
include hz bw hlen hc
set_option maxRecDepth 100000 in
theorem list1x0 (hr : wh % ((1 : Nat) : Int) = (0 : Nat)) (hn : len = 1) (hfit : off + 1 ≤ c.size) (hcell : ∀ i, i < 1 → c[off + i]? = some (.int .u8 (z i))) : Calls Tryz.prog 3 #[.slice (some ⟨blk, off, none⟩) len cap, .int .u8 wh] w fun e w' => e = .returned (.bool true) ∧ w.keptBut w' (fun _ => False) :=
  Go.Ev.fast_bytes mixed known (n := 1) (ex := 1) (least := 1) (r := 0) hz bw hr (by omega) (.inr rfl) (by omega) (fun _ => hn) hlen (by omega) hc hfit hcell (by rw [bytes1]; exact targetItems1x0)
set_option maxRecDepth 100000 in
theorem list2x0 (hr : wh % ((2 : Nat) : Int) = (0 : Nat)) (hn : len = 2) (hfit : off + 2 ≤ c.size) (hcell : ∀ i, i < 2 → c[off + i]? = some (.int .u8 (z i))) : Calls Tryz.prog 3 #[.slice (some ⟨blk, off, none⟩) len cap, .int .u8 wh] w fun e w' => e = .returned (.bool true) ∧ w.keptBut w' (fun _ => False) :=
  Go.Ev.fast_bytes mixed known (n := 2) (ex := 1) (least := 2) (r := 0) hz bw hr (by omega) (.inr rfl) (by omega) (fun _ => hn) hlen (by omega) hc hfit hcell (by rw [bytes2]; exact targetItems2x0)
set_option maxRecDepth 100000 in
theorem list2x1 (hr : wh % ((2 : Nat) : Int) = (1 : Nat)) (hn : len = 2) (hfit : off + 2 ≤ c.size) (hcell : ∀ i, i < 2 → c[off + i]? = some (.int .u8 (z i))) : Calls Tryz.prog 3 #[.slice (some ⟨blk, off, none⟩) len cap, .int .u8 wh] w fun e w' => e = .returned (.bool true) ∧ w.keptBut w' (fun _ => False) :=
  Go.Ev.fast_bytes mixed known (n := 2) (ex := 1) (least := 2) (r := 1) hz bw hr (by omega) (.inr rfl) (by omega) (fun _ => hn) hlen (by omega) hc hfit hcell (by rw [bytes2]; exact targetItems2x1)
set_option maxRecDepth 100000 in
theorem list3x0 (hr : wh % ((3 : Nat) : Int) = (0 : Nat)) (hn : len = 3) (hfit : off + 3 ≤ c.size) (hcell : ∀ i, i < 3 → c[off + i]? = some (.int .u8 (z i))) : Calls Tryz.prog 3 #[.slice (some ⟨blk, off, none⟩) len cap, .int .u8 wh] w fun e w' => e = .returned (.bool true) ∧ w.keptBut w' (fun _ => False) :=
  Go.Ev.fast_bytes mixed known (n := 3) (ex := 1) (least := 3) (r := 0) hz bw hr (by omega) (.inr rfl) (by omega) (fun _ => hn) hlen (by omega) hc hfit hcell (by rw [bytes3]; exact targetItems3x0)
set_option maxRecDepth 100000 in
theorem list3x1 (hr : wh % ((3 : Nat) : Int) = (1 : Nat)) (hn : len = 3) (hfit : off + 3 ≤ c.size) (hcell : ∀ i, i < 3 → c[off + i]? = some (.int .u8 (z i))) : Calls Tryz.prog 3 #[.slice (some ⟨blk, off, none⟩) len cap, .int .u8 wh] w fun e w' => e = .returned (.bool true) ∧ w.keptBut w' (fun _ => False) :=
  Go.Ev.fast_bytes mixed known (n := 3) (ex := 1) (least := 3) (r := 1) hz bw hr (by omega) (.inr rfl) (by omega) (fun _ => hn) hlen (by omega) hc hfit hcell (by rw [bytes3]; exact targetItems3x1)
set_option maxRecDepth 100000 in
theorem list3x2 (hr : wh % ((3 : Nat) : Int) = (2 : Nat)) (hn : len = 3) (hfit : off + 3 ≤ c.size) (hcell : ∀ i, i < 3 → c[off + i]? = some (.int .u8 (z i))) : Calls Tryz.prog 3 #[.slice (some ⟨blk, off, none⟩) len cap, .int .u8 wh] w fun e w' => e = .returned (.bool true) ∧ w.keptBut w' (fun _ => False) :=
  Go.Ev.fast_bytes mixed known (n := 3) (ex := 1) (least := 3) (r := 2) hz bw hr (by omega) (.inr rfl) (by omega) (fun _ => hn) hlen (by omega) hc hfit hcell (by rw [bytes3]; exact targetItems3x2)
set_option maxRecDepth 100000 in
theorem list4x0 (hr : wh % ((4 : Nat) : Int) = (0 : Nat)) (hn : len = 4) (hfit : off + 4 ≤ c.size) (hcell : ∀ i, i < 4 → c[off + i]? = some (.int .u8 (z i))) : Calls Tryz.prog 3 #[.slice (some ⟨blk, off, none⟩) len cap, .int .u8 wh] w fun e w' => e = .returned (.bool true) ∧ w.keptBut w' (fun _ => False) :=
  Go.Ev.fast_bytes mixed known (n := 4) (ex := 1) (least := 4) (r := 0) hz bw hr (by omega) (.inr rfl) (by omega) (fun _ => hn) hlen (by omega) hc hfit hcell (by rw [bytes4]; exact targetItems4x0)
set_option maxRecDepth 100000 in
theorem list4x1 (hr : wh % ((4 : Nat) : Int) = (1 : Nat)) (hn : len = 4) (hfit : off + 4 ≤ c.size) (hcell : ∀ i, i < 4 → c[off + i]? = some (.int .u8 (z i))) : Calls Tryz.prog 3 #[.slice (some ⟨blk, off, none⟩) len cap, .int .u8 wh] w fun e w' => e = .returned (.bool true) ∧ w.keptBut w' (fun _ => False) :=
  Go.Ev.fast_bytes mixed known (n := 4) (ex := 1) (least := 4) (r := 1) hz bw hr (by omega) (.inr rfl) (by omega) (fun _ => hn) hlen (by omega) hc hfit hcell (by rw [bytes4]; exact targetItems4x1)
set_option maxRecDepth 100000 in
theorem list4x2 (hr : wh % ((4 : Nat) : Int) = (2 : Nat)) (hn : len = 4) (hfit : off + 4 ≤ c.size) (hcell : ∀ i, i < 4 → c[off + i]? = some (.int .u8 (z i))) : Calls Tryz.prog 3 #[.slice (some ⟨blk, off, none⟩) len cap, .int .u8 wh] w fun e w' => e = .returned (.bool true) ∧ w.keptBut w' (fun _ => False) :=
  Go.Ev.fast_bytes mixed known (n := 4) (ex := 1) (least := 4) (r := 2) hz bw hr (by omega) (.inr rfl) (by omega) (fun _ => hn) hlen (by omega) hc hfit hcell (by rw [bytes4]; exact targetItems4x2)
set_option maxRecDepth 100000 in
theorem list4x3 (hr : wh % ((4 : Nat) : Int) = (3 : Nat)) (hn : len = 4) (hfit : off + 4 ≤ c.size) (hcell : ∀ i, i < 4 → c[off + i]? = some (.int .u8 (z i))) : Calls Tryz.prog 3 #[.slice (some ⟨blk, off, none⟩) len cap, .int .u8 wh] w fun e w' => e = .returned (.bool true) ∧ w.keptBut w' (fun _ => False) :=
  Go.Ev.fast_bytes mixed known (n := 4) (ex := 1) (least := 4) (r := 3) hz bw hr (by omega) (.inr rfl) (by omega) (fun _ => hn) hlen (by omega) hc hfit hcell (by rw [bytes4]; exact targetItems4x3)
set_option maxRecDepth 100000 in
theorem list5x0 (hr : wh % ((5 : Nat) : Int) = (0 : Nat)) (hn : len = 5) (hfit : off + 5 ≤ c.size) (hcell : ∀ i, i < 5 → c[off + i]? = some (.int .u8 (z i))) : Calls Tryz.prog 3 #[.slice (some ⟨blk, off, none⟩) len cap, .int .u8 wh] w fun e w' => e = .returned (.bool true) ∧ w.keptBut w' (fun _ => False) :=
  Go.Ev.fast_bytes mixed known (n := 5) (ex := 1) (least := 5) (r := 0) hz bw hr (by omega) (.inr rfl) (by omega) (fun _ => hn) hlen (by omega) hc hfit hcell (by rw [bytes5]; exact targetItems5x0)
set_option maxRecDepth 100000 in
theorem list5x1 (hr : wh % ((5 : Nat) : Int) = (1 : Nat)) (hn : len = 5) (hfit : off + 5 ≤ c.size) (hcell : ∀ i, i < 5 → c[off + i]? = some (.int .u8 (z i))) : Calls Tryz.prog 3 #[.slice (some ⟨blk, off, none⟩) len cap, .int .u8 wh] w fun e w' => e = .returned (.bool true) ∧ w.keptBut w' (fun _ => False) :=
  Go.Ev.fast_bytes mixed known (n := 5) (ex := 1) (least := 5) (r := 1) hz bw hr (by omega) (.inr rfl) (by omega) (fun _ => hn) hlen (by omega) hc hfit hcell (by rw [bytes5]; exact targetItems5x1)
set_option maxRecDepth 100000 in
theorem list5x2 (hr : wh % ((5 : Nat) : Int) = (2 : Nat)) (hn : len = 5) (hfit : off + 5 ≤ c.size) (hcell : ∀ i, i < 5 → c[off + i]? = some (.int .u8 (z i))) : Calls Tryz.prog 3 #[.slice (some ⟨blk, off, none⟩) len cap, .int .u8 wh] w fun e w' => e = .returned (.bool true) ∧ w.keptBut w' (fun _ => False) :=
  Go.Ev.fast_bytes mixed known (n := 5) (ex := 1) (least := 5) (r := 2) hz bw hr (by omega) (.inr rfl) (by omega) (fun _ => hn) hlen (by omega) hc hfit hcell (by rw [bytes5]; exact targetItems5x2)
set_option maxRecDepth 100000 in
theorem list5x3 (hr : wh % ((5 : Nat) : Int) = (3 : Nat)) (hn : len = 5) (hfit : off + 5 ≤ c.size) (hcell : ∀ i, i < 5 → c[off + i]? = some (.int .u8 (z i))) : Calls Tryz.prog 3 #[.slice (some ⟨blk, off, none⟩) len cap, .int .u8 wh] w fun e w' => e = .returned (.bool true) ∧ w.keptBut w' (fun _ => False) :=
  Go.Ev.fast_bytes mixed known (n := 5) (ex := 1) (least := 5) (r := 3) hz bw hr (by omega) (.inr rfl) (by omega) (fun _ => hn) hlen (by omega) hc hfit hcell (by rw [bytes5]; exact targetItems5x3)
set_option maxRecDepth 100000 in
theorem list5x4 (hr : wh % ((5 : Nat) : Int) = (4 : Nat)) (hn : len = 5) (hfit : off + 5 ≤ c.size) (hcell : ∀ i, i < 5 → c[off + i]? = some (.int .u8 (z i))) : Calls Tryz.prog 3 #[.slice (some ⟨blk, off, none⟩) len cap, .int .u8 wh] w fun e w' => e = .returned (.bool true) ∧ w.keptBut w' (fun _ => False) :=
  Go.Ev.fast_bytes mixed known (n := 5) (ex := 1) (least := 5) (r := 4) hz bw hr (by omega) (.inr rfl) (by omega) (fun _ => hn) hlen (by omega) hc hfit hcell (by rw [bytes5]; exact targetItems5x4)
set_option maxRecDepth 100000 in
theorem list6x0 (hr : wh % ((6 : Nat) : Int) = (0 : Nat)) (hn : len = 6) (hfit : off + 6 ≤ c.size) (hcell : ∀ i, i < 6 → c[off + i]? = some (.int .u8 (z i))) : Calls Tryz.prog 3 #[.slice (some ⟨blk, off, none⟩) len cap, .int .u8 wh] w fun e w' => e = .returned (.bool true) ∧ w.keptBut w' (fun _ => False) :=
  Go.Ev.fast_bytes mixed known (n := 6) (ex := 1) (least := 6) (r := 0) hz bw hr (by omega) (.inr rfl) (by omega) (fun _ => hn) hlen (by omega) hc hfit hcell (by rw [bytes6]; exact targetItems6x0)
set_option maxRecDepth 100000 in
theorem list6x1 (hr : wh % ((6 : Nat) : Int) = (1 : Nat)) (hn : len = 6) (hfit : off + 6 ≤ c.size) (hcell : ∀ i, i < 6 → c[off + i]? = some (.int .u8 (z i))) : Calls Tryz.prog 3 #[.slice (some ⟨blk, off, none⟩) len cap, .int .u8 wh] w fun e w' => e = .returned (.bool true) ∧ w.keptBut w' (fun _ => False) :=
  Go.Ev.fast_bytes mixed known (n := 6) (ex := 1) (least := 6) (r := 1) hz bw hr (by omega) (.inr rfl) (by omega) (fun _ => hn) hlen (by omega) hc hfit hcell (by rw [bytes6]; exact targetItems6x1)
set_option maxRecDepth 100000 in
theorem list6x2 (hr : wh % ((6 : Nat) : Int) = (2 : Nat)) (hn : len = 6) (hfit : off + 6 ≤ c.size) (hcell : ∀ i, i < 6 → c[off + i]? = some (.int .u8 (z i))) : Calls Tryz.prog 3 #[.slice (some ⟨blk, off, none⟩) len cap, .int .u8 wh] w fun e w' => e = .returned (.bool true) ∧ w.keptBut w' (fun _ => False) :=
  Go.Ev.fast_bytes mixed known (n := 6) (ex := 1) (least := 6) (r := 2) hz bw hr (by omega) (.inr rfl) (by omega) (fun _ => hn) hlen (by omega) hc hfit hcell (by rw [bytes6]; exact targetItems6x2)
set_option maxRecDepth 100000 in
theorem list6x3 (hr : wh % ((6 : Nat) : Int) = (3 : Nat)) (hn : len = 6) (hfit : off + 6 ≤ c.size) (hcell : ∀ i, i < 6 → c[off + i]? = some (.int .u8 (z i))) : Calls Tryz.prog 3 #[.slice (some ⟨blk, off, none⟩) len cap, .int .u8 wh] w fun e w' => e = .returned (.bool true) ∧ w.keptBut w' (fun _ => False) :=
  Go.Ev.fast_bytes mixed known (n := 6) (ex := 1) (least := 6) (r := 3) hz bw hr (by omega) (.inr rfl) (by omega) (fun _ => hn) hlen (by omega) hc hfit hcell (by rw [bytes6]; exact targetItems6x3)
set_option maxRecDepth 100000 in
theorem list6x4 (hr : wh % ((6 : Nat) : Int) = (4 : Nat)) (hn : len = 6) (hfit : off + 6 ≤ c.size) (hcell : ∀ i, i < 6 → c[off + i]? = some (.int .u8 (z i))) : Calls Tryz.prog 3 #[.slice (some ⟨blk, off, none⟩) len cap, .int .u8 wh] w fun e w' => e = .returned (.bool true) ∧ w.keptBut w' (fun _ => False) :=
  Go.Ev.fast_bytes mixed known (n := 6) (ex := 1) (least := 6) (r := 4) hz bw hr (by omega) (.inr rfl) (by omega) (fun _ => hn) hlen (by omega) hc hfit hcell (by rw [bytes6]; exact targetItems6x4)
set_option maxRecDepth 100000 in
theorem list6x5 (hr : wh % ((6 : Nat) : Int) = (5 : Nat)) (hn : len = 6) (hfit : off + 6 ≤ c.size) (hcell : ∀ i, i < 6 → c[off + i]? = some (.int .u8 (z i))) : Calls Tryz.prog 3 #[.slice (some ⟨blk, off, none⟩) len cap, .int .u8 wh] w fun e w' => e = .returned (.bool true) ∧ w.keptBut w' (fun _ => False) :=
  Go.Ev.fast_bytes mixed known (n := 6) (ex := 1) (least := 6) (r := 5) hz bw hr (by omega) (.inr rfl) (by omega) (fun _ => hn) hlen (by omega) hc hfit hcell (by rw [bytes6]; exact targetItems6x5)
set_option maxRecDepth 100000 in
theorem list7x0 (hr : wh % ((7 : Nat) : Int) = (0 : Nat)) (hn : len = 7) (hfit : off + 7 ≤ c.size) (hcell : ∀ i, i < 7 → c[off + i]? = some (.int .u8 (z i))) : Calls Tryz.prog 3 #[.slice (some ⟨blk, off, none⟩) len cap, .int .u8 wh] w fun e w' => e = .returned (.bool true) ∧ w.keptBut w' (fun _ => False) :=
  Go.Ev.fast_bytes mixed known (n := 7) (ex := 1) (least := 7) (r := 0) hz bw hr (by omega) (.inr rfl) (by omega) (fun _ => hn) hlen (by omega) hc hfit hcell (by rw [bytes7]; exact targetItems7x0)
set_option maxRecDepth 100000 in
theorem list7x1 (hr : wh % ((7 : Nat) : Int) = (1 : Nat)) (hn : len = 7) (hfit : off + 7 ≤ c.size) (hcell : ∀ i, i < 7 → c[off + i]? = some (.int .u8 (z i))) : Calls Tryz.prog 3 #[.slice (some ⟨blk, off, none⟩) len cap, .int .u8 wh] w fun e w' => e = .returned (.bool true) ∧ w.keptBut w' (fun _ => False) :=
  Go.Ev.fast_bytes mixed known (n := 7) (ex := 1) (least := 7) (r := 1) hz bw hr (by omega) (.inr rfl) (by omega) (fun _ => hn) hlen (by omega) hc hfit hcell (by rw [bytes7]; exact targetItems7x1)
set_option maxRecDepth 100000 in
theorem list7x2 (hr : wh % ((7 : Nat) : Int) = (2 : Nat)) (hn : len = 7) (hfit : off + 7 ≤ c.size) (hcell : ∀ i, i < 7 → c[off + i]? = some (.int .u8 (z i))) : Calls Tryz.prog 3 #[.slice (some ⟨blk, off, none⟩) len cap, .int .u8 wh] w fun e w' => e = .returned (.bool true) ∧ w.keptBut w' (fun _ => False) :=
  Go.Ev.fast_bytes mixed known (n := 7) (ex := 1) (least := 7) (r := 2) hz bw hr (by omega) (.inr rfl) (by omega) (fun _ => hn) hlen (by omega) hc hfit hcell (by rw [bytes7]; exact targetItems7x2)
set_option maxRecDepth 100000 in
theorem list7x3 (hr : wh % ((7 : Nat) : Int) = (3 : Nat)) (hn : len = 7) (hfit : off + 7 ≤ c.size) (hcell : ∀ i, i < 7 → c[off + i]? = some (.int .u8 (z i))) : Calls Tryz.prog 3 #[.slice (some ⟨blk, off, none⟩) len cap, .int .u8 wh] w fun e w' => e = .returned (.bool true) ∧ w.keptBut w' (fun _ => False) :=
  Go.Ev.fast_bytes mixed known (n := 7) (ex := 1) (least := 7) (r := 3) hz bw hr (by omega) (.inr rfl) (by omega) (fun _ => hn) hlen (by omega) hc hfit hcell (by rw [bytes7]; exact targetItems7x3)
set_option maxRecDepth 100000 in
theorem list7x4 (hr : wh % ((7 : Nat) : Int) = (4 : Nat)) (hn : len = 7) (hfit : off + 7 ≤ c.size) (hcell : ∀ i, i < 7 → c[off + i]? = some (.int .u8 (z i))) : Calls Tryz.prog 3 #[.slice (some ⟨blk, off, none⟩) len cap, .int .u8 wh] w fun e w' => e = .returned (.bool true) ∧ w.keptBut w' (fun _ => False) :=
  Go.Ev.fast_bytes mixed known (n := 7) (ex := 1) (least := 7) (r := 4) hz bw hr (by omega) (.inr rfl) (by omega) (fun _ => hn) hlen (by omega) hc hfit hcell (by rw [bytes7]; exact targetItems7x4)
set_option maxRecDepth 100000 in
theorem list7x5 (hr : wh % ((7 : Nat) : Int) = (5 : Nat)) (hn : len = 7) (hfit : off + 7 ≤ c.size) (hcell : ∀ i, i < 7 → c[off + i]? = some (.int .u8 (z i))) : Calls Tryz.prog 3 #[.slice (some ⟨blk, off, none⟩) len cap, .int .u8 wh] w fun e w' => e = .returned (.bool true) ∧ w.keptBut w' (fun _ => False) :=
  Go.Ev.fast_bytes mixed known (n := 7) (ex := 1) (least := 7) (r := 5) hz bw hr (by omega) (.inr rfl) (by omega) (fun _ => hn) hlen (by omega) hc hfit hcell (by rw [bytes7]; exact targetItems7x5)
set_option maxRecDepth 100000 in
theorem list7x6 (hr : wh % ((7 : Nat) : Int) = (6 : Nat)) (hn : len = 7) (hfit : off + 7 ≤ c.size) (hcell : ∀ i, i < 7 → c[off + i]? = some (.int .u8 (z i))) : Calls Tryz.prog 3 #[.slice (some ⟨blk, off, none⟩) len cap, .int .u8 wh] w fun e w' => e = .returned (.bool true) ∧ w.keptBut w' (fun _ => False) :=
  Go.Ev.fast_bytes mixed known (n := 7) (ex := 1) (least := 7) (r := 6) hz bw hr (by omega) (.inr rfl) (by omega) (fun _ => hn) hlen (by omega) hc hfit hcell (by rw [bytes7]; exact targetItems7x6)
set_option maxRecDepth 100000 in
theorem list8x0 (hr : wh % ((8 : Nat) : Int) = (0 : Nat)) (hn : len = 8) (hfit : off + 8 ≤ c.size) (hcell : ∀ i, i < 8 → c[off + i]? = some (.int .u8 (z i))) : Calls Tryz.prog 3 #[.slice (some ⟨blk, off, none⟩) len cap, .int .u8 wh] w fun e w' => e = .returned (.bool true) ∧ w.keptBut w' (fun _ => False) :=
  Go.Ev.fast_bytes mixed known (n := 8) (ex := 1) (least := 8) (r := 0) hz bw hr (by omega) (.inr rfl) (by omega) (fun _ => hn) hlen (by omega) hc hfit hcell (by rw [bytes8]; exact targetItems8x0)
set_option maxRecDepth 100000 in
theorem list8x1 (hr : wh % ((8 : Nat) : Int) = (1 : Nat)) (hn : len = 8) (hfit : off + 8 ≤ c.size) (hcell : ∀ i, i < 8 → c[off + i]? = some (.int .u8 (z i))) : Calls Tryz.prog 3 #[.slice (some ⟨blk, off, none⟩) len cap, .int .u8 wh] w fun e w' => e = .returned (.bool true) ∧ w.keptBut w' (fun _ => False) :=
  Go.Ev.fast_bytes mixed known (n := 8) (ex := 1) (least := 8) (r := 1) hz bw hr (by omega) (.inr rfl) (by omega) (fun _ => hn) hlen (by omega) hc hfit hcell (by rw [bytes8]; exact targetItems8x1)
set_option maxRecDepth 100000 in
theorem list8x2 (hr : wh % ((8 : Nat) : Int) = (2 : Nat)) (hn : len = 8) (hfit : off + 8 ≤ c.size) (hcell : ∀ i, i < 8 → c[off + i]? = some (.int .u8 (z i))) : Calls Tryz.prog 3 #[.slice (some ⟨blk, off, none⟩) len cap, .int .u8 wh] w fun e w' => e = .returned (.bool true) ∧ w.keptBut w' (fun _ => False) :=
  Go.Ev.fast_bytes mixed known (n := 8) (ex := 1) (least := 8) (r := 2) hz bw hr (by omega) (.inr rfl) (by omega) (fun _ => hn) hlen (by omega) hc hfit hcell (by rw [bytes8]; exact targetItems8x2)
set_option maxRecDepth 100000 in
theorem list8x3 (hr : wh % ((8 : Nat) : Int) = (3 : Nat)) (hn : len = 8) (hfit : off + 8 ≤ c.size) (hcell : ∀ i, i < 8 → c[off + i]? = some (.int .u8 (z i))) : Calls Tryz.prog 3 #[.slice (some ⟨blk, off, none⟩) len cap, .int .u8 wh] w fun e w' => e = .returned (.bool true) ∧ w.keptBut w' (fun _ => False) :=
  Go.Ev.fast_bytes mixed known (n := 8) (ex := 1) (least := 8) (r := 3) hz bw hr (by omega) (.inr rfl) (by omega) (fun _ => hn) hlen (by omega) hc hfit hcell (by rw [bytes8]; exact targetItems8x3)
set_option maxRecDepth 100000 in
theorem list8x4 (hr : wh % ((8 : Nat) : Int) = (4 : Nat)) (hn : len = 8) (hfit : off + 8 ≤ c.size) (hcell : ∀ i, i < 8 → c[off + i]? = some (.int .u8 (z i))) : Calls Tryz.prog 3 #[.slice (some ⟨blk, off, none⟩) len cap, .int .u8 wh] w fun e w' => e = .returned (.bool true) ∧ w.keptBut w' (fun _ => False) :=
  Go.Ev.fast_bytes mixed known (n := 8) (ex := 1) (least := 8) (r := 4) hz bw hr (by omega) (.inr rfl) (by omega) (fun _ => hn) hlen (by omega) hc hfit hcell (by rw [bytes8]; exact targetItems8x4)
set_option maxRecDepth 100000 in
theorem list8x5 (hr : wh % ((8 : Nat) : Int) = (5 : Nat)) (hn : len = 8) (hfit : off + 8 ≤ c.size) (hcell : ∀ i, i < 8 → c[off + i]? = some (.int .u8 (z i))) : Calls Tryz.prog 3 #[.slice (some ⟨blk, off, none⟩) len cap, .int .u8 wh] w fun e w' => e = .returned (.bool true) ∧ w.keptBut w' (fun _ => False) :=
  Go.Ev.fast_bytes mixed known (n := 8) (ex := 1) (least := 8) (r := 5) hz bw hr (by omega) (.inr rfl) (by omega) (fun _ => hn) hlen (by omega) hc hfit hcell (by rw [bytes8]; exact targetItems8x5)
set_option maxRecDepth 100000 in
theorem list8x6 (hr : wh % ((8 : Nat) : Int) = (6 : Nat)) (hn : len = 8) (hfit : off + 8 ≤ c.size) (hcell : ∀ i, i < 8 → c[off + i]? = some (.int .u8 (z i))) : Calls Tryz.prog 3 #[.slice (some ⟨blk, off, none⟩) len cap, .int .u8 wh] w fun e w' => e = .returned (.bool true) ∧ w.keptBut w' (fun _ => False) :=
  Go.Ev.fast_bytes mixed known (n := 8) (ex := 1) (least := 8) (r := 6) hz bw hr (by omega) (.inr rfl) (by omega) (fun _ => hn) hlen (by omega) hc hfit hcell (by rw [bytes8]; exact targetItems8x6)
set_option maxRecDepth 100000 in
theorem list8x7 (hr : wh % ((8 : Nat) : Int) = (7 : Nat)) (hn : len = 8) (hfit : off + 8 ≤ c.size) (hcell : ∀ i, i < 8 → c[off + i]? = some (.int .u8 (z i))) : Calls Tryz.prog 3 #[.slice (some ⟨blk, off, none⟩) len cap, .int .u8 wh] w fun e w' => e = .returned (.bool true) ∧ w.keptBut w' (fun _ => False) :=
  Go.Ev.fast_bytes mixed known (n := 8) (ex := 1) (least := 8) (r := 7) hz bw hr (by omega) (.inr rfl) (by omega) (fun _ => hn) hlen (by omega) hc hfit hcell (by rw [bytes8]; exact targetItems8x7)
set_option maxRecDepth 100000 in
theorem list9x0 (hr : wh % ((8 : Nat) : Int) = (0 : Nat)) (hn : 9 ≤ len) (hfit : off + 8 ≤ c.size) (hcell : ∀ i, i < 8 → c[off + i]? = some (.int .u8 (z i))) : Calls Tryz.prog 3 #[.slice (some ⟨blk, off, none⟩) len cap, .int .u8 wh] w fun e w' => e = .returned (.bool true) ∧ w.keptBut w' (fun _ => False) :=
  Go.Ev.fast_bytes mixed known (n := 8) (ex := 0) (least := 9) (r := 0) hz bw hr (by omega) (.inl rfl) hn (fun h => absurd h (by decide)) hlen (by omega) hc hfit hcell (by rw [bytes8]; exact targetItems9x0)
set_option maxRecDepth 100000 in
theorem list9x1 (hr : wh % ((8 : Nat) : Int) = (1 : Nat)) (hn : 9 ≤ len) (hfit : off + 8 ≤ c.size) (hcell : ∀ i, i < 8 → c[off + i]? = some (.int .u8 (z i))) : Calls Tryz.prog 3 #[.slice (some ⟨blk, off, none⟩) len cap, .int .u8 wh] w fun e w' => e = .returned (.bool true) ∧ w.keptBut w' (fun _ => False) :=
  Go.Ev.fast_bytes mixed known (n := 8) (ex := 0) (least := 9) (r := 1) hz bw hr (by omega) (.inl rfl) hn (fun h => absurd h (by decide)) hlen (by omega) hc hfit hcell (by rw [bytes8]; exact targetItems9x1)
set_option maxRecDepth 100000 in
theorem list9x2 (hr : wh % ((8 : Nat) : Int) = (2 : Nat)) (hn : 9 ≤ len) (hfit : off + 8 ≤ c.size) (hcell : ∀ i, i < 8 → c[off + i]? = some (.int .u8 (z i))) : Calls Tryz.prog 3 #[.slice (some ⟨blk, off, none⟩) len cap, .int .u8 wh] w fun e w' => e = .returned (.bool true) ∧ w.keptBut w' (fun _ => False) :=
  Go.Ev.fast_bytes mixed known (n := 8) (ex := 0) (least := 9) (r := 2) hz bw hr (by omega) (.inl rfl) hn (fun h => absurd h (by decide)) hlen (by omega) hc hfit hcell (by rw [bytes8]; exact targetItems9x2)
set_option maxRecDepth 100000 in
theorem list9x3 (hr : wh % ((8 : Nat) : Int) = (3 : Nat)) (hn : 9 ≤ len) (hfit : off + 8 ≤ c.size) (hcell : ∀ i, i < 8 → c[off + i]? = some (.int .u8 (z i))) : Calls Tryz.prog 3 #[.slice (some ⟨blk, off, none⟩) len cap, .int .u8 wh] w fun e w' => e = .returned (.bool true) ∧ w.keptBut w' (fun _ => False) :=
  Go.Ev.fast_bytes mixed known (n := 8) (ex := 0) (least := 9) (r := 3) hz bw hr (by omega) (.inl rfl) hn (fun h => absurd h (by decide)) hlen (by omega) hc hfit hcell (by rw [bytes8]; exact targetItems9x3)
set_option maxRecDepth 100000 in
theorem list9x4 (hr : wh % ((8 : Nat) : Int) = (4 : Nat)) (hn : 9 ≤ len) (hfit : off + 8 ≤ c.size) (hcell : ∀ i, i < 8 → c[off + i]? = some (.int .u8 (z i))) : Calls Tryz.prog 3 #[.slice (some ⟨blk, off, none⟩) len cap, .int .u8 wh] w fun e w' => e = .returned (.bool true) ∧ w.keptBut w' (fun _ => False) :=
  Go.Ev.fast_bytes mixed known (n := 8) (ex := 0) (least := 9) (r := 4) hz bw hr (by omega) (.inl rfl) hn (fun h => absurd h (by decide)) hlen (by omega) hc hfit hcell (by rw [bytes8]; exact targetItems9x4)
set_option maxRecDepth 100000 in
theorem list9x5 (hr : wh % ((8 : Nat) : Int) = (5 : Nat)) (hn : 9 ≤ len) (hfit : off + 8 ≤ c.size) (hcell : ∀ i, i < 8 → c[off + i]? = some (.int .u8 (z i))) : Calls Tryz.prog 3 #[.slice (some ⟨blk, off, none⟩) len cap, .int .u8 wh] w fun e w' => e = .returned (.bool true) ∧ w.keptBut w' (fun _ => False) :=
  Go.Ev.fast_bytes mixed known (n := 8) (ex := 0) (least := 9) (r := 5) hz bw hr (by omega) (.inl rfl) hn (fun h => absurd h (by decide)) hlen (by omega) hc hfit hcell (by rw [bytes8]; exact targetItems9x5)
set_option maxRecDepth 100000 in
theorem list9x6 (hr : wh % ((8 : Nat) : Int) = (6 : Nat)) (hn : 9 ≤ len) (hfit : off + 8 ≤ c.size) (hcell : ∀ i, i < 8 → c[off + i]? = some (.int .u8 (z i))) : Calls Tryz.prog 3 #[.slice (some ⟨blk, off, none⟩) len cap, .int .u8 wh] w fun e w' => e = .returned (.bool true) ∧ w.keptBut w' (fun _ => False) :=
  Go.Ev.fast_bytes mixed known (n := 8) (ex := 0) (least := 9) (r := 6) hz bw hr (by omega) (.inl rfl) hn (fun h => absurd h (by decide)) hlen (by omega) hc hfit hcell (by rw [bytes8]; exact targetItems9x6)
set_option maxRecDepth 100000 in
theorem list9x7 (hr : wh % ((8 : Nat) : Int) = (7 : Nat)) (hn : 9 ≤ len) (hfit : off + 8 ≤ c.size) (hcell : ∀ i, i < 8 → c[off + i]? = some (.int .u8 (z i))) : Calls Tryz.prog 3 #[.slice (some ⟨blk, off, none⟩) len cap, .int .u8 wh] w fun e w' => e = .returned (.bool true) ∧ w.keptBut w' (fun _ => False) :=
  Go.Ev.fast_bytes mixed known (n := 8) (ex := 0) (least := 9) (r := 7) hz bw hr (by omega) (.inl rfl) hn (fun h => absurd h (by decide)) hlen (by omega) hc hfit hcell (by rw [bytes8]; exact targetItems9x7)
theorem walk (hpos : 1 ≤ len) (hfit : off + len ≤ c.size) (hcell : ∀ i, i < len → c[off + i]? = some (.int .u8 (z i))) : Calls Tryz.prog 3 #[.slice (some ⟨blk, off, none⟩) len cap, .int .u8 wh] w fun e w' => e = .returned (.bool true) ∧ w.keptBut w' (fun _ => False) := by
  by_cases h9 : 9 ≤ len
  · have hr : wh % ((8 : Nat) : Int) = (0 : Nat) ∨ wh % ((8 : Nat) : Int) = (1 : Nat) ∨ wh % ((8 : Nat) : Int) = (2 : Nat) ∨ wh % ((8 : Nat) : Int) = (3 : Nat) ∨ wh % ((8 : Nat) : Int) = (4 : Nat) ∨ wh % ((8 : Nat) : Int) = (5 : Nat) ∨ wh % ((8 : Nat) : Int) = (6 : Nat) ∨ wh % ((8 : Nat) : Int) = (7 : Nat) := by omega
    have hf : off + 8 ≤ c.size := by omega
    have hl : ∀ i, i < 8 → c[off + i]? = some (.int .u8 (z i)) := fun i hi => hcell i (by omega)
    rcases hr with hr | hr | hr | hr | hr | hr | hr | hr
    · exact list9x0 hz bw hlen hc hr h9 hf hl
    · exact list9x1 hz bw hlen hc hr h9 hf hl
    · exact list9x2 hz bw hlen hc hr h9 hf hl
    · exact list9x3 hz bw hlen hc hr h9 hf hl
    · exact list9x4 hz bw hlen hc hr h9 hf hl
    · exact list9x5 hz bw hlen hc hr h9 hf hl
    · exact list9x6 hz bw hlen hc hr h9 hf hl
    · exact list9x7 hz bw hlen hc hr h9 hf hl
  have key : len = 1 ∨ len = 2 ∨ len = 3 ∨ len = 4 ∨ len = 5 ∨ len = 6 ∨ len = 7 ∨ len = 8 := by omega
  rcases key with hn | hn | hn | hn | hn | hn | hn | hn
  · have hr : wh % ((1 : Nat) : Int) = (0 : Nat) := by omega
    have hf : off + 1 ≤ c.size := by omega
    have hl : ∀ i, i < 1 → c[off + i]? = some (.int .u8 (z i)) := fun i hi => hcell i (by omega)
    exact list1x0 hz bw hlen hc hr hn hf hl
  · have hr : wh % ((2 : Nat) : Int) = (0 : Nat) ∨ wh % ((2 : Nat) : Int) = (1 : Nat) := by omega
    have hf : off + 2 ≤ c.size := by omega
    have hl : ∀ i, i < 2 → c[off + i]? = some (.int .u8 (z i)) := fun i hi => hcell i (by omega)
    rcases hr with hr | hr
    · exact list2x0 hz bw hlen hc hr hn hf hl
    · exact list2x1 hz bw hlen hc hr hn hf hl
  · have hr : wh % ((3 : Nat) : Int) = (0 : Nat) ∨ wh % ((3 : Nat) : Int) = (1 : Nat) ∨ wh % ((3 : Nat) : Int) = (2 : Nat) := by omega
    have hf : off + 3 ≤ c.size := by omega
    have hl : ∀ i, i < 3 → c[off + i]? = some (.int .u8 (z i)) := fun i hi => hcell i (by omega)
    rcases hr with hr | hr | hr
    · exact list3x0 hz bw hlen hc hr hn hf hl
    · exact list3x1 hz bw hlen hc hr hn hf hl
    · exact list3x2 hz bw hlen hc hr hn hf hl
  · have hr : wh % ((4 : Nat) : Int) = (0 : Nat) ∨ wh % ((4 : Nat) : Int) = (1 : Nat) ∨ wh % ((4 : Nat) : Int) = (2 : Nat) ∨ wh % ((4 : Nat) : Int) = (3 : Nat) := by omega
    have hf : off + 4 ≤ c.size := by omega
    have hl : ∀ i, i < 4 → c[off + i]? = some (.int .u8 (z i)) := fun i hi => hcell i (by omega)
    rcases hr with hr | hr | hr | hr
    · exact list4x0 hz bw hlen hc hr hn hf hl
    · exact list4x1 hz bw hlen hc hr hn hf hl
    · exact list4x2 hz bw hlen hc hr hn hf hl
    · exact list4x3 hz bw hlen hc hr hn hf hl
  · have hr : wh % ((5 : Nat) : Int) = (0 : Nat) ∨ wh % ((5 : Nat) : Int) = (1 : Nat) ∨ wh % ((5 : Nat) : Int) = (2 : Nat) ∨ wh % ((5 : Nat) : Int) = (3 : Nat) ∨ wh % ((5 : Nat) : Int) = (4 : Nat) := by omega
    have hf : off + 5 ≤ c.size := by omega
    have hl : ∀ i, i < 5 → c[off + i]? = some (.int .u8 (z i)) := fun i hi => hcell i (by omega)
    rcases hr with hr | hr | hr | hr | hr
    · exact list5x0 hz bw hlen hc hr hn hf hl
    · exact list5x1 hz bw hlen hc hr hn hf hl
    · exact list5x2 hz bw hlen hc hr hn hf hl
    · exact list5x3 hz bw hlen hc hr hn hf hl
    · exact list5x4 hz bw hlen hc hr hn hf hl
  · have hr : wh % ((6 : Nat) : Int) = (0 : Nat) ∨ wh % ((6 : Nat) : Int) = (1 : Nat) ∨ wh % ((6 : Nat) : Int) = (2 : Nat) ∨ wh % ((6 : Nat) : Int) = (3 : Nat) ∨ wh % ((6 : Nat) : Int) = (4 : Nat) ∨ wh % ((6 : Nat) : Int) = (5 : Nat) := by omega
    have hf : off + 6 ≤ c.size := by omega
    have hl : ∀ i, i < 6 → c[off + i]? = some (.int .u8 (z i)) := fun i hi => hcell i (by omega)
    rcases hr with hr | hr | hr | hr | hr | hr
    · exact list6x0 hz bw hlen hc hr hn hf hl
    · exact list6x1 hz bw hlen hc hr hn hf hl
    · exact list6x2 hz bw hlen hc hr hn hf hl
    · exact list6x3 hz bw hlen hc hr hn hf hl
    · exact list6x4 hz bw hlen hc hr hn hf hl
    · exact list6x5 hz bw hlen hc hr hn hf hl
  · have hr : wh % ((7 : Nat) : Int) = (0 : Nat) ∨ wh % ((7 : Nat) : Int) = (1 : Nat) ∨ wh % ((7 : Nat) : Int) = (2 : Nat) ∨ wh % ((7 : Nat) : Int) = (3 : Nat) ∨ wh % ((7 : Nat) : Int) = (4 : Nat) ∨ wh % ((7 : Nat) : Int) = (5 : Nat) ∨ wh % ((7 : Nat) : Int) = (6 : Nat) := by omega
    have hf : off + 7 ≤ c.size := by omega
    have hl : ∀ i, i < 7 → c[off + i]? = some (.int .u8 (z i)) := fun i hi => hcell i (by omega)
    rcases hr with hr | hr | hr | hr | hr | hr | hr
    · exact list7x0 hz bw hlen hc hr hn hf hl
    · exact list7x1 hz bw hlen hc hr hn hf hl
    · exact list7x2 hz bw hlen hc hr hn hf hl
    · exact list7x3 hz bw hlen hc hr hn hf hl
    · exact list7x4 hz bw hlen hc hr hn hf hl
    · exact list7x5 hz bw hlen hc hr hn hf hl
    · exact list7x6 hz bw hlen hc hr hn hf hl
  · have hr : wh % ((8 : Nat) : Int) = (0 : Nat) ∨ wh % ((8 : Nat) : Int) = (1 : Nat) ∨ wh % ((8 : Nat) : Int) = (2 : Nat) ∨ wh % ((8 : Nat) : Int) = (3 : Nat) ∨ wh % ((8 : Nat) : Int) = (4 : Nat) ∨ wh % ((8 : Nat) : Int) = (5 : Nat) ∨ wh % ((8 : Nat) : Int) = (6 : Nat) ∨ wh % ((8 : Nat) : Int) = (7 : Nat) := by omega
    have hf : off + 8 ≤ c.size := by omega
    have hl : ∀ i, i < 8 → c[off + i]? = some (.int .u8 (z i)) := fun i hi => hcell i (by omega)
    rcases hr with hr | hr | hr | hr | hr | hr | hr | hr
    · exact list8x0 hz bw hlen hc hr hn hf hl
    · exact list8x1 hz bw hlen hc hr hn hf hl
    · exact list8x2 hz bw hlen hc hr hn hf hl
    · exact list8x3 hz bw hlen hc hr hn hf hl
    · exact list8x4 hz bw hlen hc hr hn hf hl
    · exact list8x5 hz bw hlen hc hr hn hf hl
    · exact list8x6 hz bw hlen hc hr hn hf hl
    · exact list8x7 hz bw hlen hc hr hn hf hl
end
theorem okWide_block {P : Program} {w : World} {r : Reach} {base : Nat} {t e : TypeId} {a : Addr} {len cap : Nat} (ht : P.underlying t = some (.slice e)) (h : Value.okWide P w r base t (.slice (some a) len cap)) : a.block < w.heap.size := by
  unfold Value.okWide at h
  rw [ht] at h
  have h : Cell.okWide P w r base t (.slice (some a) len cap) := h
  unfold Cell.okWide at h
  rw [ht] at h
  have h : Cell.ok P w r base t (.slice (some a) len cap) := h
  unfold Cell.ok at h
  rw [ht] at h
  obtain ⟨_, _, _, _, row, cells, hs, _⟩ := h
  unfold World.shape? at hs
  split at hs
  · rename_i hb
    exact (Array.getElem?_eq_some_iff.1 hb).1
  · cases hs
set_option maxRecDepth 100000 in
theorem lifted (os : Os) (started : os.Started) (H : Type) (enc : TypeId × Value → H) :
    ReturnsInHanded {} Tryz.checked os 3 .any (Rows.targetItemsSpec.pre6 enc Tryz.prog Tryz.f3 Rows.targetItemsRow.domain false) (Rows.targetItemsSpec.post enc Tryz.prog Tryz.f3 false true false false) := by
  refine returnsInHanded_of_change (C := Tryz.checked) own started (by kernel_rfl) Tryz.func3
    (ChangeSpec.witness6 (enc := enc) (C := Tryz.checked) false ⟨#[], #[.slice none 0 0, .int .u8 0], []⟩ 8 (by kernel_rfl) (by kernel_rfl) (by kernel_rfl) (by kernel_rfl)) ?_
  intro W base args ds gs before hval0 hW hcnd _
  have hW' := hW
  have hlt := hW.lt
  obtain ⟨p, q, hA0, hV, rfl, hfz, hnd⟩ := hW
  have hA : DataW.TrodAll enc Tryz.prog W 0 (fun _ => true) true Tryz.f3.params.toList args.toList ds p := hA0
  rw [Tryz.params3] at hA
  obtain ⟨v1, v2, d1, d2, p1, p2, rfl, rfl, rfl, hd1, hd2⟩ := trodAll_two hA
  obtain ⟨rfl, rfl⟩ := trodVars_none hV
  obtain ⟨wh, rfl, rfl, rfl, w2⟩ := open_int Tryz.underlying5 (hval0 1 _ _ rfl rfl) hd2
  have bw := Go.bounds_u8 w2
  obtain ⟨a, len, cap, rfl⟩ := okWide_slice Tryz.underlying22 (hval0 0 _ _ rfl rfl)
  simp only [List.append_nil] at hW' hlt
  have fin : Calls Tryz.prog 3 #[.slice a len cap, .int .u8 wh] W (fun e w' => e = .returned (.bool true) ∧ W.keptBut w' (fun _ => False)) →
      (∀ W' : World, W.keptBut W' (fun _ => False) → ∃ pa, DataW.Trod enc Tryz.prog W' 0 (fun b => decide (b < W.heap.size)) true 22 (.slice a len cap) d1 pa) →
      Calls Tryz.prog 3 #[.slice a len cap, .int .u8 wh] W fun e W' => ∃ v, e = .returned v ∧ Rows.targetItemsSpec.post enc Tryz.prog Tryz.f3 false true false false W #[.slice a len cap, .int .u8 wh] v W' := by
    intro hcall hback
    refine hcall.mono fun e W' ⟨he, hg⟩ => ?_
    subst he
    obtain ⟨pa, hpa⟩ := hback W' hg
    exact ⟨_, rfl, ⟨_, [], _, [], _, [], hW', trodAll_cons_mk (shut_bool Tryz.underlying4 _) trodAll_mk0, trodAll_mk2 hpa (shut_int Tryz.underlying5 w2), rfl, World.keptBut_mono (fun _ hp => hp.elim) hg, fun h => absurd h (by decide)⟩⟩
  obtain ⟨fuel, hf⟩ := hd1
  rcases open_ints Tryz.underlying22 Tryz.underlying5 cellsI hf with ⟨h1, h2⟩ | ⟨a', len', cap', zs, h1, hb0, hl, hm, hzl, h2, hcell, hwf⟩
  · have h1 : [Value.slice a len cap] = [.slice none 0 0] := h1
    simp only [List.cons.injEq, Value.slice.injEq, and_true] at h1
    obtain ⟨rfl, rfl, rfl⟩ := h1
    have hd : d1 = .nil := congrArg Prod.fst h2
    subst hd
    refine fin (noList wh bw W) fun W' hg => ⟨[], 1, ?_⟩
    show DataW.trod enc Tryz.prog W' 0 _ true 1 22 [.slice none 0 0] = _
    simp [DataW.trod, Tryz.underlying22]
  · have h1 : [Value.slice a len cap] = [.slice (some a') len' cap'] := h1
    simp only [List.cons.injEq, Value.slice.injEq, and_true] at h1
    obtain ⟨rfl, rfl, rfl⟩ := h1
    have hzl : zs.length = cap := by simpa using hzl
    have hd : d1 = .slice (lits .u8 (zs.take len)) (lits .u8 (zs.drop len)) := congrArg Prod.fst h2
    have hp1 : p1 = MemPlace.row a' zs.length := congrArg Prod.snd h2
    have hshape := hval0 0 _ _ rfl rfl
    have hlen : len < 9223372036854775808 := by
      have hmm : cap ≤ maxLen := hm
      unfold maxLen at hmm
      omega
    have hblk : a'.block < W.heap.size := okWide_block Tryz.underlying22 hshape
    refine fin ?_ fun W' hg => ⟨MemPlace.row a' zs.length, fuel + 2, ?_⟩
    · by_cases h0 : len = 0
      · subst h0
        exact emptyList wh bw a' cap W
      · obtain ⟨ab, ao, sp⟩ := a'
        have hsp : sp = none := by
          have := World.cell?_spot (hcell 0 (by omega))
          simpa [Addr.add] using this
        subst hsp
        have hcell : ∀ i, i < zs.length → W.cell? ⟨ab, ao + i, none⟩ = some (.int .u8 (zs.getD i 0)) := fun i hi => by rw [← add_plain]; exact hcell i hi
        have hc0 := hcell 0 (by omega)
        unfold World.cell? at hc0
        split at hc0
        · rename_i c el fz hc
          have hc : W.heap[ab]? = some (.cells c el fz) := hc
          have hget : ∀ i, i < zs.length → c[ao + i]? = some (.int .u8 (zs.getD i 0)) := fun i hi => by
            have := hcell i hi
            unfold World.cell? at this
            simpa [hc] using this
          have hb8 : ∀ i, 0 ≤ zs.getD i 0 ∧ zs.getD i 0 ≤ 255 := fun i => by
            by_cases hi : i < zs.length
            · have : zs.getD i 0 = zs[i] := by simp [List.getD, hi]
              rw [this]
              exact Go.bounds_u8 (hwf _ (List.getElem_mem hi))
            · have : zs.getD i 0 = 0 := by simp [List.getD, hi]
              rw [this]; omega
          have hfit : ao + len ≤ c.size := by
            have := (Array.getElem?_eq_some_iff.1 (hget (len - 1) (by omega))).1
            omega
          exact walk hb8 bw hlen hc (by omega) hfit (fun i hi => hget i (by omega))
        · cases hc0
    · rw [hd]
      refine shut_ints fuel Tryz.underlying22 Tryz.underlying5 cellsI (Nat.zero_le _) hl hm (by rw [hzl]; simp [hblk]) (fun i hi => ?_) hwf
      have hci := hcell i hi
      obtain ⟨ab, ao, sp⟩ := a'
      have hsp : sp = none := by
        have := World.cell?_spot (hcell 0 (by omega))
        simpa [Addr.add] using this
      subst hsp
      rw [add_plain] at hci ⊢
      rw [World.keptBut.cell hg hblk (fun h => h.elim)]
      exact hci

theorem isNamed : Tryz.pinned.checked.prog.funcNamed Rows.targetItemsRow.func = some 3 := by kernel_rfl
theorem isWrapped : Tryz.f3.isWrapper Tryz.pinned.checked.prog Rows.targetItemsRow.wrapper Rows.targetItemsRow.mainSum := by
  unfold Func.isWrapper
  first | (rw [if_pos (by decide +kernel)]; kernel_rfl) | (rw [if_neg (by decide +kernel)]; exact ⟨rfl, rfl⟩)

theorem over : Rows.targetItemsRow.holds Tryz.pinned (OpenSpec.ofChange Rows.targetItemsSpec) :=
  OpenClaim.holds_of_wide 3 Tryz.f3 rfl rfl rfl rfl rfl rfl rfl ⟨rfl, rfl, rfl, rfl, rfl⟩ rfl rfl rfl rfl rfl isNamed Tryz.func3 facts
    (of_decide_eq_true (by kernel_rfl)) isWrapped
    (fun os started H enc _ => lifted os started H enc)

theorem proved : Rows.TargetItemsSaid := over
#print axioms proved
end Go.Proofs.YtnlndbanfdjaiaaGreat.targetItems
