/-
  Chapter 5: equations about the table of marks.
  Chapter 5: what functions make of open arguments (printed by the desk's tool, each proved by the kernel): players and cards.
  Chapter 5: names, entries, cards, players: their checks.
  Chapter 5: cards and players checked; the net strokes of a player.
-/
import Derived.Test.YtanpmgfaieekhaaGreatDoorFmA
import Derived.KernelRfl
import Derived.Test.YtanpmgfaieekhaaGreatDoorFmS
import Derived.Test.YtanpmgfaieekhaaGreatDoorFmE
import Derived.Laws.RangeString
import Derived.Laws.RangeAny
section
namespace Go.Pd
open Go Go.Proofs
end Go.Pd
end
section
namespace Go.Pd
open Go Go.Proofs
set_option maxRecDepth 100000
end Go.Pd
end
section
namespace Go.Pd
open Go Go.Proofs Go.RowKit
theorem byteAt_get {s : ByteArray} {i : Nat} (h : i < s.size) : byteAt s i = (s[i]'h).toNat := by
  unfold byteAt
  have : s[i]? = some s[i] := by simp [h]
  rw [this]
def markC (s : ByteArray) : Bool := ByteArray.toList s == ByteArray.toList (ByteArray.mk #[99])
def entE (x : NetV) : Int := ifK (emptyB x.2 || markC x.2) (ifK (decide (x.1 < 1) || decide (x.1 > 99)) 3 0) (ifK (markX x.2 || dashB x.2) (ifK (x.1 != 0) 3 0) 13)
def bEnt : FuncId → List D → Option D := fun k ds => match k, ds with
  | 153, [.agg [.int .i64 x, .str s]] => some (.int .i64 (entE (x, s)))
  | 173, [.agg [.int .i64 x, .str s]] => some (.int .i64 (entE (x, s)))
  | _, _ => none
theorem a173 (x : Int) (s : ByteArray) : callOf bEnt 173 [.agg [.int .i64 x, .str s]] = some (.int .i64 (entE (x, s))) := rfl
end Go.Pd
end
section
namespace Go.Pd
open Go Go.Proofs Go.RowKit
section
variable {f g : Bool} {n : Nat} {c : List D} {P S : Nat → Int}
end
end Go.Pd
end
